import PyProof.Rows.All
import Wide.All
import OpenK.AllK
import Wide.FinOn
import HandS.ForMost
import HandS.IsInst
import HandS.FStr
import HandS.Gcd
import HandS.Style
import HandS.Nested
import HandS.Walk
import KE.KSuper
import HandS.Star
import HandS.ExcInit
import HandS.TryMany
import HandS.ExcField
import HandS.ExcOwn
import HandS.WordsExc
import KE.KExcSuper
import KE.KExcIs
import HandS.Text
import HandS.Flow
import PySem.Challenge.RW_surelet_k01_words_judged
set_option Elab.async false
set_option linter.all false
set_option maxRecDepth 100000
set_option maxHeartbeats 4000000
/-! Kit: my own layer over the hand layer: names by one check each, operations by values, the steps of a reading, the bag of a law. -/
namespace Kit
open PySem PySem.Spec PyProof.Rows L2

/-! ### names -/
def visB (sc : Scope) (x : Str) : Bool :=
  (match sc.names.lookup x with | some .local => true | some .cell => true | some .free => true | _ => false) && (!(x == ("__debug__" : Str)) && !(x == ("__classdict__" : Str)))
theorem visB_ok {sc : Scope} {x : Str} (h : visB sc x = true) : Vis sc x ∧ (x == ("__debug__" : Str)) = false ∧ (x == ("__classdict__" : Str)) = false := by
  unfold visB at h
  simp only [Bool.and_eq_true, Bool.not_eq_true'] at h
  obtain ⟨h1, h2, h3⟩ := h
  refine ⟨?_, h2, h3⟩
  unfold Vis
  split at h1
  · exact .inl (by assumption)
  · exact .inr (.inl (by assumption))
  · exact .inr (.inr (by assumption))
  · cases h1
def locB (sc : Scope) (x : Str) : Bool := match sc.names.lookup x with | some .local => true | _ => false
def celB (sc : Scope) (x : Str) : Bool := match sc.names.lookup x with | some .cell => true | _ => false
theorem locB_ok {sc : Scope} {x : Str} (h : locB sc x = true) : sc.names.lookup x = some .local := by
  unfold locB at h
  split at h
  · assumption
  · cases h
theorem celB_ok {sc : Scope} {x : Str} (h : celB sc x = true) : sc.names.lookup x = some .cell := by
  unfold celB at h
  split at h
  · assumption
  · cases h
section
variable {X : Cx}
theorem kv {i : Nat} {x : Str} {pos : Pos} (h : visB X.env.scope x = true) (hN : X.N[i]? = some x := by rfl) : PE X (.Name x pos) (tVar i) :=
  let ⟨a, b, c⟩ := visB_ok h
  pe_var hN a b c
theorem kgL {i : Nat} {x : Str} {pos : Pos} (hN : X.N.Nodup) (h : locB X.env.scope x = true) (hi : X.N[i]? = some x := by rfl) : PG X (.Name x pos) (gName i) :=
  pg_name hN hi (.inl (locB_ok h)) (.inr (locB_ok h))
theorem kgC {i : Nat} {x : Str} {pos : Pos} (hN : X.N.Nodup) (h : celB X.env.scope x = true) (hi : X.N[i]? = some x := by rfl) (hf : X.fn x = true := by rfl) : PG X (.Name x pos) (gName i) :=
  pg_name hN hi (.inr (celB_ok h)) (.inl hf)
theorem ks_setL {i : Nat} {x : Str} {e : Expr} {te : TE} {p' pos : Pos} (hN : X.N.Nodup) (h : locB X.env.scope x = true) (he : PE X e te) (hi : X.N[i]? = some x := by rfl) (hs : swapsWith e (some (.Name x p')) pos.line X.env = pure false := by rfl) :
    PS X (.Assign [.Name x p'] e pos) (tAsg te (gName i)) := ps_set hN hi (.inl (locB_ok h)) he hs (.inr (locB_ok h))
theorem ks_setC {i : Nat} {x : Str} {e : Expr} {te : TE} {p' pos : Pos} (hN : X.N.Nodup) (h : celB X.env.scope x = true) (he : PE X e te) (hi : X.N[i]? = some x := by rfl) (hs : swapsWith e (some (.Name x p')) pos.line X.env = pure false := by rfl) (hf : X.fn x = true := by rfl) :
    PS X (.Assign [.Name x p'] e pos) (tAsg te (gName i)) := ps_set hN hi (.inr (celB_ok h)) he hs (.inl hf)

/-! ### built-in names -/
section
variable {e : Expr} {es : List Expr} {t : TA} {p pos : Pos}
theorem kty_int (hg : Gl X "int") (hm : X.mg "int" = none) : PE X (.Name "int" pos) (tC (.ty "int")) := pe_bltn hg hm (u := .type "int") (by decide +kernel) rfl
theorem kty_bool (hg : Gl X "bool") (hm : X.mg "bool" = none) : PE X (.Name "bool" pos) (tC (.ty "bool")) := pe_bltn hg hm (u := .type "bool") (by decide +kernel) rfl
theorem kty_str (hg : Gl X "str") (hm : X.mg "str" = none) : PE X (.Name "str" pos) (tC (.ty "str")) := pe_bltn hg hm (u := .type "str") (by decide +kernel) rfl
theorem kty_list (hg : Gl X "list") (hm : X.mg "list" = none) : PE X (.Name "list" pos) (tC (.ty "list")) := pe_bltn hg hm (u := .type "list") (by decide +kernel) rfl
theorem kty_tuple (hg : Gl X "tuple") (hm : X.mg "tuple" = none) : PE X (.Name "tuple" pos) (tC (.ty "tuple")) := pe_bltn hg hm (u := .type "tuple") (by decide +kernel) rfl
theorem kty_dict (hg : Gl X "dict") (hm : X.mg "dict" = none) : PE X (.Name "dict" pos) (tC (.ty "dict")) := pe_bltn hg hm (u := .type "dict") (by decide +kernel) rfl
theorem kcls {x : Str} {C : Addr} (hg : Gl X x) (hm : X.mg x = some (.ref C)) (hd : (x == ("__debug__" : Str)) = false := by decide) : PE X (.Name x pos) (tC (.ref C)) := pe_glob (v := .ref C) hg hm rfl hd
theorem kcB {x : Str} {id : String} {r : List V → Hp → VK → Prop} (hv : bootBuiltins x = some (.builtin id)) (hn : x ≠ "__name__") (hdb : (x == ("__debug__" : Str)) = false) (hc : CallR X (.builtin id) r) (hg : Gl X x) (hm : X.mg x = none) (ha : PA X (e :: es) t)
    (he : starEach (e :: es) X.env = (false, eval e X.env) :: starEach es X.env := by rfl) (hpl : (backTo pos (starEach es X.env)).any (·.1) = false := by rfl) : PE X (.Call (.Name x p) (e :: es) [] pos) (tCB r t) := pe_callB hc hg hm hv ha hn hdb he hpl
theorem kcT {x : Str} {T : String} {r : List V → Hp → VK → Prop} (hv : bootBuiltins x = some (.type T)) (hn : x ≠ "__name__") (hdb : (x == ("__debug__" : Str)) = false) (hc : CallR X (.type T) r) (hg : Gl X x) (hm : X.mg x = none) (ha : PA X (e :: es) t)
    (he : starEach (e :: es) X.env = (false, eval e X.env) :: starEach es X.env := by rfl) (hpl : (backTo pos (starEach es X.env)).any (·.1) = false := by rfl) : PE X (.Call (.Name x p) (e :: es) [] pos) (tCB r t) := pe_callTy hc hg hm hv ha hn hdb he hpl
theorem b_len : bootBuiltins "len" = some (.builtin "len") := by decide +kernel
theorem b_isinstance : bootBuiltins "isinstance" = some (.builtin "isinstance") := by decide +kernel
theorem b_max : bootBuiltins "max" = some (.builtin "max") := by decide +kernel
theorem b_min : bootBuiltins "min" = some (.builtin "min") := by decide +kernel
theorem b_abs : bootBuiltins "abs" = some (.builtin "abs") := by decide +kernel
theorem b_all : bootBuiltins "all" = some (.builtin "all") := by decide +kernel
theorem b_any : bootBuiltins "any" = some (.builtin "any") := by decide +kernel
theorem b_sum : bootBuiltins "sum" = some (.builtin "sum") := by decide +kernel
theorem b_ord : bootBuiltins "ord" = some (.builtin "ord") := by decide +kernel
theorem b_sorted : bootBuiltins "sorted" = some (.builtin "sorted") := by decide +kernel
theorem b_int : bootBuiltins "int" = some (.type "int") := by decide +kernel
theorem b_str : bootBuiltins "str" = some (.type "str") := by decide +kernel
theorem b_bool : bootBuiltins "bool" = some (.type "bool") := by decide +kernel
theorem b_list : bootBuiltins "list" = some (.type "list") := by decide +kernel
theorem b_tuple : bootBuiltins "tuple" = some (.type "tuple") := by decide +kernel
theorem b_dict : bootBuiltins "dict" = some (.type "dict") := by decide +kernel
end

/-! ### operations by values -/
def rAddU : R2 := fun x y H Q => match x, y with
  | .int i, .int j => Q (.int (i + j)) H
  | .str a, .str b => a.length + b.length ≤ sizeLine ∧ Q (.str (a ++ b)) H
  | .ref a, .ref b => ∃ xs ys, H a = some (.lst xs) ∧ H b = some (.lst ys) ∧ xs.length + ys.length ≤ sizeLine ∧ ∀ p, H p = none → Q (.ref p) (upd H p (.lst (xs ++ ys)))
  | _, _ => False
theorem kop_add : OpR X (binaryOp .Add) rAddU := by
  intro pins s σ H x y v u Q I rx ry h
  cases x <;> cases y <;> first
    | exact h.elim
    | exact op_add pins s σ H _ _ v u Q I rx ry ⟨_, _, rfl, rfl, h⟩
    | exact op_add_str pins s σ H _ _ v u Q I rx ry ⟨_, _, rfl, rfl, h.1, h.2⟩
    | (obtain ⟨xs, ys, h1, h2, h3, h4⟩ := h; exact op_cat pins s σ H _ _ v u Q I rx ry ⟨_, _, xs, ys, rfl, rfl, h1, h2, h3, h4⟩)
/-- math.lcm of two numbers from 0 on, below 2 ^ 32 -/
def rLcm : List V → Hp → VK → Prop := fun vs H Q => ∃ a b : Int, vs = [.int a, .int b] ∧ 0 ≤ a ∧ a < 2 ^ 32 ∧ 0 ≤ b ∧ b < 2 ^ 32 ∧ Q (.int ((Nat.lcm a.natAbs b.natAbs : Nat) : Int)) H
theorem kcr_lcm : CallR X (.builtin "math.lcm") rLcm := by
  intro pins s σ H vs us Q I r h
  obtain ⟨a, b, rfl, ha, ha2, hb, hb2, q⟩ := h
  obtain ⟨t, u, rfl⟩ := Vals.int2 r
  have e : (Nat.lcm 1 a.natAbs).lcm b.natAbs = Nat.lcm a.natAbs b.natAbs := by rw [Nat.lcm_one_left]
  have hle : Nat.lcm a.natAbs b.natAbs < 2 ^ 64 := by
    by_cases h0 : a.natAbs = 0
    · rw [h0, Nat.lcm_zero_left]; decide
    · by_cases h1 : b.natAbs = 0
      · rw [h1, Nat.lcm_zero_right]; decide
      · have q1 : Nat.lcm a.natAbs b.natAbs ≤ a.natAbs * b.natAbs := Nat.le_of_dvd (Nat.mul_pos (by omega) (by omega)) (Nat.lcm_dvd (Nat.dvd_mul_right _ _) (Nat.dvd_mul_left _ _))
        have q2 : a.natAbs * b.natAbs < 2 ^ 32 * 2 ^ 32 := Nat.mul_lt_mul'' (by omega) (by omega)
        omega
  refine PySem.W.mg_lcm (by omega) (by omega) ?_ ?_
  · rw [e, Int.natAbs_natCast]
    by_cases h0 : Nat.lcm a.natAbs b.natAbs = 0
    · rw [h0]; decide
    · have : (Nat.lcm a.natAbs b.natAbs).log2 < 64 := (Nat.log2_lt h0).mpr hle
      exact Nat.lt_of_lt_of_le this (by decide)
  · rw [e]
    exact ⟨.int _, H, I.tok _, ⟨_, rfl⟩, q⟩
end


/-! ### rules with the written part told -/
section
variable {X : Cx}
/-- a statement whose ways meet in W -/
def tMeet (t u : TS) : TS := fun D σ H => ∃ W : L2.St → Hp → Prop, t { D with nx := W } σ H ∧ ∀ σ' H', W σ' H' → u D σ' H'
theorem kss_meet {st : Stmt} {rest : List Stmt} {t u : TS} (h1 : PS X st t) (h2 : PSs X rest u) : PSs X (st :: rest) (tMeet t u) := by
  refine ⟨fun pins s σ H D I h => ?_⟩
  obtain ⟨W, hw, hu⟩ := h
  refine wpAny_execs_cons (thn (h1.run pins s σ H _ I hw) fun f s' hf => ?_)
  cases f with
  | next =>
    obtain ⟨σ', H', I', q⟩ := hf
    exact h2.run pins s' σ' H' D I' (hu σ' H' q)
  | ret u => exact hf
  | brk => exact hf
  | cont => exact hf
theorem kix (K : PySem.W.Frag) (hK : X.K = K := by rfl) : IxR X (rIx K) := by subst hK; exact ix_seq
def rLenU (K : PySem.W.Frag) : List V → Hp → VK → Prop := fun xs H Q => ∃ x n, xs = [x] ∧ LenV K x H n ∧ Q (.int (n : Nat)) H
theorem kc_len (K : PySem.W.Frag) (hK : X.K = K := by rfl) : CallR X (.builtin "len") (rLenU K) := by subst hK; exact call_len
def rInt1 : List V → Hp → VK → Prop := fun xs H Q => match xs with
  | [.int i] => Q (.int i) H
  | [.bl k] => Q (.int (if k then 1 else 0)) H
  | _ => False
theorem kc_int : CallR X (.type "int") rInt1 := by
  intro pins s σ H xs us Q I r h
  match xs, r, h with
  | [.int i], r, h => exact call_int1 pins s σ H _ us Q I r (.inl ⟨i, rfl, h⟩)
  | [.bl k], r, h => exact call_int1 pins s σ H _ us Q I r (.inr ⟨k, rfl, h⟩)
def rBool1 : List V → Hp → VK → Prop := fun xs H Q => match xs with
  | [.int i] => Q (.bl (i != 0)) H
  | [.bl k] => Q (.bl k) H
  | _ => False
theorem kc_bool : CallR X (.type "bool") rBool1 := by
  intro pins s σ H xs us Q I r h
  match xs, r, h with
  | [.int i], r, h => exact call_bool1 pins s σ H _ us Q I r (.inl ⟨i, rfl, h⟩)
  | [.bl k], r, h => exact call_bool1 pins s σ H _ us Q I r (.inr ⟨k, rfl, h⟩)
def rStr1 : List V → Hp → VK → Prop := fun xs H Q => ∃ i : Int, xs = [.int i] ∧ i.natAbs.log2 < 1920 ∧ Q (.str (toString i)) H
theorem kc_str : CallR X (.type "str") rStr1 := call_str_int
def rListU (K : PySem.W.Frag) : List V → Hp → VK → Prop := fun xs H Q => ∃ p ys, xs = [.ref p] ∧ (SqL K H p ys ∨ SqT K H p ys) ∧ ∀ l, H l = none → Q (.ref l) (upd H l (.lst ys))
theorem kc_list (K : PySem.W.Frag) (hK : X.K = K := by rfl) : CallR X (.type "list") (rListU K) := by subst hK; exact call_list_of
def rTupleU (K : PySem.W.Frag) : List V → Hp → VK → Prop := fun xs H Q => ∃ p ys, xs = [.ref p] ∧ ((SqL K H p ys ∧ ∀ l, H l = none → Q (.ref l) (upd H l (.tup ys))) ∨ (SqT K H p ys ∧ Q (.ref p) H))
theorem kc_tuple (K : PySem.W.Frag) (hK : X.K = K := by rfl) : CallR X (.type "tuple") (rTupleU K) := by subst hK; exact call_tuple_of
theorem kc_isi (K : PySem.W.Frag) (hK : X.K = K := by rfl) : CallR X (.builtin "isinstance") (rIsi K) := by subst hK; exact call_isi
theorem kc_isiT (K : PySem.W.Frag) (hK : X.K = K := by rfl) : CallR X (.builtin "isinstance") (rIsiT K) := by subst hK; exact call_isiT
def rMax2 : List V → Hp → VK → Prop := fun xs H Q => match xs with
  | [.int i, .int j] => Q (.int (if j > i then j else i)) H
  | _ => False
theorem kc_max2 (hc : X.calm = true) : CallR X (.builtin "max") rMax2 := by
  intro pins s σ H xs us Q I r h
  match xs, r, h with
  | [.int i, .int j], r, h => exact call_max2 hc pins s σ H _ us Q I r ⟨i, j, rfl, h⟩
def rMin2 : List V → Hp → VK → Prop := fun xs H Q => match xs with
  | [.int i, .int j] => Q (.int (if j < i then j else i)) H
  | _ => False
theorem kc_min2 (hc : X.calm = true) : CallR X (.builtin "min") rMin2 := by
  intro pins s σ H xs us Q I r h
  match xs, r, h with
  | [.int i, .int j], r, h => exact call_min2 hc pins s σ H _ us Q I r ⟨i, j, rfl, h⟩
theorem kc_sum (K : PySem.W.Frag) (hc : X.calm = true) (hK : X.K = K := by rfl) : CallR X (.builtin "sum") (rSum K) := by subst hK; exact cr_sum hc
theorem ksl_list (K : PySem.W.Frag) (hK : X.K = K := by rfl) : SlR X (rSlL K) := by subst hK; exact sl_list
theorem kpi_list (K : PySem.W.Frag) {tg l : Expr} {tl : TE} (hl : PE X l tl) (hK : X.K = K := by rfl) : PI X tg l (iList K tl) := by subst hK; exact pi_list hl
theorem kpi_tup (K : PySem.W.Frag) {tg l : Expr} {tl : TE} (hl : PE X l tl) (hK : X.K = K := by rfl) : PI X tg l (iTup K tl) := by subst hK; exact pi_tup hl
theorem kpe_fld (K : PySem.W.Frag) {e : Expr} {f : Str} {ta : TE} {pos : Pos} (he : PE X e ta) (hK : X.K = K := by rfl) (hb : attributeBase e f X.env (eval e X.env) = eval e X.env := by rfl) : PE X (.Attribute e f pos) (tFld K ta f) := by subst hK; exact pe_fld he hb
theorem kps_fld (K : PySem.W.Frag) {o value : Expr} {f : Str} {ta tv : TE} {pos pos' : Pos} (ha : PE X o ta) (hv : PE X value tv) (hK : X.K = K := by rfl) (hs : swapsWith value (some (.Attribute o f pos')) pos.line X.env = pure false := by rfl) : PS X (.Assign [.Attribute o f pos'] value pos) (sFld K ta tv f) := by subst hK; exact ps_fld ha hv hs
def tTruU (K : PySem.W.Frag) (ta : TE) : TT := fun σ H Q => ta σ H fun x H' => ∃ k, TruV K x H' k ∧ Q k H'
theorem kpt_truth (K : PySem.W.Frag) {a : Expr} {ta : TE} (ha : PE X a ta) (hK : X.K = K := by rfl) (he : ∀ whole, isTrue a X.env whole = (do let v ← whole; standAt a.pos; holding [v] (truthy v)) := by intro _; rfl) : PT X a (tTruU K ta) := by subst hK; exact pt_truth ha he
theorem kop_in (K : PySem.W.Frag) (hK : X.K = K := by rfl) : OpR X (compareOp .In) (rIn K false) := by subst hK; exact op_in_seq
theorem kop_nin (K : PySem.W.Frag) (hK : X.K = K := by rfl) : OpR X (compareOp .NotIn) (rIn K true) := by subst hK; exact op_notIn_seq
theorem kpg_tup (K : PySem.W.Frag) (n : Nat) {es : List Expr} {k : Nat} {t : TGs} {pos : Pos} (hc : X.calm = true) (h : PGs X es t) (hK : X.K = K := by rfl) (hn : (assignEach es X.env).length = n := by rfl) (hst : (assignEach es X.env).findIdx? (·.1) = none := by rfl) : PG X (.Tuple es k pos) (gTup K n t) := by subst hK; exact pg_tup hc h hn hst
end

theorem small_size' {n : Nat} (h : n ≤ 1000000) : n ≤ sizeLine := Nat.le_trans h (by rw [sizeLine_eq]; decide)
/-! ### the steps of a reading -/
section
variable {σ : L2.St} {H : Hp} {Q : VK} {D : Ends} {t u : TS} {te ta tb : TE} {tt tu : TT} {tA tr : TA} {g : TG} {i : Nat} {v x y : V} {r : R2}
theorem k_seq (h : t { D with nx := u D } σ H) : tSeq t u D σ H := h
theorem k_asg (h : te σ H fun x H1 => g x σ H1 D.nx) : tAsg te g D σ H := h
theorem k_gName {Q : L2.St → Hp → Prop} (h : Q (σ.set i (some v)) H) : gName i v σ H Q := h
theorem k_drop (h : te σ H fun _ H1 => D.nx σ H1) : tDrop te D σ H := h
theorem k_ret (h : te σ H D.rt) : tRet te D σ H := h
theorem k_retN (h : D.rt .non H) : tRetN D σ H := h
theorem k_next (h : D.nx σ H) : tNext D σ H := h
theorem k_break (h : D.bk σ H) : tBreak D σ H := h
theorem k_cont (h : D.ct σ H) : tCont D σ H := h
theorem k_ifS (h : tt σ H fun b H1 => if b = true then t D σ H1 else u D σ H1) : tIfS tt t u D σ H := h
theorem k_var (h : σ[i]? = some (some v)) (k : Q v H) : tVar i σ H Q := ⟨v, h, k⟩
theorem k_c (k : Q v H) : tC v σ H Q := k
theorem k_op (h : ta σ H fun x H1 => tb σ H1 fun y H2 => r x y H2 Q) : tOp r ta tb σ H Q := h
theorem k_un {r : V → Hp → VK → Prop} (h : ta σ H fun x H1 => r x H1 Q) : tUn r ta σ H Q := h
theorem k_test {Q : Bool → Hp → Prop} (h : te σ H fun x H' => ∃ k, x = .bl k ∧ Q k H') : tTest te σ H Q := h
theorem k_B {Q : Bool → Hp → Prop} (h : te σ H fun x H' => ∃ k, x = .bl k ∧ Q k H') : tB te σ H Q := h
theorem k_bl {b : Bool} {Q : Bool → Prop} (h : Q b) : ∃ k, V.bl b = .bl k ∧ Q k := ⟨b, rfl, h⟩
theorem k_and {Q : Bool → Hp → Prop} (h : tt σ H fun c H1 => if c = true then tu σ H1 Q else Q false H1) : tAnd tt tu σ H Q := h
theorem k_or {Q : Bool → Hp → Prop} (h : tt σ H fun c H1 => if c = true then Q true H1 else tu σ H1 Q) : tOr tt tu σ H Q := h
theorem k_not {Q : Bool → Hp → Prop} (h : tt σ H fun c H1 => Q (!c) H1) : tNot tt σ H Q := h
theorem k_andV (h : ta σ H fun x H1 => ∃ c, x = .bl c ∧ if c = true then tb σ H1 Q else Q (.bl false) H1) : tAndV ta tb σ H Q := h
theorem k_orV (h : ta σ H fun x H1 => ∃ c, x = .bl c ∧ if c = true then Q (.bl true) H1 else tb σ H1 Q) : tOrV ta tb σ H Q := h
theorem k_notV (h : ta σ H fun x H1 => ∃ c, x = .bl c ∧ Q (.bl (!c)) H1) : tNotV ta σ H Q := h
theorem k_if (h : tt σ H fun c H1 => if c = true then ta σ H1 Q else tb σ H1 Q) : tIf tt ta tb σ H Q := h
theorem k_nil {Q : List V → Hp → Prop} (h : Q [] H) : tNil σ H Q := h
theorem k_cons {Q : List V → Hp → Prop} (h : ta σ H fun x H1 => tr σ H1 fun xs H2 => Q (x :: xs) H2) : tCons ta tr σ H Q := h
theorem k_CB {r : List V → Hp → VK → Prop} (h : tA σ H fun vs H1 => r vs H1 Q) : tCB r tA σ H Q := h
theorem k_call {sp : Sp} {dvs : List V} {E : XK} (h : tA σ H fun vs H1 => sp (vs ++ dvs) H1 Q E) : tCall sp dvs E tA σ H Q := h
theorem k_tup (h : tA σ H fun xs H1 => xs.length ≤ sizeLine ∧ ∀ p, H1 p = none → Q (.ref p) (upd H1 p (.tup xs))) : tTup tA σ H Q := h
theorem k_lst (h : tA σ H fun xs H1 => xs.length ≤ sizeLine ∧ ∀ p, H1 p = none → Q (.ref p) (upd H1 p (.lst xs))) : tLst tA σ H Q := h
theorem k_tru {K : PySem.W.Frag} {Q : Bool → Hp → Prop} (h : ta σ H fun x H' => ∃ k, TruV K x H' k ∧ Q k H') : (fun (σ : L2.St) (H : Hp) (Q : Bool → Hp → Prop) => ta σ H fun x H' => ∃ k, TruV K x H' k ∧ Q k H') σ H Q := h
theorem k_gSub {to ti : TE} {t : TSet} {Q : L2.St → Hp → Prop} (h : to σ H fun o H1 => ti σ H1 fun i H2 => t o i v H2 fun H3 => Q σ H3) : gSub to ti t v σ H Q := h
theorem k_par {i j : Nat} (h : tA σ H fun vs H1 => ∃ v w, vs = [v, w] ∧ D.nx ((σ.set i (some v)).set j (some w)) H1) : tPar i j tA D σ H := h
theorem k_pair {v w : V} {P : V → V → Prop} (h : P v w) : ∃ a b, [v, w] = [a, b] ∧ P a b := ⟨v, w, rfl, h⟩
theorem k_sl {r : V → Option Int → Option Int → Hp → VK → Prop} {tl th : TO} (h : te σ H fun x H1 => tl σ H1 fun l H2 => th σ H2 fun u H3 => r x l u H3 Q) : tSl r te tl th σ H Q := h
theorem k_noPart {Q : Option Int → Hp → Prop} (h : Q none H) : tNoPart σ H Q := h
theorem k_part {Q : Option Int → Hp → Prop} (h : te σ H fun x H1 => ∃ i, x = .int i ∧ Q (some i) H1) : tPart te σ H Q := h
theorem k_int {i : Int} {P : Int → Prop} (h : P i) : ∃ j, V.int i = .int j ∧ P j := ⟨i, rfl, h⟩

/-- values -/
theorem k_addI {i j : Int} (k : Q (.int (i + j)) H) : rAddU (.int i) (.int j) H Q := k
theorem k_I0 {f : Int → Int → V} {i j : Int} (k : Q (f i j) H) : rI0 f (.int i) (.int j) H Q := ⟨i, j, rfl, rfl, k⟩
theorem k_I {C : Int → Int → Prop} {f : Int → Int → V} {i j : Int} (c : C i j) (k : Q (f i j) H) : rI C f (.int i) (.int j) H Q := ⟨i, j, rfl, rfl, c, k⟩
theorem k_U {f : Int → V} {i : Int} (k : Q (f i) H) : rU f (.int i) H Q := ⟨i, rfl, k⟩
theorem k_eq {x y : V} (s : scal x y = true) (k : Q (.bl (decide (x = y))) H) : rEq x y H Q := ⟨s, k⟩
theorem k_ne {x y : V} (s : scal x y = true) (k : Q (.bl (!decide (x = y))) H) : rNe x y H Q := ⟨s, k⟩
theorem k_eqI {i j : Int} (k : Q (.bl (decide (i = j))) H) : rEq (.int i) (.int j) H Q := ⟨rfl, by
  have e : decide (V.int i = V.int j) = decide (i = j) := by simp
  rw [e]; exact k⟩
theorem k_neI {i j : Int} (k : Q (.bl (!decide (i = j))) H) : rNe (.int i) (.int j) H Q := ⟨rfl, by
  have e : decide (V.int i = V.int j) = decide (i = j) := by simp
  rw [e]; exact k⟩
theorem k_ixL {K : PySem.W.Frag} {p : Addr} {xs : List V} {i : Int} (h : SqL K H p xs) (a : atI xs i = some v) (k : Q v H) : rIx K (.ref p) (.int i) H Q := .inl ⟨p, xs, i, v, rfl, rfl, h, a, k⟩
theorem k_ixT {K : PySem.W.Frag} {p : Addr} {xs : List V} {i : Int} (h : SqT K H p xs) (a : atI xs i = some v) (k : Q v H) : rIx K (.ref p) (.int i) H Q := .inr (.inl ⟨p, xs, i, v, rfl, rfl, h, a, k⟩)
theorem k_ixS {K : PySem.W.Frag} {z : Str} {i : Int} {c : Nat} (h : z.length ≤ sizeLine) (a : atI z.cps.toList i = some c) (k : Q (.str ⟨#[c]⟩) H) : rIx K (.str z) (.int i) H Q := .inr (.inr ⟨z, i, c, rfl, rfl, h, a, k⟩)
theorem k_meet {σ : L2.St} {H : Hp} {D : Ends} {t u : TS} (W : L2.St → Hp → Prop) (h : t { D with nx := W } σ H) (k : ∀ σ' H', W σ' H' → u D σ' H') : tMeet t u D σ H := ⟨W, h, k⟩
theorem k_addL {p q : Addr} {xs ys : List V} {H : Hp} {Q : VK} (h1 : H p = some (.lst xs)) (h2 : H q = some (.lst ys)) (hz : xs.length + ys.length ≤ 1000000) (k : ∀ l, H l = none → Q (.ref l) (upd H l (.lst (xs ++ ys)))) : rAddU (.ref p) (.ref q) H Q := ⟨xs, ys, h1, h2, small_size' hz, k⟩
theorem k_addS {a b : Str} {H : Hp} {Q : VK} (hz : a.length + b.length ≤ 1000000) (k : Q (.str (a ++ b)) H) : rAddU (.str a) (.str b) H Q := ⟨small_size' hz, k⟩
theorem k_int1 {i : Int} (k : Q (.int i) H) : rInt1 [.int i] H Q := k
theorem k_lenL {K : PySem.W.Frag} {p : Addr} {xs : List V} (h : SqL K H p xs) (k : Q (.int (xs.length : Nat)) H) : rLenU K [.ref p] H Q := ⟨_, _, rfl, .inl ⟨xs, h, rfl⟩, k⟩
theorem k_lenT {K : PySem.W.Frag} {p : Addr} {xs : List V} (h : SqT K H p xs) (k : Q (.int (xs.length : Nat)) H) : rLenU K [.ref p] H Q := ⟨_, _, rfl, .inr ⟨xs, h, rfl⟩, k⟩
theorem k_lenS {K : PySem.W.Frag} {z : Str} (h : z.length ≤ sizeLine) (k : Q (.int (z.length : Nat)) H) : rLenU K [.str z] H Q := ⟨_, _, rfl, ⟨h, rfl⟩, k⟩
theorem k_max2 {i j : Int} (k : Q (.int (if j > i then j else i)) H) : rMax2 [.int i, .int j] H Q := k
theorem k_min2 {i j : Int} (k : Q (.int (if j < i then j else i)) H) : rMin2 [.int i, .int j] H Q := k
theorem k_setL {p : Addr} {xs : List V} {k : Int} {j : Nat} {w : V} {Q : Hp → Prop} (h : H p = some (.lst xs)) (e : ixN xs.length k = some j) (q : Q (upd H p (.lst (xs.set j w)))) : rSetL (.ref p) (.int k) w H Q := ⟨p, xs, k, j, rfl, rfl, h, e, q⟩
/-- tests whose answer is known, or open -/
theorem k_t {A B : Prop} (h : A) : if true = true then A else B := by rw [if_pos rfl]; exact h
theorem k_f {A B : Prop} (h : B) : if false = true then A else B := by rw [if_neg Bool.false_ne_true]; exact h
theorem k_t' {A B : Prop} (h : A) : if (!false) = true then A else B := k_t (B := B) h
theorem k_f' {A B : Prop} (h : B) : if (!true) = true then A else B := k_f (A := A) h
theorem k_o1 {b : Bool} {A B : Prop} (h : A) : if (true || b) = true then A else B := k_t (B := B) h
theorem k_o2 {A B : Prop} (h : A) : if (false || true) = true then A else B := k_t (B := B) h
theorem k_o3 {A B : Prop} (h : B) : if (false || false) = true then A else B := k_f (A := A) h
theorem k_o4 {b : Bool} {A B : Prop} (h : B) : if (!(true || b)) = true then A else B := k_f (A := A) h
theorem k_o5 {A B : Prop} (h : B) : if (!(false || true)) = true then A else B := k_f (A := A) h
theorem k_o6 {A B : Prop} (h : A) : if (!(false || false)) = true then A else B := k_t (B := B) h
theorem k_chain {r r' : R2} {tc : TE} (h : ta σ H fun x H1 => tb σ H1 fun y H2 => r x y H2 fun z H3 => ∃ k, z = .bl k ∧ (if k = true then tc σ H3 fun w' H4 => r' y w' H4 Q else Q (.bl false) H3)) : tChain r r' ta tb tc σ H Q := h
theorem k_dt {c : Prop} [Decidable c] {A B : Prop} (hc : c) (h : A) : if decide c = true then A else B := by rw [decide_eq_true hc]; exact k_t h
theorem k_df {c : Prop} [Decidable c] {A B : Prop} (hc : ¬ c) (h : B) : if decide c = true then A else B := by rw [decide_eq_false hc]; exact k_f h
theorem k_d {c : Prop} [Decidable c] {A B : Prop} (h1 : c → A) (h2 : ¬ c → B) : if decide c = true then A else B := by
  by_cases hc : c
  · exact k_dt hc (h1 hc)
  · exact k_df hc (h2 hc)
theorem k_nt {c : Prop} [Decidable c] {A B : Prop} (hc : c) (h : B) : if (!decide c) = true then A else B := by rw [decide_eq_true hc]; exact k_f h
theorem k_nf {c : Prop} [Decidable c] {A B : Prop} (hc : ¬ c) (h : A) : if (!decide c) = true then A else B := by rw [decide_eq_false hc]; exact k_t h
theorem k_n {c : Prop} [Decidable c] {A B : Prop} (h1 : c → B) (h2 : ¬ c → A) : if (!decide c) = true then A else B := by
  by_cases hc : c
  · exact k_nt hc (h1 hc)
  · exact k_nf hc (h2 hc)
theorem k_b {b : Bool} {A B : Prop} (h1 : b = true → A) (h2 : b = false → B) : if b = true then A else B := by
  cases b with
  | true => exact k_t (h1 rfl)
  | false => exact k_f (h2 rfl)
end

/-! ### heaps -/
theorem same_new {H : Hp} {p : Addr} {o : HO} (h : H p = none) : Same H (upd H p o) := fun a u e => by
  rw [upd_ne (ne_of_none e h)]
  exact e
theorem same_t {K : PySem.W.Frag} {H H' : Hp} {a : Addr} {xs : List V} (e : Same H H') (h : SqT K H a xs) : SqT K H' a xs := by
  rcases h with (h | ⟨o, h⟩) | h
  · exact .inl (.inl (e _ _ h))
  · exact .inl (.inr ⟨o, e _ _ h⟩)
  · exact .inr h
/-- over a heap G that does not know b, b's object put on top -/
theorem up_same {G : Hp} {b : Addr} {β : HO} (hb : G b = none) : Same G (upd G b β) := same_new hb
theorem up_get {G : Hp} {a b : Addr} {o β : HO} (hb : G b = none) (h : G a = some o) : upd G b β a = some o := same_new hb _ _ h
theorem up_none {G : Hp} {p b : Addr} {β : HO} (h : upd G b β p = none) : G p = none ∧ p ≠ b := by
  by_cases e : p = b
  · rw [e, upd_same] at h; cases h
  · rw [upd_ne e] at h; exact ⟨h, e⟩
theorem upd_swap {G : Hp} {a b : Addr} {o β : HO} (h : a ≠ b) : upd (upd G b β) a o = upd (upd G a o) b β := by
  funext c
  unfold upd
  by_cases h1 : c = a
  · subst h1
    simp [h]
  · simp [h1]
theorem up_new {G : Hp} {b : Addr} {β o : HO} {P : Addr → Hp → Prop} (hb : G b = none) (k : ∀ p G', G p = none → p ≠ b → G' = upd G p o → G' b = none → Same G G' → G' p = some o → P p (upd G' b β)) :
    ∀ p, upd G b β p = none → P p (upd (upd G b β) p o) := fun p hp => by
  obtain ⟨h1, h2⟩ := up_none hp
  rw [upd_swap h2]
  exact k p _ h1 h2 rfl (by rw [upd_ne (Ne.symm h2)]; exact hb) (same_new h1) upd_same
theorem k_setLu {G : Hp} {b : Addr} {xs ys : List V} {k : Int} {j : Nat} {w : V} {Q : Hp → Prop} (e : ixN xs.length k = some j) (ey : xs.set j w = ys) (q : Q (upd G b (.lst ys))) : rSetL (.ref b) (.int k) w (upd G b (.lst xs)) Q := by
  subst ey
  exact k_setL upd_same e (by rw [upd_upd]; exact q)
theorem upd_at {H H' : Hp} {p : Addr} {o : HO} (e : upd H p o = H') : H' p = some o := by rw [← e]; exact upd_same
theorem upd_sm {H H' : Hp} {p : Addr} {o : HO} (e : upd H p o = H') (n : H p = none) : Same H H' := by rw [← e]; exact same_new n
theorem split_up {G H' : Hp} {b : Addr} {β : HO} (hb : G b = none) (e : Same (upd G b β) H') : ∃ G', G' b = none ∧ Same G G' ∧ H' = upd G' b β := by
  refine ⟨fun a => if a = b then none else H' a, if_pos rfl, fun a o h => ?_, ?_⟩
  · show (if a = b then none else H' a) = some o
    have hne : a ≠ b := ne_of_none h hb
    rw [if_neg hne]
    exact e _ _ (up_get hb h)
  · funext a
    unfold upd
    by_cases h : a = b
    · rw [if_pos h, h]
      exact e _ _ upd_same
    · rw [if_neg h]
      show H' a = if a = b then none else H' a
      rw [if_neg h]
theorem kb_int_int : kitB "int" "int" = some true := by decide +kernel
theorem kb_int_bool : kitB "int" "bool" = some false := by decide +kernel
theorem kb_int_str : kitB "int" "str" = some false := by decide +kernel
theorem kb_int_list : kitB "int" "list" = some false := by decide +kernel
theorem kb_int_tuple : kitB "int" "tuple" = some false := by decide +kernel
theorem kb_int_dict : kitB "int" "dict" = some false := by decide +kernel
theorem kb_bool_int : kitB "bool" "int" = some true := by decide +kernel
theorem kb_bool_bool : kitB "bool" "bool" = some true := by decide +kernel
theorem kb_bool_str : kitB "bool" "str" = some false := by decide +kernel
theorem kb_bool_list : kitB "bool" "list" = some false := by decide +kernel
theorem kb_bool_tuple : kitB "bool" "tuple" = some false := by decide +kernel
theorem kb_bool_dict : kitB "bool" "dict" = some false := by decide +kernel
theorem kb_str_int : kitB "str" "int" = some false := by decide +kernel
theorem kb_str_bool : kitB "str" "bool" = some false := by decide +kernel
theorem kb_str_str : kitB "str" "str" = some true := by decide +kernel
theorem kb_str_list : kitB "str" "list" = some false := by decide +kernel
theorem kb_str_tuple : kitB "str" "tuple" = some false := by decide +kernel
theorem kb_str_dict : kitB "str" "dict" = some false := by decide +kernel
theorem kb_NoneType_int : kitB "NoneType" "int" = some false := by decide +kernel
theorem kb_NoneType_bool : kitB "NoneType" "bool" = some false := by decide +kernel
theorem kb_NoneType_str : kitB "NoneType" "str" = some false := by decide +kernel
theorem kb_NoneType_list : kitB "NoneType" "list" = some false := by decide +kernel
theorem kb_NoneType_tuple : kitB "NoneType" "tuple" = some false := by decide +kernel
theorem kb_NoneType_dict : kitB "NoneType" "dict" = some false := by decide +kernel
theorem kb_list_int : kitB "list" "int" = some false := by decide +kernel
theorem kb_list_bool : kitB "list" "bool" = some false := by decide +kernel
theorem kb_list_str : kitB "list" "str" = some false := by decide +kernel
theorem kb_list_list : kitB "list" "list" = some true := by decide +kernel
theorem kb_list_tuple : kitB "list" "tuple" = some false := by decide +kernel
theorem kb_list_dict : kitB "list" "dict" = some false := by decide +kernel
theorem kb_tuple_int : kitB "tuple" "int" = some false := by decide +kernel
theorem kb_tuple_bool : kitB "tuple" "bool" = some false := by decide +kernel
theorem kb_tuple_str : kitB "tuple" "str" = some false := by decide +kernel
theorem kb_tuple_list : kitB "tuple" "list" = some false := by decide +kernel
theorem kb_tuple_tuple : kitB "tuple" "tuple" = some true := by decide +kernel
theorem kb_tuple_dict : kitB "tuple" "dict" = some false := by decide +kernel
theorem kb_dict_int : kitB "dict" "int" = some false := by decide +kernel
theorem kb_dict_bool : kitB "dict" "bool" = some false := by decide +kernel
theorem kb_dict_str : kitB "dict" "str" = some false := by decide +kernel
theorem kb_dict_list : kitB "dict" "list" = some false := by decide +kernel
theorem kb_dict_tuple : kitB "dict" "tuple" = some false := by decide +kernel
theorem kb_dict_dict : kitB "dict" "dict" = some true := by decide +kernel
/-- isinstance of built-in types -/
theorem k_isi {K : PySem.W.Frag} {H : Hp} {v : V} {a T : String} {b : Bool} {Q : VK} (ty : TyX K H v (.type a)) (hk : kitB a T = some b) (k : Q (.bl b) H) : rIsi K [v, .ty T] H Q := ⟨v, .ty T, _, _, b, rfl, .ty T, ty, kit_ty hk, k⟩
theorem k_isiT {K : PySem.W.Frag} {H : Hp} {v : V} {p : Addr} {a T1 T2 : String} {b1 b2 : Bool} {Q : VK} (hp : H p = some (.tup [.ty T1, .ty T2])) (ty : TyX K H v (.type a)) (h1 : kitB a T1 = some b1) (h2 : kitB a T2 = some b2) (k : Q (.bl (b1 || b2)) H) : rIsiT K [v, .ref p] H Q :=
  ⟨v, p, _, _, _, b1 || b2, rfl, hp, .cons (.ty T1) (.cons (.ty T2) .nil), ty, kitAny_cons (kit_ty h1) (fun e => by subst e; exact kitAny_cons (kit_ty h2) (fun e => by subst e; exact kitAny_nil) (fun e => by subst e; rfl)) (fun e => by subst e; rfl), k⟩
/-- isinstance of an own instance -/
theorem k_isiO {K : PySem.W.Frag} {H : Hp} {v : V} {t : Value} {C : Addr} {b : Bool} {Q : VK} (ty : TyX K H v t) (hk : PySem.W.kitOne K t (.ref C) = some b) (k : Q (.bl b) H) : rIsi K [v, .ref C] H Q := ⟨v, .ref C, _, _, b, rfl, .own C, ty, hk, k⟩
theorem one_new {G : Hp} {o : HO} {P : Addr → Hp → Prop} (k : ∀ p G', G p = none → G' = upd G p o → Same G G' → G' p = some o → P p G') : ∀ p, G p = none → P p (upd G p o) := fun p hp => k p _ hp rfl (same_new hp) upd_same
theorem small_size {n : Nat} (h : n ≤ 1000000) : n ≤ sizeLine := Nat.le_trans h (by rw [sizeLine_eq]; decide)
theorem small_lt {n : Nat} (h : n ≤ 1000000) : n < sizeLine := Nat.lt_of_le_of_lt h (by rw [sizeLine_eq]; decide)

/-! ### fields by place: the names written, the values by place -/
def nin (x : Str) : List Str → Bool
  | [] => true
  | n :: r => !(n == x) && nin x r
def pos? (x : Str) : List Str → Option Nat
  | [] => none
  | n :: r => if n == x then some 0 else (pos? x r).map (· + 1)
abbrev FL (ns : List Str) (vs : List V) : List (Str × V) := ns.zip vs
theorem fl_get {x : Str} : ∀ {ns : List Str} {vs : List V} {i : Nat} {v : V}, pos? x ns = some i → vs[i]? = some v → (FL ns vs).lookup x = some v
  | [], _, _, _, h, _ => by cases h
  | n :: r, [], i, v, h, hv => by simp at hv
  | n :: r, w :: ws, i, v, h, hv => by
    unfold pos? at h
    show List.lookup x ((n, w) :: FL r ws) = some v
    rw [List.lookup_cons]
    by_cases e : n == x
    · rw [if_pos e] at h
      cases h
      have e' : (x == n) = true := by rw [beq_iff_eq] at e ⊢; exact e.symm
      rw [e']
      exact hv
    · rw [if_neg e] at h
      have e' : (x == n) = false := by
        rw [Bool.eq_false_iff]
        intro q
        rw [beq_iff_eq] at q
        exact e (by rw [q]; simp)
      rw [e']
      cases hp : pos? x r with
      | none => rw [hp] at h; cases h
      | some j =>
        rw [hp] at h
        cases h
        exact fl_get (ns := r) hp (by simpa using hv)
theorem fl_no {x : Str} : ∀ {ns : List Str} {vs : List V}, nin x ns = true → (FL ns vs).lookup x = none
  | [], _, _ => rfl
  | n :: r, [], _ => rfl
  | n :: r, w :: ws, h => by
    unfold nin at h
    simp only [Bool.and_eq_true, Bool.not_eq_true'] at h
    show List.lookup x ((n, w) :: FL r ws) = none
    have e' : (x == n) = false := by
      rw [Bool.eq_false_iff]
      intro q
      rw [beq_iff_eq] at q
      rw [q] at h
      simp at h
    rw [List.lookup_cons, e']
    exact fl_no h.2
theorem fl_put {x : Str} {v : V} : ∀ {ns : List Str} {vs : List V}, ns.length = vs.length → nin x ns = true → putF x v (FL ns vs) = FL (ns ++ [x]) (vs ++ [v])
  | [], [], _, _ => rfl
  | n :: r, w :: ws, hl, h => by
    unfold nin at h
    simp only [Bool.and_eq_true, Bool.not_eq_true'] at h
    have e' : ¬ n = x := fun q => by
      rw [q] at h
      simp at h
    show (if n = x then _ else (n, w) :: putF x v (FL r ws)) = _
    rw [if_neg e', fl_put (by simpa using hl) h.2]
    rfl
theorem fl_len {ns : List Str} {vs : List V} : (FL ns vs).length ≤ ns.length := by
  rw [List.length_zip]
  omega
section
variable {K : PySem.W.Frag} {σ : L2.St} {H : Hp} {Q : VK} {D : Ends} {ta tv : TE} {f : Str} {a C dx : Addr} {ns : List Str} {vs : List V} {v y : V}
def rFld (K : PySem.W.Frag) (f : Str) (x : V) (H : Hp) (Q : VK) : Prop := ∃ a C dx fs v, x = .ref a ∧ H a = some (.ins C dx fs) ∧ Cls K C ∧ NoAttr K C f ∧ fs.lookup f = some v ∧ Q v H
theorem k_fld (h : ta σ H fun x H1 => rFld K f x H1 Q) : tFld K ta f σ H Q := h
theorem k_fldAt {i : Nat} (h : H a = some (.ins C dx (FL ns vs))) (c : Cls K C) (n : NoAttr K C f) (hi : pos? f ns = some i) (hv : vs[i]? = some v) (q : Q v H) : rFld K f (.ref a) H Q := ⟨a, C, dx, _, v, rfl, h, c, n, fl_get hi hv, q⟩
def rPutF (K : PySem.W.Frag) (f : Str) (y x : V) (H : Hp) (Q : Hp → Prop) : Prop := ∃ a C dx fs, x = .ref a ∧ H a = some (.ins C dx fs) ∧ Cls K C ∧ NoAttr K C f ∧ fs.length < 1000 ∧ Q (upd H a (.ins C dx (putF f y fs)))
theorem k_putF (h : tv σ H fun y H1 => ta σ H1 fun x H2 => rPutF K f y x H2 fun H3 => D.nx σ H3) : sFld K ta tv f D σ H := h
theorem k_putAt {Q : Hp → Prop} (h : H a = some (.ins C dx (FL ns vs))) (c : Cls K C) (n : NoAttr K C f) (hl : ns.length = vs.length) (hn : nin f ns = true) (hs : ns.length < 1000) (q : Q (upd H a (.ins C dx (FL (ns ++ [f]) (vs ++ [y]))))) : rPutF K f y (.ref a) H Q :=
  ⟨a, C, dx, _, rfl, h, c, n, Nat.lt_of_le_of_lt fl_len hs, by rw [fl_put hl hn]; exact q⟩
/-- the same, the instance just laid on top -/
theorem k_putTop {Q : Hp → Prop} (c : Cls K C) (n : NoAttr K C f) (hl : ns.length = vs.length) (hn : nin f ns = true) (hs : ns.length < 1000) (q : Q (upd H a (.ins C dx (FL (ns ++ [f]) (vs ++ [y]))))) : rPutF K f y (.ref a) (upd H a (.ins C dx (FL ns vs))) Q :=
  k_putAt upd_same c n hl hn hs (by rw [upd_upd]; exact q)
end
theorem len_text {i : Int} {k : Nat} (hk : 0 < k) (h : i.natAbs < 10 ^ k) : (Str.ofString (toString i)).length ≤ k + 1 := by
  have e := PySem.int_text_length_le10 hk h
  rw [PySem.ofString_length]
  exact e
theorem log_text {i : Int} {k : Nat} (hk : k ≤ 1000) (h : i.natAbs < 2 ^ k) : i.natAbs.log2 < 1920 := by
  by_cases h0 : i.natAbs = 0
  · rw [h0]; decide
  · exact Nat.lt_of_lt_of_le ((Nat.log2_lt h0).mpr h) (by omega)

theorem k_disp {n : Nat} {P : Prop} (h : n ≤ 1000000) (k : P) : n ≤ sizeLine ∧ P := ⟨small_size h, k⟩
/-! ### loops -/
section
variable {K : PySem.W.Frag} {σ : L2.St} {H : Hp} {D : Ends} {wi : TI} {g : TG} {tb : TS} {tl : TE} {ta : TA} {a : Addr} {xs : List V}
def ForW (J : It) (g : TG) (tb : TS) (D : Ends) (σ : L2.St) (H1 : Hp) : Prop := ∃ W : Nat → Nat → L2.St → Hp → Prop, (∃ m, W 0 m σ H1) ∧ ∀ i m σ H, W i m σ H →
  (J.stop i H ∧ D.nx σ H) ∨ (J.go i H ∧ ∃ N : L2.St → Hp → Prop, (∀ σ' H', N σ' H' → ∃ m', m' < m ∧ W (i + 1) m' σ' H') ∧ ∀ x H', J.yld i H x H' → g x σ H' fun σ2 H2 => tb { D with nx := N, ct := N, bk := D.nx } σ2 H2)
theorem k_for (h : wi σ H fun J H1 => ForW J g tb D σ H1) : tFor wi g tb D σ H := h
def rIL (K : PySem.W.Frag) (R : It → Hp → Prop) (x : V) (H : Hp) : Prop := ∃ a, x = .ref a ∧ (∃ xs, SqL K H a xs) ∧ R (Itl K a) H
def rIT (K : PySem.W.Frag) (R : It → Hp → Prop) (x : V) (H : Hp) : Prop := ∃ a, x = .ref a ∧ (∃ xs, SqT K H a xs) ∧ R (Itt K a) H
theorem k_iList {R : It → Hp → Prop} (h : tl σ H fun x H1 => rIL K R x H1) : iList K tl σ H R := h
theorem k_iTup {R : It → Hp → Prop} (h : tl σ H fun x H1 => rIT K R x H1) : iTup K tl σ H R := h
theorem k_iL {R : It → Hp → Prop} (h : SqL K H a xs) (k : R (Itl K a) H) : rIL K R (.ref a) H := ⟨a, rfl, ⟨xs, h⟩, k⟩
theorem k_iT {R : It → Hp → Prop} (h : SqT K H a xs) (k : R (Itt K a) H) : rIT K R (.ref a) H := ⟨a, rfl, ⟨xs, h⟩, k⟩
theorem k_forList (xs : List V) (Pv : Nat → L2.St → Hp → Prop) (h0 : Pv 0 σ H) (hl : ∀ i σ H, i ≤ xs.length → Pv i σ H → SqL K H a xs)
    (hs : ∀ i x σ H, xs[i]? = some x → Pv i σ H → g x σ H fun σ2 H2 => tb { D with nx := Pv (i + 1), ct := Pv (i + 1), bk := D.nx } σ2 H2) (hd : ∀ σ H, Pv xs.length σ H → D.nx σ H) : ForW (Itl K a) g tb D σ H := for_list Pv h0 hl hs hd
theorem k_forTup (xs : List V) (Pv : Nat → L2.St → Hp → Prop) (h0 : Pv 0 σ H) (hl : ∀ i σ H, i ≤ xs.length → Pv i σ H → SqT K H a xs)
    (hs : ∀ i x σ H, xs[i]? = some x → Pv i σ H → g x σ H fun σ2 H2 => tb { D with nx := Pv (i + 1), ct := Pv (i + 1), bk := D.nx } σ2 H2) (hd : ∀ σ H, Pv xs.length σ H → D.nx σ H) : ForW (Itt K a) g tb D σ H := for_tup Pv h0 hl hs hd
def rR1 (R : It → Hp → Prop) (vs : List V) (H : Hp) : Prop := ∃ j : Int, vs = [.int j] ∧ -(2 ^ 62) ≤ j ∧ j < 2 ^ 62 ∧ R (Itr 0 j.toNat) H
def rR2 (R : It → Hp → Prop) (vs : List V) (H : Hp) : Prop := ∃ i j : Int, vs = [.int i, .int j] ∧ (-(2 ^ 62) ≤ i ∧ i < 2 ^ 62 ∧ -(2 ^ 62) ≤ j ∧ j < 2 ^ 62) ∧ R (Itr i (j - i).toNat) H
theorem k_rng1 {R : It → Hp → Prop} (h : ta σ H fun vs H1 => rR1 R vs H1) : iRng1 ta σ H R := h
theorem k_rng2 {R : It → Hp → Prop} (h : ta σ H fun vs H1 => rR2 R vs H1) : iRng2 ta σ H R := h
theorem k_r1 {R : It → Hp → Prop} {j : Int} (h : -(2 ^ 62) ≤ j ∧ j < 2 ^ 62) (k : R (Itr 0 j.toNat) H) : rR1 R [.int j] H := ⟨j, rfl, h.1, h.2, k⟩
theorem k_r2 {R : It → Hp → Prop} {i j : Int} (h : -(2 ^ 62) ≤ i ∧ i < 2 ^ 62 ∧ -(2 ^ 62) ≤ j ∧ j < 2 ^ 62) (k : R (Itr i (j - i).toNat) H) : rR2 R [.int i, .int j] H := ⟨i, j, rfl, h, k⟩
theorem k_forRange {lo : Int} {n : Nat} (Pv : Nat → L2.St → Hp → Prop) (h0 : Pv 0 σ H)
    (hs : ∀ i σ H, i < n → Pv i σ H → g (.int (lo + i)) σ H fun σ2 H2 => tb { D with nx := Pv (i + 1), ct := Pv (i + 1), bk := D.nx } σ2 H2) (hd : ∀ σ H, Pv n σ H → D.nx σ H) : ForW (Itr lo n) g tb D σ H := for_range Pv h0 hs hd
/-- comprehensions -/
def LcW (J : It) (g : TG) (tt : TT) (te : TE) (vs : List Nat) (σ : L2.St) (H1 : Hp) (D : Addr) (Qd : Hp → Prop) : Prop := ∃ W : Nat → Nat → Hp → Prop, (∃ m, W 0 m (upd H1 D (.lst []))) ∧ ∀ i m H, W i m H →
  (J.stop i H ∧ Qd H) ∨ (J.go i H ∧ ∃ Nx : Hp → Prop, (∀ H', Nx H' → ∃ m', m' < m ∧ W (i + 1) m' H') ∧ ∀ x H', J.yld i H x H' → g x (wipe σ vs) H' fun σ2 H2 => wipe σ2 vs = wipe σ vs ∧ tt σ2 H2 fun b H3 =>
    if b = true then te σ2 H3 fun y H4 => ∃ acc, H4 D = some (.lst acc) ∧ acc.length < sizeLine ∧ Nx (upd H4 D (.lst (acc ++ [y]))) else Nx H3)
theorem k_lc {tt : TT} {te : TE} {vs : List Nat} {Q : VK} (h : wi σ H fun J H1 => ∀ D, H1 D = none → LcW J g tt te vs σ H1 D (fun H2 => Q (.ref D) H2)) : tLc wi g tt te vs σ H Q := h
theorem k_lcList {tt : TT} {te : TE} {vs : List Nat} {D : Addr} {Qd : Hp → Prop} (xs : List V) (Pv : Nat → Hp → Prop) (h0 : Pv 0 (upd H D (.lst []))) (hl : ∀ i H, i ≤ xs.length → Pv i H → SqL K H a xs)
    (hs : ∀ i x H, xs[i]? = some x → Pv i H → g x (wipe σ vs) H fun σ2 H2 => wipe σ2 vs = wipe σ vs ∧ tt σ2 H2 fun b H3 =>
      if b = true then te σ2 H3 fun y H4 => ∃ acc, H4 D = some (.lst acc) ∧ acc.length < sizeLine ∧ Pv (i + 1) (upd H4 D (.lst (acc ++ [y]))) else Pv (i + 1) H3) (hd : ∀ H, Pv xs.length H → Qd H) : LcW (Itl K a) g tt te vs σ H D Qd := lc_list Pv h0 hl hs hd
theorem k_lcTup {tt : TT} {te : TE} {vs : List Nat} {D : Addr} {Qd : Hp → Prop} (xs : List V) (Pv : Nat → Hp → Prop) (h0 : Pv 0 (upd H D (.lst []))) (hl : ∀ i H, i ≤ xs.length → Pv i H → SqT K H a xs)
    (hs : ∀ i x H, xs[i]? = some x → Pv i H → g x (wipe σ vs) H fun σ2 H2 => wipe σ2 vs = wipe σ vs ∧ tt σ2 H2 fun b H3 =>
      if b = true then te σ2 H3 fun y H4 => ∃ acc, H4 D = some (.lst acc) ∧ acc.length < sizeLine ∧ Pv (i + 1) (upd H4 D (.lst (acc ++ [y]))) else Pv (i + 1) H3) (hd : ∀ H, Pv xs.length H → Qd H) : LcW (Itt K a) g tt te vs σ H D Qd := lc_tup Pv h0 hl hs hd
theorem k_lcRange {tt : TT} {te : TE} {vs : List Nat} {D : Addr} {Qd : Hp → Prop} {lo : Int} {n : Nat} (Pv : Nat → Hp → Prop) (h0 : Pv 0 (upd H D (.lst [])))
    (hs : ∀ i H, i < n → Pv i H → g (.int (lo + i)) (wipe σ vs) H fun σ2 H2 => wipe σ2 vs = wipe σ vs ∧ tt σ2 H2 fun b H3 =>
      if b = true then te σ2 H3 fun y H4 => ∃ acc, H4 D = some (.lst acc) ∧ acc.length < sizeLine ∧ Pv (i + 1) (upd H4 D (.lst (acc ++ [y]))) else Pv (i + 1) H3) (hd : ∀ H, Pv n H → Qd H) : LcW (Itr lo n) g tt te vs σ H D Qd := lc_range Pv h0 hs hd
theorem k_yes {Q : Bool → Hp → Prop} (h : Q true H) : tYes σ H Q := h
/-- a while by an invariant and a measure, the test read at once -/
theorem k_while {c : TT} (W : Nat → L2.St → Hp → Prop) (m : Nat) (h0 : W m σ H)
    (hs : ∀ m σ H, W m σ H → c σ H fun b H1 => if b = true then ∃ N : L2.St → Hp → Prop, (∀ σ' H', N σ' H' → ∃ m', m' < m ∧ W m' σ' H') ∧ tb { D with nx := N, ct := N, bk := D.nx } σ H1 else D.nx σ H1) : tWhile c tb D σ H := ⟨W, ⟨m, h0⟩, hs⟩
/-- list(..), tuple(..) of what is read -/
theorem k_listL {p : Addr} {ys : List V} {Q : VK} (h : SqL K H p ys) (k : ∀ l, H l = none → Q (.ref l) (upd H l (.lst ys))) : rListU K [.ref p] H Q := ⟨p, ys, rfl, .inl h, k⟩
theorem k_listT {p : Addr} {ys : List V} {Q : VK} (h : SqT K H p ys) (k : ∀ l, H l = none → Q (.ref l) (upd H l (.lst ys))) : rListU K [.ref p] H Q := ⟨p, ys, rfl, .inr h, k⟩
theorem k_tupleL {p : Addr} {ys : List V} {Q : VK} (h : SqL K H p ys) (k : ∀ l, H l = none → Q (.ref l) (upd H l (.tup ys))) : rTupleU K [.ref p] H Q := ⟨p, ys, rfl, .inl ⟨h, k⟩⟩
theorem k_slL {p : Addr} {ys : List V} {lo hi : Option Int} {Q : VK} (h : SqL K H p ys) (k : ∀ l, H l = none → Q (.ref l) (upd H l (.lst (cutV ys lo hi)))) : rSlL K (.ref p) lo hi H Q := ⟨p, ys, rfl, h, k⟩
end
theorem cut_ints {ns : List Int} {lo hi : Option Int} : ∃ ms : List Int, cutV (ns.map V.int) lo hi = ms.map V.int := by
  unfold cutV
  exact ⟨_, by rw [List.length_map, ← List.map_drop, ← List.map_take]⟩

/-! ### targets that are tuples; walks of any kind -/
section
variable {K : PySem.W.Frag} {σ : L2.St} {H : Hp} {D : Ends} {g : TG} {tb : TS} {n : Nat} {J : It} {G : Hp → Prop} {Y : Nat → Hp → V → Hp → Prop}
theorem k_gTup {p : Addr} {xs : List V} {t : TGs} {Q : L2.St → Hp → Prop} (h : SqT K H p xs) (hl : xs.length = n) (k : t xs σ H Q) : gTup K n t (.ref p) σ H Q := ⟨p, xs, rfl, h, hl, k⟩
theorem k_gCons {v : V} {r : List V} {t : TG} {u : TGs} {Q : L2.St → Hp → Prop} (k : t v σ H fun σ' H' => u r σ' H' Q) : gCons t u (v :: r) σ H Q := ⟨v, r, rfl, k⟩
theorem k_gNil {Q : L2.St → Hp → Prop} (k : Q σ H) : gNil [] σ H Q := ⟨rfl, k⟩
theorem k_forIt (w : Walk J n G Y) (Pv : Nat → L2.St → Hp → Prop) (h0 : Pv 0 σ H) (hG : ∀ i σ H, i ≤ n → Pv i σ H → G H)
    (hs : ∀ i x σ H H', i < n → Pv i σ H → Y i H x H' → g x σ H' fun σ2 H2 => tb { D with nx := Pv (i + 1), ct := Pv (i + 1), bk := D.nx } σ2 H2) (hd : ∀ σ H, Pv n σ H → D.nx σ H) : ForW J g tb D σ H := for_it w Pv h0 hG hs hd
theorem k_lcIt (w : Walk J n G Y) {tt : TT} {te : TE} {vs : List Nat} {D : Addr} {Qd : Hp → Prop} (Pv : Nat → Hp → Prop) (h0 : Pv 0 (upd H D (.lst []))) (hG : ∀ i H, i ≤ n → Pv i H → G H)
    (hs : ∀ i x H H', i < n → Pv i H → Y i H x H' → g x (wipe σ vs) H' fun σ2 H2 => wipe σ2 vs = wipe σ vs ∧ tt σ2 H2 fun b H3 =>
      if b = true then te σ2 H3 fun y H4 => ∃ acc, H4 D = some (.lst acc) ∧ acc.length < sizeLine ∧ Pv (i + 1) (upd H4 D (.lst (acc ++ [y]))) else Pv (i + 1) H3) (hd : ∀ H, Pv n H → Qd H) : LcW J g tt te vs σ H D Qd := lc_it w Pv h0 hG hs hd
theorem k_iEnum {ta : TA} {R : It → Hp → Prop} (h : ta σ H fun vs H1 => ∃ a xs, vs = [.ref a] ∧ SqL K H1 a xs ∧ R (Ite K a) H1) : iEnum K ta σ H R := h
theorem k_iZip {ta : TA} {R : It → Hp → Prop} (h : ta σ H fun vs H1 => ∃ a b xs ys, vs = [.ref a, .ref b] ∧ SqL K H1 a xs ∧ SqL K H1 b ys ∧ R (Itz K a b) H1) : iZip K ta σ H R := h
theorem kpi_enum {X : Cx} (K : PySem.W.Frag) {e : Expr} {ta : TA} {p pos tpos : Pos} {elts : List Expr} {kk : Nat} (hg : Gl X "enumerate") (hm : X.mg "enumerate" = none) (ha : PA X [e] ta) (hK : X.K = K := by rfl) (hs : starEach [e] X.env = [(false, eval e X.env)] := by rfl) :
    PI X (.Tuple elts kk tpos) (.Call (.Name "enumerate" p) [e] [] pos) (iEnum K ta) := by subst hK; exact pi_enum hg hm ha hs
end
def rJoin (K : PySem.W.Frag) (x : V) (y : V) (H : Hp) (Q : VK) : Prop := ∃ a p, ∃ ys : List Str, x = .str a ∧ [y] = [V.ref p] ∧ (SqL K H p (ys.map V.str) ∨ SqT K H p (ys.map V.str)) ∧ (ys.map (·.length)).sum + ys.length * a.length ≤ 16777216 ∧ Q (.str (Txt.join a ys)) H
def tJoinU (K : PySem.W.Frag) (to te : TE) : TE := fun σ H Q => to σ H fun x H1 => (∃ a, x = .str a) ∧ te σ H1 fun y H2 => rJoin K x y H2 Q
theorem kpe_join {X : Cx} (K : PySem.W.Frag) {o e : Expr} {to te : TE} {apos pos : Pos} (ho : PE X o to) (he : PE X e te) (hK : X.K = K := by rfl) (hs : starEach [e] X.env = [(false, eval e X.env)] := by rfl) (hbase : attributeBase o "join" X.env (eval o X.env) = eval o X.env := by rfl) (hline : (apos.endLine == pos.line) = true := by rfl) :
    PE X (.Call (.Attribute o "join" apos) [e] [] pos) (tJoinU K to te) := by subst hK; exact pe_join ho he hs hbase hline
theorem k_joinC {K : PySem.W.Frag} {σ : L2.St} {H : Hp} {Q : VK} {z : Str} {te : TE} (h : te σ H fun y H2 => rJoin K (.str z) y H2 Q) : tJoinU K (tC (.str z)) te σ H Q := ⟨⟨z, rfl⟩, h⟩
theorem k_joinL {K : PySem.W.Frag} {H : Hp} {Q : VK} {z : Str} {p : Addr} {ys : List Str} (h : SqL K H p (ys.map V.str)) (hz : (ys.map (·.length)).sum + ys.length * z.length ≤ 16777216) (k : ∀ out : Str, out = Txt.join z ys → Q (.str out) H) : rJoin K (.str z) (.ref p) H Q := ⟨z, p, ys, rfl, rfl, .inl h, hz, k _ rfl⟩
/-! ### f-strings, join -/
section
variable {σ : L2.St} {H : Hp} {te : TE}
theorem k_js {ts : List TE} {Q : VK} (h : tJs ts Str.empty σ H fun out H1 => Q (.str out) H1) : (fun (σ : L2.St) (H : Hp) (Q : VK) => tJs ts Str.empty σ H fun out H1 => Q (.str out) H1) σ H Q := h
theorem k_jsNil {acc : Str} {Q : Str → Hp → Prop} (h : Q acc H) : tJs [] acc σ H Q := h
theorem k_jsCons {ts : List TE} {acc : Str} {Q : Str → Hp → Prop} (h : te σ H fun x H1 => ∃ y : Str, x = .str y ∧ (acc ++ y).length ≤ sizeLine ∧ tJs ts (acc ++ y) σ H1 Q) : tJs (te :: ts) acc σ H Q := h
theorem k_jsV {acc z : Str} {P : Str → Prop} (h : (acc ++ z).length ≤ 1000000) (k : P z) : ∃ y : Str, V.str z = .str y ∧ (acc ++ y).length ≤ sizeLine ∧ P y := ⟨z, rfl, small_size h, k⟩
def rFmt (x : V) (H : Hp) (Q : VK) : Prop := (∃ y : Str, x = .str y ∧ y.length ≤ sizeLine ∧ Q (.str y) H) ∨ ∃ i : Int, x = .int i ∧ i.natAbs.log2 < 1920 ∧ Q (.str (toString i)) H
theorem k_fmt {Q : VK} (h : te σ H fun x H1 => rFmt x H1 Q) : tFmt te σ H Q := h
theorem k_fmtS {z : Str} {Q : VK} (h : z.length ≤ 1000000) (k : Q (.str z) H) : rFmt (.str z) H Q := .inl ⟨z, rfl, small_size h, k⟩
theorem k_fmtI {i : Int} {Q : VK} (h : i.natAbs < 2 ^ 64) (k : Q (.str (toString i)) H) : rFmt (.int i) H Q := .inr ⟨i, rfl, log_text (k := 64) (by decide) h, k⟩
theorem k_str1 {i : Int} {Q : VK} (h : i.natAbs < 2 ^ 64) (k : Q (.str (toString i)) H) : rStr1 [.int i] H Q := ⟨i, rfl, log_text (k := 64) (by decide) h, k⟩
end
theorem len_empty : Str.empty.length = 0 := by decide +kernel

/-! ### what changes one object alone -/
def SameBut (a : Addr) (H H' : Hp) : Prop := ∀ b o, b ≠ a → H b = some o → H' b = some o
theorem SameBut.refl (a : Addr) (H : Hp) : SameBut a H H := fun _ _ _ h => h
theorem SameBut.trans {a : Addr} {H H1 H2 : Hp} (x : SameBut a H H1) (y : SameBut a H1 H2) : SameBut a H H2 := fun b o n h => y b o n (x b o n h)
theorem SameBut.of {a : Addr} {H H' : Hp} (x : Same H H') : SameBut a H H' := fun b o _ h => x b o h
theorem SameBut.put {a : Addr} {H H' : Hp} {o : HO} (x : SameBut a H H') : SameBut a H (upd H' a o) := fun b u n h => by
  rw [upd_ne n]
  exact x b u n h
/-- the object was new: all is as it was -/
theorem SameBut.made {x dx : Addr} {H H' : Hp} {C : Addr} {fs : List (Str × V)} (hx : H x = none) (hd : H dx = none) (ne : dx ≠ x) (s : SameBut x (upd (upd H dx (.own x)) x (.ins C dx fs)) H') : Same H H' := fun b o h => by
  have n1 : b ≠ x := ne_of_none h hx
  have n2 : b ≠ dx := ne_of_none h hd
  exact s b o n1 (by rw [upd_ne n1, upd_ne n2]; exact h)
theorem cc_look {cc : Addr} : List.lookup ("__class__" : Str) [(("__class__" : Str), cc)] = some cc := by
  rw [List.lookup_cons]
  simp
end Kit

/-! Sup: methods of the program's own classes that say super().m(..): the def closes over its class. -/
namespace Kit
open PySem PySem.Spec PyProof.Rows L2

structure SupAt (K : PySem.W.Frag) (C D f2 : Addr) (name : Str) : Prop where
  sub : PySem.W.mroIn K C (.ref D) = some true
  m : PySem.W.ks_superIn K C D name = some (some (.ref f2))
  fn : PySem.W.fnIn K f2 = true
  ty : PySem.W.typeIn K (.ref f2) = some (.type "function")
structure SupDef (P : Program) (K : PySem.W.Frag) (mg : Str → Option Value) (f D cc cda : Addr) (sf : Str) : Prop where
  fn : ∃ oc od fd osl ar, K.lookup f = some ⟨oc, od, .func fd, osl⟩ ∧ (fd.params.posonlyargs ++ fd.params.args).head? = some ar ∧ ar.arg = sf
  code : ∃ ccl cdd vs ccs file tf, K.lookup cda = some ⟨ccl, cdd, .fields vs, ccs⟩ ∧ vs[2]? = some (.str file tf) ∧ ((P.main.file : Str) == file) = true
  cell : ∃ cl cld csl, K.lookup cc = some ⟨cl, cld, .cell (some (.ref D)), csl⟩
  cls : ∃ cdD, PySem.W.clsIn K D = some cdD
  sup : mg "super" = none
  top : (P.main.scope.names.lookup ("super" : Str)).isSome = false
  st : PySem.W.nsIn K cStatics "thirdparty.any" = some none

/-- a block, a statement, in the activation of the def whose whole body is told -/
structure PSA (X : Cx) (body sts : List Stmt) (t : TS) : Prop where
  go : ∀ (pins : List (Addr × Obj)) (s : Shared) (σ : L2.St) (H : Hp) (D : Ends), Inv X pins σ H s → t D σ H → PySem.wpAt (model X.prog X.w) X.A (.func body X.env) (execs sts X.env) (SP X pins D) X.xe s
structure PSt (X : Cx) (body : List Stmt) (st : Stmt) (t : TS) : Prop where
  go : ∀ (pins : List (Addr × Obj)) (s : Shared) (σ : L2.St) (H : Hp) (D : Ends), Inv X pins σ H s → t D σ H → PySem.wpAt (model X.prog X.w) X.A (.func body X.env) (exec st X.env) (SP X pins D) X.xe s
section
variable {X : Cx} {body rest sts : List Stmt} {st : Stmt} {t u : TS}
theorem psa_of (h : PSs X sts t) : PSA X body sts t := ⟨fun pins s σ H D I q => wpAt_of_wpAny (h.run pins s σ H D I q)⟩
theorem pst_of (h : PS X st t) : PSt X body st t := ⟨fun pins s σ H D I q => wpAt_of_wpAny (h.run pins s σ H D I q)⟩
theorem psa_cons (h1 : PSt X body st t) (h2 : PSA X body rest u) : PSA X body (st :: rest) (tSeq t u) := by
  refine ⟨fun pins s σ H D I q => ks_wpAt_execs_cons (ks_wpAt_mono (h1.go pins s σ H _ I q) (fun fl s' hf => ?_) fun _ _ z => z)⟩
  cases fl with
  | next =>
    obtain ⟨σ', H', I', q'⟩ := hf
    exact h2.go pins s' σ' H' D I' q'
  | ret v => exact hf
  | brk => exact hf
  | cont => exact hf
theorem psa_one (h1 : PSt X body st t) : PSA X body [st] t := by
  refine ⟨fun pins s σ H D I q => ks_wpAt_execs_cons (ks_wpAt_mono (h1.go pins s σ H _ I q) (fun fl s' hf => ?_) fun _ _ z => z)⟩
  cases fl with
  | next => exact wpAt_of_wpAny (wpAny_execs_nil hf)
  | ret v => exact hf
  | brk => exact hf
  | cont => exact hf

/-- super().m(e, ..) as a statement; self in the first slot -/
def tSup (K : PySem.W.Frag) (D : Addr) (name : Str) (f2 : Addr) (sp : Sp) (dvs : List V) (E : XK) (ta : TA) : TS := fun B σ H => ∃ a C dx fs, σ[0]? = some (some (V.ref a)) ∧ H a = some (.ins C dx fs) ∧ SupAt K C D f2 name ∧
  ∀ q, H q = none → ta σ (upd H q (.met f2 a)) fun vs H1 => H1 q = some (.met f2 a) ∧ sp (.ref a :: (vs ++ dvs)) H1 (fun _ H2 => B.nx σ H2) E
theorem pst_super {f D cc cda f2 : Addr} {self name : Str} {e : Expr} {es : List Expr} {ta : TA} {sp : Sp} {dvs : List V} {ds : List Value} {E : XK} {CX : CXT} {k : Nat} {fd2 : FuncData} {ps : List Str} {p0 p1 apos pos spos : Pos} {pl : Sem Bool}
    (S : SupDef X.prog X.K X.mg f D cc cda self) (hfu : X.env.func = some f) (hco : X.env.code = .ref cda) (hks : X.env.kindOf "super" = some .globalImplicit) (hkc : X.env.kindOf "__class__" = some .free) (hcc : X.env.cells.lookup ("__class__" : Str) = some cc)
    (hN : X.N[0]? = some self) (hv : X.env.scope.names.lookup self = some .local) (hn : (name == ("__class__" : Str)) = false)
    (F : FnOk X.prog X.w X.K X.mg X.base CX k f2 fd2 ps sp) (hr : Room k X.A) (hb : Binds X.K fd2 ps ds) (hd : Vals dvs ds) (hx : Passes CX X E) (ha : PA X (e :: es) ta)
    (hs : swapsWith (.Call (.Attribute (.Call (.Name "super" p0) [] [] p1) name apos) (e :: es) [] pos) none spos.line X.env = pure false := by rfl)
    (he0 : eval (.Call (.Attribute (.Call (.Name "super" p0) [] [] p1) name apos) (e :: es) [] pos) X.env = (do
      let ov ← attributeBase (.Call (.Name "super" p0) [] [] p1) name X.env (eval (.Call (.Name "super" p0) [] [] p1) X.env)
      standAt apos.atName
      let (f, first) ← holding [ov] (getMethod ov name pl)
      callWith pos f first (backTo pos (starEach (e :: es) X.env)) []) := by rfl)
    (he : starEach (e :: es) X.env = (false, eval e X.env) :: starEach es X.env := by rfl) (hpl : (backTo pos (starEach es X.env)).any (·.1) = false := by rfl) :
    PSt X body (.Expr (.Call (.Attribute (.Call (.Name "super" p0) [] [] p1) name apos) (e :: es) [] pos) spos) (tSup X.K D name f2 sp dvs E ta) := by
  refine ⟨fun pins s σ H B I h => ?_⟩
  obtain ⟨a, C, dx, fs, hσ, hH, SA, q⟩ := h
  obtain ⟨oc, od, fd, osl, ar, lkf, hhead, har⟩ := S.fn
  obtain ⟨ccl, cdd, vs, ccs, file, tf, lkc, hvs, hfile⟩ := S.code
  obtain ⟨cl, cld, csl, lkcell⟩ := S.cell
  obtain ⟨cdD, hD⟩ := S.cls
  have KI := I.kIn
  obtain ⟨mA, OM, _⟩ := ins_get I.hok hH
  obtain ⟨odx, IA, _⟩ := OM.look
  obtain ⟨oD, hD1, hD2⟩ : ∃ oD, s.heap.get? D = some oD ∧ oD.data = .cls cdD := by
    unfold PySem.W.clsIn at hD
    split at hD
    · rename_i c d cd' sl ho
      cases hD
      exact ⟨_, KI _ _ ho, rfl⟩
    · cases hD
  obtain ⟨m, hns, hloc⟩ := I.loc
  obtain ⟨u, ru, lk⟩ := hloc 0 self (.ref a) hN hσ (.inl hv)
  cases ru
  have hself : m self = some (.ref a) := by
    rcases lk with ⟨_, z⟩ | ⟨z, _⟩
    · exact z
    · have z' : X.env.scope.names.lookup self = some .cell ∨ X.env.scope.names.lookup self = some .free := z
      rw [hv] at z'
      rcases z' with z' | z' <;> cases z'
  refine ks_wpAt_Expr_any ?_ I.quiet hs
  refine ks_wpAt_MethodCall ?_ he0
  refine ks_wpAt_super_base (env := X.env) hks hkc hn hfu (KI _ _ lkf) rfl hhead hco (KI _ _ lkc) rfl hvs hfile S.top ?_
  obtain ⟨mb, hb1, hb2⟩ := I.mod.blt
  refine PySem.W.ks_loadName_global I.ok.kind hks (Calls.loadGlobal_builtin (by rw [I.ok.glob]; exact I.mod.glob.keeps I.bk) S.sup (by rw [I.ok.blt]; exact hb1.keeps I.bk) ((hb2 "super" (by decide)).trans (show bootBuiltins "super" = some (.type "super") by decide +kernel)) ⟨rfl, ?_⟩)
  refine wpAny_loadName_free I.ok.kind hkc hcc ⟨_, KI _ _ lkcell, rfl⟩ ?_
  rw [har]
  refine wpAny_loadName_local I.ok.kind hv hns hself ?_
  refine ks_wpAny_isType_cls hD1 hD2 ⟨rfl, ?_⟩
  obtain ⟨hp, g, dr, tk, os⟩ := s
  refine ks_wpAny_call_super hD1 hD2 IA.at_ IA.cls (fun c e => ?_) (PySem.W.looks_mroIn KI SA.sub) (fun h' e k => ?_)
  · have z := IA.no
    unfold PySem.W.notCls at z
    rw [e] at z
    exact Bool.noConfusion z
  have I1 : Inv X pins σ H ⟨h', g, dr, tk, os⟩ := I.kept (t' := tk) k
  have KI1 := I1.kIn
  have hm := SA.m
  unfold PySem.W.ks_superIn at hm
  obtain ⟨cd, hc⟩ : ∃ cd, PySem.W.clsIn X.K C = some cd := by
    cases hc : PySem.W.clsIn X.K C with
    | none => rw [hc] at hm; cases hm
    | some cd => exact ⟨cd, rfl⟩
  rw [hc] at hm
  obtain ⟨of, lof, hofc⟩ : ∃ of, X.K.lookup f2 = some of ∧ of.cls = .type "function" := by
    have ht' : (X.K.lookup f2).map (·.cls) = some (.type "function") := SA.ty
    cases z : X.K.lookup f2 with
    | none => rw [z] at ht'; cases ht'
    | some of => rw [z] at ht'; exact ⟨of, rfl, Option.some.inj ht'⟩
  refine ks_wpAny_getMethod_super e (PySem.W.looks_opaque KI1 S.st) (l₀ := cd.mro) ?_ rfl KI1 hm (KI1 _ _ lof) hofc (PySem.W.ks_ne KI IA hc) hn ?_
  · exact fun A Q E s k q => wpAny_bind ((PySem.W.looks_clsIn KI1 hc) A _ E s k (wpAny_pure q))
  have nq : H h'.objs.size = none := I1.hok.fresh (Nat.le_refl _)
  have hq0 : (h'.push { cls := .type "method", data := .fields #[.ref f2, .ref a] }).get? h'.objs.size = some (PySem.W.methodObj (.ref f2) (.ref a)) := Heap.get?_push_at rfl rfl
  have I2 : Inv X pins σ (upd H h'.objs.size (.met f2 a)) ⟨h'.push { cls := .type "method", data := .fields #[.ref f2, .ref a] }, g, dr, tk + 1, os⟩ :=
    I1.laid (t' := tk + 1) (a := h'.objs.size) (o := .met f2 a) (h' := h'.push { cls := .type "method", data := .fields #[.ref f2, .ref a] }) (fun b o e => Heap.get?_push_of_some _ e) (Nat.le_refl _) hq0
  have hq := q h'.objs.size nq
  generalize h'.objs.size = qa at *
  refine PySem.W.callWith_of (P := fun h => PySem.W.MethP X.K qa f2 (.ref a) h) (by rw [he]; show ((false || (backTo pos (starEach es X.env)).any (·.1)) || false) = false; rw [hpl]; rfl) (PySem.W.keeps_M SA.fn) ?_
  rw [he]
  refine PySem.Calls.evalArgs_plain ?_
  have hrun := ha.run pos pins _ σ _ _ I2 hq
  rw [he] at hrun
  refine thn hrun fun us s1 ⟨ws, H1, I3, r1, hqm, hsp⟩ => ?_
  have hmo : s1.heap.get? qa = some (PySem.W.methodObj (.ref f2) (.ref a)) := I3.hok qa _ hqm
  refine ⟨⟨hmo, I3.kIn⟩, wpAny_call (ks_codeAny_call_bound hmo ?_)⟩
  have r2 : Vals (V.ref a :: (ws ++ dvs)) (Value.ref a :: (us ++ ds)) := .cons rfl (r1.append hd)
  have hl : (Value.ref a :: us ++ ds).length = ps.length := by
    have e := r2.length
    rw [F.len _ _ _ _ hsp] at e
    exact e.symm
  refine codeAny_mono (F.run X.A X.stack s1 H1 ⟨Value.ref a :: us, []⟩ (Value.ref a :: (us ++ ds)) _ _ E hr I3.env0 (hb _ (Value.ref a :: us) I3.kIn hl) r2 hsp) fun r s' hq' => ?_
  cases r with
  | error er => exact hx pins σ H1 s1 er s' I3 hq'
  | ok fl =>
    cases fl with
    | ret v =>
      obtain ⟨x, H2, I4, rx, q4⟩ := I3.after hq'
      exact ⟨σ, H2, I4, q4⟩
    | next => exact False.elim hq'
    | brk => exact False.elim hq'
    | cont => exact False.elim hq'
end

theorem kpst_super (K : PySem.W.Frag) {f D cc cda f2 : Addr} {self name : Str} {e : Expr} {es : List Expr} {ta : TA} {sp : Sp} {dvs : List V} {ds : List Value} {E : XK} {CX : CXT} {k : Nat} {fd2 : FuncData} {ps : List Str} {p0 p1 apos pos spos : Pos} {pl : Sem Bool}
    (S : SupDef X.prog X.K X.mg f D cc cda self) (hfu : X.env.func = some f) (hco : X.env.code = .ref cda) (hks : X.env.kindOf "super" = some .globalImplicit) (hkc : X.env.kindOf "__class__" = some .free) (hcc : X.env.cells.lookup ("__class__" : Str) = some cc)
    (hN : X.N[0]? = some self) (hv : X.env.scope.names.lookup self = some .local) (hn : (name == ("__class__" : Str)) = false)
    (F : FnOk X.prog X.w X.K X.mg X.base CX k f2 fd2 ps sp) (hr : Room k X.A) (hb : Binds X.K fd2 ps ds) (hd : Vals dvs ds) (hx : Passes CX X E) (ha : PA X (e :: es) ta) (hK : X.K = K := by rfl)
    (hs : swapsWith (.Call (.Attribute (.Call (.Name "super" p0) [] [] p1) name apos) (e :: es) [] pos) none spos.line X.env = pure false := by rfl)
    (he0 : eval (.Call (.Attribute (.Call (.Name "super" p0) [] [] p1) name apos) (e :: es) [] pos) X.env = (do
      let ov ← attributeBase (.Call (.Name "super" p0) [] [] p1) name X.env (eval (.Call (.Name "super" p0) [] [] p1) X.env)
      standAt apos.atName
      let (f, first) ← holding [ov] (getMethod ov name pl)
      callWith pos f first (backTo pos (starEach (e :: es) X.env)) []) := by rfl)
    (he : starEach (e :: es) X.env = (false, eval e X.env) :: starEach es X.env := by rfl) (hpl : (backTo pos (starEach es X.env)).any (·.1) = false := by rfl) :
    PSt X body (.Expr (.Call (.Attribute (.Call (.Name "super" p0) [] [] p1) name apos) (e :: es) [] pos) spos) (tSup K D name f2 sp dvs E ta) := by
  subst hK
  exact pst_super S hfu hco hks hkc hcc hN hv hn F hr hb hd hx ha hs he0 he hpl
theorem k_sup {K : PySem.W.Frag} {D0 f2 a C dx : Addr} {name : Str} {sp : Sp} {dvs : List V} {E : XK} {ta : TA} {B : Ends} {σ : L2.St} {H : Hp} {fs : List (Str × V)} (h0 : σ[0]? = some (some (V.ref a))) (h1 : H a = some (.ins C dx fs)) (h2 : SupAt K C D0 f2 name)
    (k : ∀ q H', H q = none → H' = upd H q (.met f2 a) → Same H H' → H' q = some (.met f2 a) → ta σ H' fun vs H1 => H1 q = some (.met f2 a) ∧ sp (.ref a :: (vs ++ dvs)) H1 (fun _ H2 => B.nx σ H2) E) : tSup K D0 name f2 sp dvs E ta B σ H :=
  ⟨a, C, dx, fs, h0, h1, h2, fun q nq => k q _ nq rfl (same_new nq) upd_same⟩
theorem PSA.nox {X : Cx} {body sts : List Stmt} {t : TS} (h : PSA X.nox body sts t) : PSA X body sts t := ⟨fun pins s σ H D I hw =>
  ks_wpAt_mono (h.go pins s σ H D (I.wish _) hw) (fun _ _ q => q.unwish) fun _ _ z => False.elim z⟩

/-- a method that closes over its class, as it stands behind the top -/
structure FunS (K : PySem.W.Frag) (x qual : Str) (st : Stmt) (f : Addr) (fd : FuncData) (cc cda : Addr) : Prop where
  ex : ∃ (oc : Value) (od : Option Addr) (kV doc pm : Value) (an : Option Addr) (ct : Value) (osl : Array (Option Value)),
    fd = PySem.W.fnX x qual (defArgs st) (defBody st) (defScope st) [("__class__", cc)] .none kV doc pm an (.ref cda) ct ∧ K.lookup f = some ⟨oc, od, .func fd, osl⟩ ∧ PySem.W.codeIn K (.ref cda) qual = true
  kp : PySem.W.keepIn K (.ref f) = true
section
variable {P : Program} {w : World} {K : PySem.W.Frag} {mg : Str → Option Value} {base : Heap}
theorem funS_mk {x qual : Str} {st : Stmt} {f cc cda : Addr} {oc : Value} {od an : Option Addr} {osl : Array (Option Value)} {kV doc pm ct : Value} (l : K.lookup f = some ⟨oc, od, .func (PySem.W.fnX x qual (defArgs st) (defBody st) (defScope st) [("__class__", cc)] .none kV doc pm an (.ref cda) ct), osl⟩)
    (c : PySem.W.codeIn K (.ref cda) qual = true) (k : PySem.W.keepIn K (.ref f) = true) : FunS K x qual st f (PySem.W.fnX x qual (defArgs st) (defBody st) (defScope st) [("__class__", cc)] .none kV doc pm an (.ref cda) ct) cc cda := ⟨⟨oc, od, kV, doc, pm, an, ct, osl, rfl, l, c⟩, k⟩
theorem FunS.binds {x qual : Str} {st : Stmt} {f cc cda : Addr} {fd : FuncData} {ps : List Str} (F : FunS K x qual st f fd cc cda)
    (h : ∀ (kV doc pm : Value) (an : Option Addr) (ct : Value) (us : List Value), us.length = ps.length → bindArgs (PySem.W.fnX x qual (defArgs st) (defBody st) (defScope st) [("__class__", cc)] .none kV doc pm an (.ref cda) ct) ⟨us, []⟩ = pure (ps.zip us)) : Binds K fd ps [] := by
  obtain ⟨oc, od, kV, doc, pm, an, ct, osl, rfl, lk, hcd⟩ := F.ex
  exact .all (h kV doc pm an ct)
abbrev nfS (x qual : Str) (st : Stmt) (cc cda : Addr) : NdefX.NF := ⟨x, qual, defArgs st, defBody st, defScope st, [("__class__", cc)], cda⟩
theorem FunS.ok {x qual : Str} {st : Stmt} {f cc cda D0 : Addr} {fd : FuncData} {N ps : List Str} {k : Nat} {sp : Sp} {cl : Value} {cld : Option Addr} {csl : Array (Option Value)} (F : FunS K x qual st f fd cc cda) (S : NdefX.NScope N ps ["__class__"] (defScope st))
    (hcell : K.lookup cc = some ⟨cl, cld, .cell (some (.ref D0)), csl⟩) (hbn : Binds K fd ps []) (len : ∀ vs H Q E, sp vs H Q E → vs.length = ps.length)
    (hbody : ∀ (A : Around) (outer : List Env) (s : Shared) (H : Hp) (vs : List V) (Q : VK) (E : XK), Room k (A.deeper (NdefX.envF (nfS x qual st cc cda) f s.heap.objs.size)) → sp vs H Q E →
      ∃ t, PSA (NdefX.ncx CX0 P w K mg base N (nfS x qual st cc cda) f A outer s H E).nox (defBody st) (defBody st) t ∧ t { nx := fun _ H' => Q .non H', rt := Q } (NdefX.startF N vs [some (.ref D0)]) H) :
    FnOk P w K mg base CX0 (k + 1) f fd ps sp := by
  obtain ⟨oc, od, kV, doc, pm, an, ct, osl, efd, lk, hcd⟩ := F.ex
  refine ⟨len, fun A outer s H args us vs Q E hr e0 hb r hsp => ?_⟩
  have hl := len _ _ _ _ hsp
  have KB := e0.mod.kin
  have KX : K.In s.heap := KB.keeps fun b o e => (e0.bs b o e).1
  have lim : s.heap.NoLimit := e0.mod.nolimit.keeps fun b o e => (e0.bs b o e).1
  have hc1 := e0.bs _ _ (KB _ _ hcell)
  have CA : NdefX.CellsAt [("__class__", cc)] ["__class__"] [some (.ref D0)] s.heap H := by
    have key : ∀ y c, List.lookup y [(("__class__" : Str), cc)] = some c → y = "__class__" ∧ c = cc := fun y c e => by
      rw [List.lookup_cons] at e
      by_cases hy : y = "__class__"
      · subst hy
        simp at e
        exact ⟨rfl, e.symm⟩
      · have : (y == ("__class__" : Str)) = false := by simpa using hy
        rw [this] at e
        cases e
    refine ⟨rfl, fun y c e => ?_, fun x y c e1 e2 => ((key x c e1).1).trans ((key y c e2).1).symm, fun i y e => ?_⟩
    · obtain ⟨rfl, rfl⟩ := key y c e
      exact ⟨hc1.2, _, _, hc1.1, rfl⟩
    · have hi : i = 0 := by
        have := (List.getElem?_eq_some_iff.mp e).1
        simp at this
        exact this
      subst hi
      have ey : ("__class__" : Str) = y := Option.some.inj e
      subst ey
      refine ⟨cc, by simp, fun v ev => ?_⟩
      have ev' : V.ref D0 = v := Option.some.inj (Option.some.inj ev)
      subst ev'
      exact ⟨.ref D0, rfl, _, hc1.1, rfl⟩
  subst efd
  refine codeAny_call_function hr.depth (KX _ _ lk) rfl S.co S.gen rfl (PySem.W.codeRec_of KX hcd) (hb _ _ _ _ ?_)
  refine wpAny_newFunctionEnv S.nocell (fun ⟨n, _⟩ hy => S.par n (List.of_mem_zip hy).1) (fun h₁ hns hsb => ⟨lim.fresh _ hsb, ?_⟩) S.kind
  show codeAny _ _ (.func (defBody st) (NdefX.envF (nfS x qual st cc cda) f s.heap.objs.size)) _ _
  have kp : ∀ b o, s.heap.get? b = some o → h₁.get? b = some o := fun b o e => hsb.extBut b o (Nat.ne_of_lt (Heap.lt_size e)) (Heap.get?_push_of_some _ e)
  obtain ⟨t, ht, hq⟩ := hbody A outer s H vs Q E (hr.deeper _) hsp
  have I : Inv (NdefX.ncx CX0 P w K mg base N (nfS x qual st cc cda) f A outer s H E) [] (NdefX.startF N vs [some (.ref D0)]) H { s with heap := h₁, toks := s.toks + (ps.zip us).length } :=
    NdefX.inv_startN (F := nfS x qual st cc cda) S hr.hd e0 hl r CA hns kp
  refine ks_codeAny_funcAt (ks_wpAt_mono (ht.nox.go [] _ _ H _ I hq) (fun fl s' hs => ?_) fun e s' hs => hs)
  have fin : ∀ {σ' : L2.St} {H' : Hp} {v : V} {u : Value}, Inv (NdefX.ncx CX0 P w K mg base N (nfS x qual st cc cda) f A outer s H E) [] σ' H' s' → L2.RelV v u → Q v H' → CE outer P w H s Q u s' :=
    fun {σ' H' v u} J rv q => ⟨v, H', J.os, J.bare, J.base, J.hok, rv, q⟩
  cases fl with
  | ret u =>
    obtain ⟨v, σ', H', J, rv, q⟩ := hs
    exact fin J rv q
  | next =>
    obtain ⟨σ', H', J, q⟩ := hs
    exact fin (v := V.non) (u := Value.none) J rfl q
  | brk =>
    obtain ⟨_, _, _, q⟩ := hs
    exact False.elim q
  | cont =>
    obtain ⟨_, _, _, q⟩ := hs
    exact False.elim q
end

/-! ### methods found by the instance's own class -/
/-- for an instance of C the method m keeps sp -/
def Disp (X : Cx) (CX : CXT) (k : Nat) (m : Str) (R : Addr → Sp → Prop) : Prop :=
  ∀ C sp, R C sp → ∃ g fd ps, Cls X.K C ∧ Meth X.K C m g ∧ FnOk X.prog X.w X.K X.mg X.base CX k g fd ps sp ∧ Binds X.K fd ps []
def tMethP (R : Addr → Sp → Prop) (m : Str) (E : XK) (ta : TE) (t : TA) : TE := fun σ H Q => ta σ H fun x H1 => ∃ a C dx fs sp, x = V.ref a ∧ H1 a = some (.ins C dx fs) ∧ R C sp ∧ fs.lookup m = none ∧ t σ H1 fun vs H2 => sp (x :: vs) H2 Q E
section
variable {X : Cx} {CX : CXT} {k : Nat} {m : Str} {R : Addr → Sp → Prop} {E : XK} {o e : Expr} {es : List Expr} {ta : TE} {t : TA} {apos pos : Pos} {pl : Sem Bool}
theorem kpe_methP (hR : Disp X CX k m R) (hr : Room k X.A) (hx : Passes CX X E) (he : PE X o ta) (ha : PA X (e :: es) t)
    (hst : starEach (e :: es) X.env = (false, eval e X.env) :: starEach es X.env := by rfl) (hpl : (backTo pos (starEach es X.env)).any (·.1) = false := by rfl)
    (ht : eval (.Call (.Attribute o m apos) (e :: es) [] pos) X.env = (do
      let ov ← eval o X.env
      standAt apos.atName
      let (f, first) ← holding [ov] (getMethod ov m pl)
      callWith pos f first (backTo pos (starEach (e :: es) X.env)) (backToKw pos (keywordEach [] X.env))) := by rfl) :
    PE X (.Call (.Attribute o m apos) (e :: es) [] pos) (tMethP R m E ta t) := by
  refine ⟨fun pins s σ H Q I h => PySem.W.methodCall_KW (pl := pl) (thn (he.run pins s σ H _ I h) fun u s1 hu => ?_) ht⟩
  obtain ⟨x, H1, I1, rx, a, C, dx, fs, sp, ex, ea, hRC, l, q⟩ := hu
  subst ex
  obtain rfl : u = Value.ref a := rx
  obtain ⟨g, fd, ps, c, hm, F, hb⟩ := hR C sp hRC
  refine getmeth_ok I1 ea c hm l (PySem.W.callWith_K (first := [.ref a]) (h₀ := X.base) I.ok.mod.kin hm.kp (thn (ha.run pos pins s1 σ H1 _ I1 q) fun us s2 hv => ?_) hst hpl)
  obtain ⟨vs, H2, I2, r, q2⟩ := hv
  exact ⟨I2.kIn, run_fn (us := .ref a :: us) (vs := .ref a :: vs) (dvs := []) (ds := []) F hr hb .nil hx I2 (.cons rfl r) (by rw [List.append_nil]; exact q2)⟩
theorem kpe_methP0 (hR : Disp X CX k m R) (hr : Room k X.A) (hx : Passes CX X E) (he : PE X o ta)
    (ht : eval (.Call (.Attribute o m apos) [] [] pos) X.env = (do
      let ov ← eval o X.env
      standAt apos.atName
      let (f, first) ← holding [ov] (getMethod ov m pl)
      callWith pos f first (backTo pos (starEach [] X.env)) (backToKw pos (keywordEach [] X.env))) := by rfl) :
    PE X (.Call (.Attribute o m apos) [] [] pos) (tMethP R m E ta tNil) := by
  refine ⟨fun pins s σ H Q I h => PySem.W.methodCall_KW (pl := pl) (thn (he.run pins s σ H _ I h) fun u s1 hu => ?_) ht⟩
  obtain ⟨x, H1, I1, rx, a, C, dx, fs, sp, ex, ea, hRC, l, q⟩ := hu
  subst ex
  obtain rfl : u = Value.ref a := rx
  obtain ⟨g, fd, ps, c, hm, F, hb⟩ := hR C sp hRC
  refine getmeth_ok I1 ea c hm l (PySem.W.callWith_K0 (first := [.ref a]) I1.kIn hm.kp ?_)
  exact run_fn (us := [.ref a]) (vs := [.ref a]) (dvs := []) (ds := []) F hr hb .nil hx I1 (.cons rfl .nil) q
/-- an instance called -/
def DispC (X : Cx) (CX : CXT) (k : Nat) (R : Addr → Sp → Prop) : Prop :=
  ∀ C sp, R C sp → ∃ g fd ps, StX.CallO X.K C g ∧ FnOk X.prog X.w X.K X.mg X.base CX k g fd ps sp ∧ Binds X.K fd ps []
def tCallP (R : Addr → Sp → Prop) (E : XK) (tf : TE) (t : TA) : TE := fun σ H Q => tf σ H fun y H1 => ∃ a C sp, y = V.ref a ∧ R C sp ∧ t σ H1 fun vs H2 => (∃ dx fs, H2 a = some (.ins C dx fs)) ∧ sp (V.ref a :: vs) H2 Q E
theorem kpe_callP {fe : Expr} {tf : TE} (hR : DispC X CX k R) (hr : Room k X.A) (hx : Passes CX X E) (hf : PE X fe tf) (ha : PA X (e :: es) t)
    (ht : eval (.Call fe (e :: es) [] pos) X.env = (do callWith pos (← eval fe X.env) [] (backTo pos (starEach (e :: es) X.env)) (backToKw pos (keywordEach [] X.env))) := by rfl)
    (he : starEach (e :: es) X.env = (false, eval e X.env) :: starEach es X.env := by rfl) (hpl : (backTo pos (starEach es X.env)).any (·.1) = false := by rfl) : PE X (.Call fe (e :: es) [] pos) (tCallP R E tf t) := by
  refine ⟨fun pins s σ H Q I h => Call_ (thn (hf.run pins s σ H _ I h) fun u s1 hu => ?_) ht⟩
  obtain ⟨y, H1, I1, ry, a, C, sp, ey, hRC, q⟩ := hu
  subst ey
  obtain rfl : u = Value.ref a := ry
  obtain ⟨g, fd, ps, c, F, hb⟩ := hR C sp hRC
  refine StX.callO_with (thn (ha.run pos pins s1 σ H1 _ I1 q) fun us s2 hv => ?_) he hpl
  obtain ⟨vs, H2, I2, r, hi, q2⟩ := hv
  obtain ⟨ox, od, J, hd⟩ := StX.insC_at I2 (.inr hi)
  refine ⟨⟨C, ox, od, J, hd⟩, ?_⟩
  have r2 : Vals (V.ref a :: vs) (Value.ref a :: us) := .cons rfl r
  have hl : (Value.ref a :: us).length = ps.length := by rw [← r2.length]; exact F.len _ _ _ _ q2
  refine wpAny_call (PySem.W.kco_code I2.kIn J hd c.at_ c.fn c.fi (codeAny_mono (F.run X.A X.stack s2 H2 ⟨Value.ref a :: us, []⟩ (Value.ref a :: us) (V.ref a :: vs) Q E hr I2.env0 ?_ r2 q2) fun res s' hq => ?_))
  · have z := hb s2 (Value.ref a :: us) I2.kIn (by rw [List.append_nil]; exact hl)
    rw [List.append_nil] at z
    exact z
  · cases res with
    | error er => exact hx pins σ H2 s2 er s' I2 hq
    | ok fl =>
      cases fl with
      | ret v => exact I2.after hq
      | next => exact False.elim hq
      | brk => exact False.elim hq
      | cont => exact False.elim hq
end

/-- what isinstance asks of an own class -/
structure ClsTy (K : PySem.W.Frag) (C : Addr) : Prop where
  cl : Cls K C
  ha : PySem.W.findIn K (.ref C) "__class__" = some (some (.builtin "object.__class__"))
  hn : PySem.W.specialIn K (.builtin "object.__class__") "__get__" = some (some (.builtin "getset_descriptor.__get__"))
  htk : PySem.W.takesIn K (.builtin "object.__class__") = some true
  hm : PySem.W.mroIn K C (.type "object") = some true
theorem ty_own {K : PySem.W.Frag} {H : Hp} {a C dx : Addr} {fs : List (Str × V)} (c : ClsTy K C) (e : H a = some (.ins C dx fs)) : TyX K H (.ref a) (.ref C) := .base (.ins e c.cl c.ha c.hn c.htk c.hm)
end Kit

namespace Kit
open PySem PySem.Spec PyProof.Rows L2
/-! ### super().__init__(..) in an own exception's __init__ -/
/-- a built-in __init__ bound to the object that is being made -/
def mwo (u a : Addr) : HO := .ext fun h => h.get? u = some (PySem.W.kxs_mw "ValueError.__init__" a)
structure SupAtE (K : PySem.W.Frag) (C D : Addr) : Prop where
  oex : OexC K C
  sub : PySem.W.mroIn K C (.ref D) = some true
  m : PySem.W.ks_superIn K C D "__init__" = some (some (.builtin "ValueError.__init__"))
  hB : PySem.W.subIn K (.ref C) (.type "ValueError") = some true
section
variable {prog : Program} {w : World} {A : Around} {E : Value → Shared → Prop} {h : Heap} {g : Array GenState} {dr : Drawn} {t : Nat} {os : OsState}
theorem call_mwE {K : PySem.W.Frag} {C a u t1 : Addr} {us : List Value} {Q : Value → Shared → Prop} (KX : K.In h) (T : OexC K C) (hu : h.get? u = some (PySem.W.kxs_mw "ValueError.__init__" a))
    (ha : h.get? a = some ({ cls := .ref C, dict := none, data := .fields #[.ref t1, .none, .none, .none, .bool false, .none] } : Obj)) (hl : us.length ≤ sizeLine)
    (hq : ∀ h' t2, (∀ b o, b ≠ a → h.get? b = some o → h'.get? b = some o) → h'.get? a = some (PySem.HandSPX.excO C t2) → Q .none ⟨h', g, dr, t, os⟩) : wpAny (model prog w) A (call (.ref u) us) Q E ⟨h, g, dr, t, os⟩ := by
  obtain ⟨nm, q, N, bs, bm, sn, sub, ab, col, dd, k0, k1, k2, k3, k5, hC, hbm⟩ := T.cls
  refine wpAny_call (codeAny_of_tree ?_)
  show wpAny (model prog w) A.in1 (callAny (.ref u) { pos := us, kw := [] }) _ _ _
  simp only [callAny]
  refine wpAny_bind (wpAny_load hu ?_)
  simp only [PySem.W.kxs_mw, show ((Value.type "method-wrapper" == Value.type "method") || (Value.type "method-wrapper" == Value.type "builtin_function_or_method") || (Value.type "method-wrapper" == Value.type "method-wrapper")) = true by decide, if_true]
  refine PySem.W.KFB.if_so (by decide) ?_
  refine wpAny_bind (PySem.W.check_bound_init F.excBase_ValueError.toExcCallFacts (KX _ _ hC) ha rfl ?_)
  refine wpAny_bind (wpAny_pure (wpAny_pure ?_))
  refine ⟨plainId_quiet F.excBase_ValueError.init.plain _, codeAny_builtin F.excBase_ValueError.initEntry ?_⟩
  wp_walk
  refine hq _ h.objs.size (fun c oc nc gc => ?_) ?_
  · rw [Heap.get?_update_other _ _ fun e => nc e.symm]; exact Heap.get?_push_of_some _ gc
  · rw [Heap.get?_update_self _ (Heap.get?_push_of_some _ ha) rfl]; rfl
end
section
variable {X : Cx} {body : List Stmt}
def tSupE (K : PySem.W.Frag) (D : Addr) (ta : TA) : TS := fun B σ H => ∃ a C, σ[0]? = some (some (V.ref a)) ∧ H a = some (exo a C none) ∧ SupAtE K C D ∧
  ∀ q, H q = none → ta σ (upd H q (mwo q a)) fun vs H1 => vs.length ≤ 1000 ∧ H1 q = some (mwo q a) ∧ H1 a = some (exo a C none) ∧ B.nx σ H1
theorem mwo_ok {P : Program} {w : World} {H : Hp} {h : Heap} {u a : Addr} (hu : h.get? u = some (PySem.W.kxs_mw "ValueError.__init__" a)) : ObjOk P w H h u (mwo u a) := ⟨hu, ⟨_, hu⟩, fun h1 h2 z k => k _ z⟩
theorem mwo_at {P : Program} {w : World} {H : Hp} {h : Heap} {u a : Addr} (hok : HOk P w H h) (e : H u = some (mwo u a)) : h.get? u = some (PySem.W.kxs_mw "ValueError.__init__" a) := by
  have z : ObjOk P w H h u (.ext fun h => h.get? u = some (PySem.W.kxs_mw "ValueError.__init__" a)) := hok u _ e
  exact z.1
theorem pst_supE {f D cc cda : Addr} {self : Str} {e : Expr} {es : List Expr} {ta : TA} {p0 p1 apos pos spos : Pos} {pl : Sem Bool}
    (S : SupDef X.prog X.K X.mg f D cc cda self) (hfu : X.env.func = some f) (hco : X.env.code = .ref cda) (hks : X.env.kindOf "super" = some .globalImplicit) (hkc : X.env.kindOf "__class__" = some .free) (hcc : X.env.cells.lookup ("__class__" : Str) = some cc)
    (hN : X.N[0]? = some self) (hv : X.env.scope.names.lookup self = some .local) (ha : PA X (e :: es) ta)
    (hs : swapsWith (.Call (.Attribute (.Call (.Name "super" p0) [] [] p1) "__init__" apos) (e :: es) [] pos) none spos.line X.env = pure false := by rfl)
    (he0 : eval (.Call (.Attribute (.Call (.Name "super" p0) [] [] p1) "__init__" apos) (e :: es) [] pos) X.env = (do
      let ov ← attributeBase (.Call (.Name "super" p0) [] [] p1) "__init__" X.env (eval (.Call (.Name "super" p0) [] [] p1) X.env)
      standAt apos.atName
      let (f, first) ← holding [ov] (getMethod ov "__init__" pl)
      callWith pos f first (backTo pos (starEach (e :: es) X.env)) []) := by rfl)
    (he : starEach (e :: es) X.env = (false, eval e X.env) :: starEach es X.env := by rfl) (hpl : (backTo pos (starEach es X.env)).any (·.1) = false := by rfl) :
    PSt X body (.Expr (.Call (.Attribute (.Call (.Name "super" p0) [] [] p1) "__init__" apos) (e :: es) [] pos) spos) (tSupE X.K D ta) := by
  refine ⟨fun pins s σ H B I h => ?_⟩
  obtain ⟨a, C, hσ, hH, SA, q⟩ := h
  obtain ⟨oc, od, fd, osl, ar, lkf, hhead, har⟩ := S.fn
  obtain ⟨ccl, cdd, vs, ccs, file, tf, lkc, hvs, hfile⟩ := S.code
  obtain ⟨cl, cld, csl, lkcell⟩ := S.cell
  obtain ⟨cdD, hD⟩ := S.cls
  have KI := I.kIn
  obtain ⟨t1, hget⟩ := exo_at I.hok hH
  have IA : PySem.W.InstAt s.heap a _ C none := ⟨hget, rfl, rfl, trivial⟩
  obtain ⟨oD, hD1, hD2⟩ : ∃ oD, s.heap.get? D = some oD ∧ oD.data = .cls cdD := by
    unfold PySem.W.clsIn at hD
    split at hD
    · rename_i c d cd' sl ho
      cases hD
      exact ⟨_, KI _ _ ho, rfl⟩
    · cases hD
  obtain ⟨m, hns, hloc⟩ := I.loc
  obtain ⟨u, ru, lk⟩ := hloc 0 self (.ref a) hN hσ (.inl hv)
  cases ru
  have hself : m self = some (.ref a) := by
    rcases lk with ⟨_, z⟩ | ⟨z, _⟩
    · exact z
    · have z' : X.env.scope.names.lookup self = some .cell ∨ X.env.scope.names.lookup self = some .free := z
      rw [hv] at z'
      rcases z' with z' | z' <;> cases z'
  refine ks_wpAt_Expr_any ?_ I.quiet hs
  refine ks_wpAt_MethodCall ?_ he0
  refine ks_wpAt_super_base (env := X.env) hks hkc (by decide) hfu (KI _ _ lkf) rfl hhead hco (KI _ _ lkc) rfl hvs hfile S.top ?_
  obtain ⟨mb, hb1, hb2⟩ := I.mod.blt
  refine PySem.W.ks_loadName_global I.ok.kind hks (Calls.loadGlobal_builtin (by rw [I.ok.glob]; exact I.mod.glob.keeps I.bk) S.sup (by rw [I.ok.blt]; exact hb1.keeps I.bk) ((hb2 "super" (by decide)).trans (show bootBuiltins "super" = some (.type "super") by decide +kernel)) ⟨rfl, ?_⟩)
  refine wpAny_loadName_free I.ok.kind hkc hcc ⟨_, KI _ _ lkcell, rfl⟩ ?_
  rw [har]
  refine wpAny_loadName_local I.ok.kind hv hns hself ?_
  refine ks_wpAny_isType_cls hD1 hD2 ⟨rfl, ?_⟩
  obtain ⟨hp, g, dr, tk, os⟩ := s
  refine ks_wpAny_call_super hD1 hD2 IA.at_ IA.cls (fun c e => ?_) (PySem.W.looks_mroIn KI SA.sub) (fun h' e k => ?_)
  · have z := IA.no
    unfold PySem.W.notCls at z
    rw [e] at z
    exact Bool.noConfusion z
  have I1 : Inv X pins σ H ⟨h', g, dr, tk, os⟩ := I.kept (t' := tk) k
  have KI1 := I1.kIn
  obtain ⟨t2, hget2⟩ := exo_at I1.hok hH
  have IB : PySem.W.InstAt h' a _ C none := ⟨hget2, rfl, rfl, trivial⟩
  have hm := SA.m
  unfold PySem.W.ks_superIn at hm
  obtain ⟨cd, hc⟩ : ∃ cd, PySem.W.clsIn X.K C = some cd := by
    cases hc : PySem.W.clsIn X.K C with
    | none => rw [hc] at hm; cases hm
    | some cd => exact ⟨cd, rfl⟩
  rw [hc] at hm
  refine PySem.W.kxs_getMethod PySem.W.kxs_ValueError e (PySem.W.looks_opaque KI1 S.st) (l₀ := cd.mro) ?_ rfl KI1 hm (IB.type.andThen (PySem.W.looks_subIn KI1 SA.hB)) (PySem.W.ks_ne KI IA hc) (by decide) ?_
  · exact fun A Q E s k q => wpAny_bind ((PySem.W.looks_clsIn KI1 hc) A _ E s k (wpAny_pure q))
  have nq : H h'.objs.size = none := I1.hok.fresh (Nat.le_refl _)
  have hq0 : (h'.push (PySem.W.kxs_mw "ValueError.__init__" a)).get? h'.objs.size = some (PySem.W.kxs_mw "ValueError.__init__" a) := Heap.get?_push_at rfl rfl
  have I2 : Inv X pins σ (upd H h'.objs.size (mwo h'.objs.size a)) ⟨h'.push (PySem.W.kxs_mw "ValueError.__init__" a), g, dr, tk + 1, os⟩ :=
    I1.laid (t' := tk + 1) (a := h'.objs.size) (o := mwo h'.objs.size a) (h' := h'.push (PySem.W.kxs_mw "ValueError.__init__" a)) (fun b o e => Heap.get?_push_of_some _ e) (Nat.le_refl _) (mwo_ok hq0)
  have hq := q h'.objs.size nq
  generalize h'.objs.size = qa at *
  rw [he]
  refine PySem.W.kxs_callWith (i := "ValueError.__init__") (x := a) (by show (false || (backTo pos (starEach es X.env)).any (·.1)) = false; rw [hpl]; rfl) ?_
  refine PySem.Calls.evalArgs_plain ?_
  have hrun := ha.run pos pins _ σ _ _ I2 hq
  rw [he] at hrun
  refine thn hrun fun us s1 ⟨ws, H1, I3, r1, hlen, hqm, hqa, hsp⟩ => ?_
  have hmo := mwo_at I3.hok hqm
  refine ⟨hmo, ?_⟩
  obtain ⟨t3, hget3⟩ := exo_at I3.hok hqa
  have hus : us.length ≤ sizeLine := by
    rw [← Paired.length r1, sizeLine_eq]
    omega
  obtain ⟨hp3, g3, dr3, tk3, os3⟩ := s1
  refine call_mwE I3.kIn SA.oex hmo hget3 hus fun h4 t4 k4 e4 => ?_
  have J := I3.write (t' := tk3) (x := a) (e := a) (o := exo a C none) (by rw [hqa]; exact True.intro) (.inl rfl) k4 ⟨_, e4⟩ (exo_ok e4)
  have eu : upd H1 a (exo a C none) = H1 := by
    funext b
    by_cases hb : b = a
    · rw [hb, upd_same, hqa]
    · rw [upd_ne hb]
  rw [eu] at J
  exact ⟨σ, H1, J, hsp⟩
end
/-! ### several except clauses, each with a name -/
abbrev endA (i : Nat) (D : Ends) : Ends := { nx := fun τ G => D.nx (τ.set i none) G, rt := D.rt, bk := fun τ G => D.bk (τ.set i none) G, ct := fun τ G => D.ct (τ.set i none) G }
abbrev ClA : Type := Value × Nat × (Addr → Value → Option Addr → TS)
def wManyA (K : PySem.W.Frag) (Wo : WX) (D : Ends) : List ClA → WX
  | [] => Wo
  | (c, i, ts) :: r => fun cls d τ G => ∃ hit, PySem.W.exmOne K cls c = some hit ∧ (hit = true → ∀ a, G a = none → ts a cls d (endA i D) (τ.set i (some (.ref a))) G) ∧ (hit = false → wManyA K Wo D r cls d τ G)
inductive HdsA (X : Cx) : List ExceptHandler → List ClA → Prop
  | nil : HdsA X [] []
  | cons {x n : Str} {c : Value} {i : Nat} {ts : Addr → Value → Option Addr → TS} {b0 : Stmt} {sts : List Stmt} {np ps : Pos} {hds : List ExceptHandler} {l : List ClA} (hi : X.N[i]? = some n) (hln : X.env.kindOf n = some .local) (hc : Names X x c)
      (hsu : ∀ (a : Addr) (oe : Obj) (cls : Value) (d : Option Addr) (pn : List (Addr × Obj)), Zc cls d oe → (∃ vs, oe.data = .fields vs) → PSs (X.suite a ((a, oe) :: pn)) (b0 :: sts) (ts a cls d)) (r : HdsA X hds l) :
      HdsA X (.ExceptHandler (some (.Name x np)) (some n) (b0 :: sts) ps :: hds) ((c, i, ts) :: l)
section
variable {X : Cx} {body : List Stmt} {h0 : ExceptHandler} {hds : List ExceptHandler} {l : List ClA} {pos : Pos} {tb : WX → TS} {Wo : WX}
theorem ps_try_manyA (est : X.stack = X.env :: X.outer) (efr : X.env.frame = some X.env.locals) (hN : X.N.Nodup) (tk : Takes X Wo)
    (hbd : ∀ (W : WX) (pn : List (Addr × Obj)) (xe : Value → Shared → Prop), Takes (X.tr pn xe) W → PassesOwn (model X.prog X.w) X.A X.env xe → PSs (X.tr pn xe) body (tb W))
    (hh : HdsA X (h0 :: hds) l) : PS X (.Try body (h0 :: hds) [] [] pos) (fun D σ H => tb (wManyA X.K Wo D l) D σ H) := by
  refine ⟨fun pins s0 σ H D I h => ?_⟩
  have okX := I.ok
  have frX : X.A.frames = some (X.env :: X.outer) := by rw [okX.frames, est]
  refine wpAny_Try_except ?_
  refine wpAny_mono ((hbd (wManyA X.K Wo D l) (X.pn ++ pins) (fun e s₁ => wpAny (model X.prog X.w) X.A (noteFrame e X.env) (fun _ s₂ => wpAny (model X.prog X.w) X.A (setFlight e none) (fun _ s₃ =>
    wpAny (model X.prog X.w) X.A (handleBy e X.env (h0 :: hds)) (SP X pins D) X.xe s₃) X.xe s₂) X.xe s₁) (fun u sE xx => ?_) PassesOwn.looking).run [] s0 σ H D (I.toTry _) h) (fun f s1 spf => ?_) (fun e s1 q => q)
  · obtain ⟨a, B, sJ, pin2, τ, G, cls, d, rfl, JT, nb, up, sky, na, os, ag, w⟩ := xx
    have J : Inv X pins τ G sJ := JT.ofTry okX
    have skyX : Sky B (X.env :: X.outer) a (Zc cls d) X.env.locals sE.heap := by rw [← est]; exact sky
    show wpAny (model X.prog X.w) X.A (noteFrame (.ref a) X.env) _ _ _
    refine Sky.land Zc.steady frX efr skyX fun h3 w3 up3 => ?_
    have J3 : Inv X pins τ G { sE with heap := h3 } := J.landed nb w3.1 (up.trans up3) os ag
    obtain ⟨o3, vs3, ge3, gz3, gd3⟩ := w3.there
    have far : ∀ {h : Heap} {o : Obj} {vs : Array Value}, h.FunFrames B (X.env :: X.outer) → h.get? a = some o → o.data = .fields vs → a ∉ frs (X.env :: X.outer) := fun {h o vs} ff e dd hm => by
      obtain ⟨_, o2, e2, hne⟩ := ff.mem hm
      rw [e] at e2; cases e2; exact hne _ dd
    have nfX := far w3.2.2.1 ge3 gd3
    have nLX : a ≠ X.env.locals := fun z => nfX (List.mem_filterMap.mpr ⟨X.env, List.mem_cons_self, by rw [efr, z]⟩)
    have nFX : a ∉ X.fs := fun hm => by
      obtain ⟨e, hem, q⟩ := List.mem_filterMap.mp hm
      exact nfX (List.mem_filterMap.mpr ⟨e, List.mem_cons_of_mem _ hem, q⟩)
    have S3 := J3.suite ge3 gd3 na nLX nFX
    have go : ∀ {hs : List ExceptHandler} {cl : List ClA}, HdsA X hs cl → wManyA X.K Wo D cl cls d τ G → wpAny (model X.prog X.w) X.A (handleBy (.ref a) X.env hs) (SP X pins D) X.xe { sE with heap := h3 } := by
      intro hs cl hk
      induction hk with
      | nil =>
        intro w
        refine wpAny_handleBy_nil ?_
        obtain ⟨k1, k2, k3, oe, vs, TT, oT, tsT, heT, hzT, hdT, h1T, hrT⟩ := id w3
        unfold PySem.passOn
        refine wpAny_bind (wpAny_field heT hdT h1T ?_)
        rw [if_neg (show ¬ ((Value.ref TT == Value.none) = true) from by simp)]
        have thrown : wpAny (model X.prog X.w) X.A (setFlight (.ref a) X.env.frame) (fun _ s4 => wpAny (model X.prog X.w) X.A (throw (.ref a) : Sem Flow) (SP X pins D) X.xe s4) X.xe { sE with heap := h3 } := by
          rw [efr]
          refine HandSPX.setFlight_upZ w3 fun h4 hh4 up4 => wpAny_throw (tk _ _ ?_)
          exact ⟨a, B, sJ, pins, τ, G, cls, d, rfl, J, nb, (up.trans up3).trans up4, .inr (.inr (by rw [est]; exact hh4)), na, os, ag, w⟩
        first | exact wpAny_bind (wpAny_pure (wpAny_bind thrown)) | exact wpAny_bind thrown
      | @cons x n c i ts b0 sts np ps hds2 l2 hi hln hc hsu r ih =>
        intro w
        obtain ⟨hit, hb1, hyes, hno⟩ := w
        refine wpAny_handleBy_cons (codeAny_handlers_test ?_) (by intro q; cases q)
        have LT : PySem.W.Looks (model X.prog X.w) h3 (typeOf (.ref a)) cls := fun A Q E s k q => wpAny_typeOf_ref (k _ _ ge3) (by rw [gz3.1]; exact q)
        have LM := PySem.W.exm_one (M := model X.prog X.w) (J3.kIn) LT hb1
        have tst : ∀ {Q : Value → Shared → Prop} {E : Value → Shared → Prop}, Q c { sE with heap := h3 } → wpAny (model X.prog X.w) (X.A.mark (some (.ref a))) (eval (.Name x np) X.env) Q E { sE with heap := h3 } := fun {Q E} q => by
          obtain ⟨hg, hdbg, hm | ⟨hm, hv, hnn⟩⟩ := hc
          · exact ld_glob (X := X.suite a ((a, o3) :: (X.pn ++ pins))) S3 hg hm q hdbg
          · exact ld_blt (X := X.suite a ((a, o3) :: (X.pn ++ pins))) S3 hg hm hv q hnn hdbg
        refine tst (LM.here ?_)
        cases hit with
        | false =>
          show wpAny (model X.prog X.w) X.A (handleBy (.ref a) X.env hds2) _ _ _
          exact ih (hno rfl)
        | true =>
          refine codeAny_handlers_suite_as ?_
          refine HandSPX.lands_againZ w3 fun h4 w4 up4 => ?_
          have J4 : Inv X pins τ G { sE with heap := h4 } := J.landed nb w4.1 ((up.trans up3).trans up4) os ag
          obtain ⟨o4, vs4, ge4, gz4, gd4⟩ := w4.there
          have S4 := J4.suite ge4 gd4 na nLX nFX
          refine store_ok (X := X.suite a ((a, o4) :: (X.pn ++ pins))) (v := .ref a) S4 hN hi (.inl hln) rfl (fun s5 S5 => ?_) (.inr hln)
          refine wpAny_mono ((hsu a o4 cls d (X.pn ++ pins) gz4 ⟨_, gd4⟩).run [] s5 _ G _ S5 (hyes rfl a na)) (fun f s6 sp6 => ?_) (fun _ _ z => False.elim z)
          have fin : ∀ {σ6 : L2.St} {H6 : Hp} {Q : Shared → Prop}, Inv (X.suite a ((a, o4) :: (X.pn ++ pins))) [] σ6 H6 s6 → (∀ s7, Inv X pins (σ6.set i none) H6 s7 → Q s7) →
              wpAny (model X.prog X.w) X.A (do bindName X.env n .none; unbindBehindTheSuite X.env n ps) (fun _ s7 => Q s7) X.xe s6 := fun {σ6 H6 Q} S6 hq => gone_ok (S6.unsuite okX) hN hi hln hq
          cases f with
          | ret u =>
            obtain ⟨v6, σ6, H6, S6, r6, q6⟩ := sp6
            exact fin S6 fun s7 J7 => ⟨_, _, _, J7, r6, q6⟩
          | next => obtain ⟨σ6, H6, S6, q6⟩ := sp6; exact fin S6 fun s7 J7 => ⟨_, _, J7, q6⟩
          | brk => obtain ⟨σ6, H6, S6, q6⟩ := sp6; exact fin S6 fun s7 J7 => ⟨_, _, J7, q6⟩
          | cont => obtain ⟨σ6, H6, S6, q6⟩ := sp6; exact fin S6 fun s7 J7 => ⟨_, _, J7, q6⟩
    exact go hh w
  · cases f with
    | ret u =>
      obtain ⟨v, τ, G, JT, r, q⟩ := spf
      exact ⟨v, τ, G, JT.ofTry okX, r, q⟩
    | next => obtain ⟨τ, G, JT, q⟩ := spf; exact wpAny_execs_nil ⟨τ, G, JT.ofTry okX, q⟩
    | brk => obtain ⟨τ, G, JT, q⟩ := spf; exact ⟨τ, G, JT.ofTry okX, q⟩
    | cont => obtain ⟨τ, G, JT, q⟩ := spf; exact ⟨τ, G, JT.ofTry okX, q⟩
end
/-! ### keywords alone; wishes at the caller's slots -/
section
variable {X : Cx} {CX : CXT} {k : Nat} {f : Addr} {fd : FuncData} {ps ks : List Str} {sp : Sp} {E : L2.St → XK} {x : Str} {p pos : Pos} {kws : List Keyword} {tk : TA}
def tCallKS (sp : Sp) (gV : List V → List V → List V) (E : L2.St → XK) (tk : TA) : TE := fun σ H Q => tk σ H fun zs H2 => sp (gV [] zs) H2 Q (E σ)
theorem pe_callKS {g : List Value → List Value → List Value} {gV : List V → List V → List V} (Fn : FnOk X.prog X.w X.K X.mg X.base CX k f fd ps sp) (hr : Room k X.A) (hg : Gl X x) (hm : X.mg x = some (.ref f)) (hk : PySem.W.keepIn X.K (.ref f) = true) (hb : KBinds X.K fd ps ks g gV) (hx : ∀ σ, PassesAt CX X σ (E σ))
    (hkw : PK X kws tk) (hall : (backToKw pos (keywordEach kws X.env)).all (·.1.isSome) = true := by rfl) (hks : (backToKw pos (keywordEach kws X.env)).filterMap (·.1) = ks := by rfl) (hdb : (x == ("__debug__" : Str)) = false := by decide)
    (hpl : ((backTo pos (starEach [] X.env)).any (·.1) || (backToKw pos (keywordEach kws X.env)).any (·.1.isNone)) = false := by rfl) : PE X (.Call (.Name x p) [] kws pos) (tCallKS sp gV E tk) := by
  refine ⟨fun pins s σ H Q I h => ?_⟩
  refine wpAny_Call_Name_kw (ld_glob I hg hm ?_ hdb)
  refine PySem.W.callWith_KW0 (h₀ := X.base) I.ok.mod.kin hk hall ?_ hpl
  refine thn (hkw.run pos pins s σ H _ I h) fun ws s2 ⟨zs, H2, I2, rz, q2⟩ => ⟨I2.kIn, ?_⟩
  rw [hks]
  have r2 := hb.rel (vs := []) (us := []) .nil rz
  have hl : (g [] ws).length = ps.length := by rw [← r2.length]; exact Fn.len _ _ _ _ q2
  refine wpAny_call (codeAny_mono (Fn.run X.A X.stack s2 H2 ⟨[], ks.zip ws⟩ (g [] ws) (gV [] zs) Q (E σ) hr I2.env0 (hb.to s2 [] ws I2.kIn hl) r2 q2) fun r s' q3 => ?_)
  cases r with
  | ok fl => cases fl with
    | ret u => exact I2.after q3
    | next => exact False.elim q3
    | brk => exact False.elim q3
    | cont => exact False.elim q3
  | error e => exact hx σ pins H2 s2 e s' I2 q3
theorem pass0At {X : Cx} {E : L2.St → XK} : ∀ σ, PassesAt CX0 X σ (E σ) := fun _ _ _ _ _ _ _ h => h.elim
theorem k_callKS {gV : List V → List V → List V} {σ : L2.St} {H : Hp} {Q : VK} (h : tk σ H fun zs H2 => sp (gV [] zs) H2 Q (E σ)) : tCallKS sp gV E tk σ H Q := h
end
theorem exm_selfE {K : PySem.W.Frag} {S D : Addr} {hit : Bool} (h1 : PySem.W.subIn K (.ref D) (.type "BaseException") = some true) (h2 : PySem.W.isClsIn K D = true) (h3 : PySem.W.typeIn K (.ref D) = some (.type "type")) (h4 : PySem.W.subIn K (.ref S) (.ref D) = some hit) : PySem.W.exmOne K (.ref S) (.ref D) = some hit := by
  have a1 : (PySem.W.subIn K (.ref D) (.type "BaseException") == some true) = true := by rw [h1] <;> rfl
  have a2 : ((PySem.W.clsIn K D).isSome && PySem.W.typeIn K (.ref D) == some (.type "type")) = true := by
    have b2 : (PySem.W.clsIn K D).isSome = true := h2
    rw [b2, h3] <;> rfl
  show (if (PySem.W.subIn K (.ref D) (.type "BaseException") == some true) = true then (if ((PySem.W.clsIn K D).isSome && PySem.W.typeIn K (.ref D) == some (.type "type")) = true then PySem.W.subIn K (.ref S) (.ref D) else none) else none) = some hit
  rw [if_pos a1, if_pos a2]
  exact h4
/-! ### readings -/
section
variable {σ : L2.St} {H : Hp} {D : Ends} {K : PySem.W.Frag}
theorem k_supE {D0 a C : Addr} {ta : TA} {B : Ends} (h0 : σ[0]? = some (some (V.ref a))) (h1 : H a = some (exo a C none)) (h2 : SupAtE K C D0) (k : ∀ q, H q = none → ta σ (upd H q (mwo q a)) fun vs H1 => vs.length ≤ 1000 ∧ H1 q = some (mwo q a) ∧ H1 a = some (exo a C none) ∧ B.nx σ H1) : tSupE K D0 ta B σ H := ⟨a, C, h0, h1, h2, k⟩
theorem k_ost {f : Str} {to te : TE} (h : te σ H fun y H1 => to σ H1 fun x H2 => ∃ a C : Addr, x = .ref a ∧ OexC K C ∧ PySem.W.findIn K (.ref C) f = some none ∧
  ((H2 a = some (exo a C none) ∧ ∀ dx, H2 dx = none → dx ≠ a → D.nx σ (upd (upd H2 dx (exd dx [(f, y)])) a (exo a C (some dx)))) ∨
    ∃ (dx : Addr) (fs : List (Str × V)), H2 a = some (exo a C (some dx)) ∧ H2 dx = some (exd dx fs) ∧ fs.length ≤ 900 ∧ D.nx σ (upd H2 dx (exd dx ((f, y) :: fs))))) : tOst K f to te D σ H := h
theorem k_callS {sp : Sp} {E : L2.St → XK} {t : TA} {Q : VK} (h : t σ H fun vs H1 => sp vs H1 Q (E σ)) : tCallS sp E t σ H Q := h
end
end Kit

namespace Law
open PySem PySem.Spec PyProof.Rows L2 Kit
local macro_rules | `(tactic| walk_at "kb") => `(tactic| first | exact kb_int_int | exact kb_int_bool | exact kb_int_str | exact kb_int_list | exact kb_int_tuple | exact kb_int_dict | exact kb_bool_int | exact kb_bool_bool | exact kb_bool_str | exact kb_bool_list | exact kb_bool_tuple | exact kb_bool_dict | exact kb_str_int | exact kb_str_bool | exact kb_str_str | exact kb_str_list | exact kb_str_tuple | exact kb_str_dict | exact kb_NoneType_int | exact kb_NoneType_bool | exact kb_NoneType_str | exact kb_NoneType_list | exact kb_NoneType_tuple | exact kb_NoneType_dict | exact kb_list_int | exact kb_list_bool | exact kb_list_str | exact kb_list_list | exact kb_list_tuple | exact kb_list_dict | exact kb_tuple_int | exact kb_tuple_bool | exact kb_tuple_str | exact kb_tuple_list | exact kb_tuple_tuple | exact kb_tuple_dict | exact kb_dict_int | exact kb_dict_bool | exact kb_dict_str | exact kb_dict_list | exact kb_dict_tuple | exact kb_dict_dict)
local macro_rules | `(tactic| walk_at "size") => `(tactic| first | assumption | (show (_ : Nat) ≤ sizeLine; exact small_size (by first | decide | omega | (simp; omega))) | (show (_ : Nat) < sizeLine; exact small_lt (by first | decide | omega | (simp; omega))))
local macro_rules | `(tactic| walk_at "here") => `(tactic| first | assumption | exact upd_same | (refine up_get (by assumption) ?_; walk_at "here") | (refine Eq.trans (upd_ne (by assumption)) ?_; walk_at "here"))
local macro_rules | `(tactic| walk_at "same") => `(tactic| first | assumption | exact Same.refl _ | exact same_new (by assumption) | (refine Same.trans ?_ (same_new (by assumption)); walk_at "same") | (refine Same.trans ?_ (by assumption); walk_at "same"))
local macro_rules | `(tactic| walk_at "none") => `(tactic| first | assumption | (refine Eq.trans (upd_ne ?_) ?_ <;> first | assumption | walk_at "none"))
local macro_rules | `(tactic| walk_at "ty") => `(tactic| first | exact TyX.base (.int _) | exact TyX.base (.str _) | exact TyX.base .non | exact TyX.base (.bl _) | exact TyX.base (.tup (by walk_at "here")) | exact TyX.base (.lst (by walk_at "here")) | exact TyX.base (.dK (by walk_at "here")))
local macro_rules | `(tactic| walk_at "s") => `(tactic| first
  | (with_reducible refine k_seq ?_) | (with_reducible refine k_op ?_)
  | ((with_reducible show tVar _ _ _ _); refine k_var rfl ?_)
  | (with_reducible refine k_c ?_) | (with_reducible refine k_cons ?_) | (with_reducible refine k_nil ?_)
  | (with_reducible refine k_asg ?_) | (with_reducible refine k_gName ?_) | (with_reducible refine k_drop ?_) | (with_reducible refine k_ret ?_)
  | (with_reducible refine k_ifS ?_) | (with_reducible refine k_test ?_) | (with_reducible refine k_bl ?_) | (with_reducible refine k_CB ?_) | (with_reducible refine k_call ?_)
  | (with_reducible refine k_addI ?_) | (with_reducible refine k_I0 ?_) | (with_reducible refine k_eqI ?_) | (with_reducible refine k_neI ?_)
  | ((with_reducible show rI _ _ _ _ _ _); (refine k_I ?c ?_; (case c => first | decide | omega | (show (0 : Int) < _ ∧ _; omega) | (show (0 : Int) ≤ _ ∧ _; omega) | (show (_ ∧ _) ∨ _; omega) | assumption)))
  | (with_reducible refine k_U ?_) | (with_reducible refine k_int1 ?_) | (with_reducible refine k_max2 ?_) | (with_reducible refine k_min2 ?_)
  | (with_reducible refine k_t ?_) | (with_reducible refine k_t' ?_) | (with_reducible refine k_f' ?_) | (with_reducible refine k_o1 ?_) | (with_reducible refine k_o2 ?_) | (with_reducible refine k_o3 ?_) | (with_reducible refine k_o4 ?_) | (with_reducible refine k_o5 ?_) | (with_reducible refine k_o6 ?_) | (with_reducible refine k_chain ?_) | (with_reducible refine k_f ?_)
  | (with_reducible refine k_and ?_) | (with_reducible refine k_or ?_) | (with_reducible refine k_not ?_) | (with_reducible refine k_if ?_) | (with_reducible refine k_B ?_)
  | (with_reducible refine k_andV ?_) | (with_reducible refine k_orV ?_) | (with_reducible refine k_notV ?_) | (with_reducible refine k_un ?_)
  | (with_reducible refine k_gSub ?_) | (with_reducible refine k_par ?_) | (with_reducible refine k_pair ?_) | (with_reducible refine k_sl ?_) | (with_reducible refine k_noPart ?_) | (with_reducible refine k_part ?_) | (with_reducible refine k_int ?_)
  | (with_reducible refine k_fld ?_) | (with_reducible refine k_putF ?_) | ((with_reducible show (_ ≤ sizeLine) ∧ _); refine k_disp (Nat.le_of_ble_eq_true rfl) ?_) | (with_reducible refine k_jsCons ?_) | (with_reducible refine k_jsNil ?_) | (with_reducible refine k_fmt ?_) | (with_reducible refine k_gCons ?_) | (with_reducible refine k_gNil ?_) | (with_reducible refine k_iEnum ?_) | (with_reducible refine k_joinC ?_) | ((with_reducible show gTup _ _ _ (V.ref _) _ _ _); refine' k_gTup (SqT.of ?h) ?hl ?_; (case h => walk_at "here"); (case hl => rfl)) | (with_reducible refine k_for ?_) | (with_reducible refine k_iList ?_) | (with_reducible refine k_iTup ?_) | (with_reducible refine k_rng1 ?_) | (with_reducible refine k_rng2 ?_) | (with_reducible refine k_lc ?_) | (with_reducible refine k_yes ?_) | (with_reducible refine k_next ?_) | (with_reducible refine k_break ?_) | (with_reducible refine k_cont ?_) | (with_reducible refine k_retN ?_)
  | ((with_reducible show tTup _ _ _ _); refine k_tup ?_) | ((with_reducible show tLst _ _ _ _); refine k_lst ?_)
  | ((with_reducible show rLenU _ [V.ref _] _ _); (first | (refine' k_lenL (SqL.of ?h) ?_; (case h => walk_at "here")) | (refine' k_lenL ?h ?_; (case h => assumption)) | (refine' k_lenT (SqT.of ?h) ?_; (case h => walk_at "here"))))
  | ((with_reducible show rIsi _ [_, V.ty _] _ _); (refine' k_isi ?t ?h ?_; (case t => walk_at "ty"); (case h => walk_at "kb")))
  | ((with_reducible show rIsiT _ [_, V.ref _] _ _); (refine' k_isiT ?p ?t ?h1 ?h2 ?_; (case p => walk_at "here"); (case t => walk_at "ty"); (case h1 => walk_at "kb"); (case h2 => walk_at "kb")))
  | ((with_reducible show rIx _ (V.ref _) (V.int _) _ _); (first | (refine' k_ixL (SqL.of ?h) ?a ?_; (case h => walk_at "here"); (case a => first | rfl | assumption)) | (refine' k_ixT (SqT.of ?h) ?a ?_; (case h => walk_at "here"); (case a => first | rfl | assumption))))
  | ((with_reducible show rSetL (V.ref _) (V.int _) _ (upd _ _ (HO.lst _)) _); (refine' k_setLu ?e ?ey ?_; (case e => rfl); (case ey => rfl)))
  | ((with_reducible show rSetL (V.ref _) (V.int _) _ _ _); (refine' k_setL ?h ?e ?_; (case h => walk_at "here"); (case e => first | rfl | assumption))))
local macro_rules | `(tactic| walk_at "ss") => `(tactic| (repeat walk_at "s"))
/-! ### an own exception as a value; what isinstance says of it -/
section
variable {X : Cx}
structure IsX (K : PySem.W.Frag) (C : Addr) : Prop where
  c1 : PySem.W.isClsIn K C = true
  c2 : PySem.W.findIn K (.ref C) "__getattribute__" = some (some (.builtin "BaseException.__getattribute__"))
  c3 : PySem.W.findIn K (.ref C) "__getattr__" = some none
  c4 : PySem.W.subIn K (.ref C) (.type "BaseException") = some true
  c5 : PySem.W.findIn K (.ref C) "__class__" = some (some (.builtin "object.__class__"))
  c6 : PySem.W.specialIn K (.builtin "object.__class__") "__get__" = some (some (.builtin "getset_descriptor.__get__"))
  c7 : PySem.W.takesIn K (.builtin "object.__class__") = some true
  c8 : PySem.W.mroIn K C (.type "object") = some true
def rIsiX (K : PySem.W.Frag) : List V → Hp → VK → Prop := fun xs H Q => ∃ (a C d : Addr) (fs : List (Str × V)) (T : String) (b : Bool), xs = [.ref a, .ty T] ∧ H a = some (exo a C (some d)) ∧ H d = some (exd d fs) ∧ IsX K C ∧ PySem.W.kitOne K (.ref C) (.type T) = some b ∧ Q (.bl b) H
theorem call_isiX : CallR X (.builtin "isinstance") (rIsiX X.K) := by
  intro pins st σ H xs us Q I rs hh
  obtain ⟨a, C, d, fs, T, b, rfl, hH, hd, Z, e, q⟩ := hh
  obtain ⟨w1, w2, rfl, rw1, rw2⟩ := vals2 rs
  obtain rfl : w1 = Value.ref a := rw1
  obtain rfl : w2 = Value.type T := rw2
  obtain ⟨t1, hget⟩ := exo_at I.hok hH
  obtain ⟨mA, hns, _⟩ := exd_at I.hok hd
  obtain ⟨od, hod⟩ : ∃ od, st.heap.get? d = some od := by
    obtain ⟨o, _, _, z, _⟩ := hns
    exact ⟨o, z⟩
  exact PySem.W.kia_one (PySem.W.kitx_exc (x := a) (od := some od) Z.c1 Z.c2 Z.c3 Z.c4 Z.c5 Z.c6 Z.c7 Z.c8) I.kIn ⟨hget, rfl, rfl, hod⟩ e (fun z => nomatch z) fun tk => ⟨.bl b, H, I.tok tk, rfl, q⟩
def rIsiG (K : PySem.W.Frag) : List V → Hp → VK → Prop := fun xs H Q => rIsi K xs H Q ∨ rIsiX K xs H Q
theorem kc_isiG (K : PySem.W.Frag) (hK : X.K = K := by rfl) : CallR X (.builtin "isinstance") (rIsiG K) := by
  subst hK
  intro pins st σ H xs us Q I rs hh
  exact hh.elim (call_isi pins st σ H xs us Q I rs) (call_isiX pins st σ H xs us Q I rs)
/-- C(e, ..), the exception as a value -/
def tMkV (C : Addr) (sp : Sp) (dvs : List V) (ta : TA) : TE := fun σ H Q => ta σ H fun vs H1 => vs.length ≤ 1000 ∧ ∀ a, H1 a = none → sp (.ref a :: (vs ++ dvs)) (upd H1 a (exo a C none)) (fun v H2 => v = .non ∧ Q (.ref a) H2) (fun _ _ _ => False)
theorem pe_oexV {CX : CXT} {nm : Str} {C fI : Addr} {k : Nat} {fd : FuncData} {ps : List Str} {sp : Sp} {ds : List Value} {dvs : List V} {e : Expr} {es : List Expr} {ta : TA} {p pos : Pos} (T : OexC X.K C)
    (iC : PySem.W.findIn X.K (.ref C) "__init__" = some (some (.ref fI))) (tI : PySem.W.typeIn X.K (.ref fI) = some (.type "function")) (Fn : FnOk X.prog X.w X.K X.mg X.base CX k fI fd ps sp) (room : Room (k + 1) X.A) (bs : Binds X.K fd ps ds)
    (dv : Vals dvs ds) (px : Passes CX X (fun _ _ _ => False)) (gl : Gl X nm) (hm : X.mg nm = some (.ref C)) (arg : PA X (e :: es) ta) (nodb : (nm == ("__debug__" : Str)) = false := by decide)
    (st0 : starEach (e :: es) X.env = (false, eval e X.env) :: starEach es X.env := by rfl) (pl : (backTo pos (starEach es X.env)).any (·.1) = false := by rfl) : PE X (.Call (.Name nm p) (e :: es) [] pos) (tMkV C sp dvs ta) := by
  refine ⟨fun pins st σ H Q I hh => ?_⟩
  obtain ⟨nm1, qn, Na, bas, bmr, snn, subs, abb, coo, ddd, q0, q1, q2, q3, q5, clsAt, refs⟩ := T.cls
  refine wpAny_Call_Name_kw (ld_glob I gl hm ?_ nodb)
  refine PySem.W.callWith_K (h₀ := X.base) I.ok.mod.kin T.kC (thn (arg.run pos pins st σ H _ I hh) fun ws s1 ⟨vs, H1, I1, rws, small, go⟩ => ⟨I1.kIn, ?_⟩) st0 pl
  show wpAny _ _ (call (.ref C) ws) _ _ _
  obtain ⟨hq, gg, dw, tq, oq⟩ := s1
  have up1 : hq.objs.size ≤ hq.objs.size + 1 := Nat.le_succ _
  have go1 := go (hq.objs.size + 1) (I1.hok.fresh up1)
  have old : ∀ b o, hq.get? b = some o → ((hq.push (PySem.W.kdv_tup ws)).push (PySem.HandSPX.excO C hq.objs.size)).get? b = some o := fun b o z => Heap.get?_push_of_some _ (Heap.get?_push_of_some _ z)
  have there : ((hq.push (PySem.W.kdv_tup ws)).push (PySem.HandSPX.excO C hq.objs.size)).get? (hq.objs.size + 1) = some (PySem.HandSPX.excO C hq.objs.size) := by heap_get
  have J : Inv X pins σ (upd H1 (hq.objs.size + 1) (exo (hq.objs.size + 1) C none)) ⟨(hq.push (PySem.W.kdv_tup ws)).push (PySem.HandSPX.excO C hq.objs.size), gg, dw, tq, oq⟩ :=
    I1.laid (t' := tq) (a := hq.objs.size + 1) (o := exo (hq.objs.size + 1) C none) (h' := (hq.push (PySem.W.kdv_tup ws)).push (PySem.HandSPX.excO C hq.objs.size)) old up1 (exo_ok there)
  have rel : Vals (V.ref (hq.objs.size + 1) :: (vs ++ dvs)) (Value.ref (hq.objs.size + 1) :: (ws ++ ds)) := .cons rfl (rws.append dv)
  have many : (Value.ref (hq.objs.size + 1) :: ws ++ ds).length = ps.length := by
    have z := rel.length
    rw [Fn.len _ _ _ _ go1] at z
    exact z.symm
  have few : ws.length ≤ sizeLine := by
    rw [← Paired.length rws, sizeLine_eq]
    omega
  refine wpAny_call (PySem.HandSPX.call_own F.excBase_ValueError (fun Y => PySem.HandSPX.refsVE_contains Y bmr refs) (I1.kIn _ _ clsAt) (PySem.W.looks_findIn I1.kIn iC) (fun self => PySem.W.bind_fn I1.kIn self tI) few
    (codeAny_mono (Fn.run _ X.stack _ _ ⟨Value.ref (hq.objs.size + 1) :: ws, []⟩ (Value.ref (hq.objs.size + 1) :: (ws ++ ds)) _ _ (fun _ _ _ => False) (room.make C ws []) (J.env0.make C ws []) (bs _ (Value.ref (hq.objs.size + 1) :: ws) J.kIn many) rel go1) fun r s' fin => ?_))
  cases r with
  | error er => exact px pins σ _ _ er s' J fin
  | ok fl =>
    cases fl with
    | ret u =>
      obtain ⟨v, H2, J3, rv, ev, q⟩ := J.after fin
      subst ev
      exact ⟨rv, .ref _, H2, J3, rfl, q⟩
    | next => exact False.elim fin
    | brk => exact False.elim fin
    | cont => exact False.elim fin
theorem k_mkV {C : Addr} {sp : Sp} {dvs : List V} {ta : TA} {σ : L2.St} {H : Hp} {Q : VK} (h : ta σ H fun vs H1 => vs.length ≤ 1000 ∧ ∀ a, H1 a = none → sp (.ref a :: (vs ++ dvs)) (upd H1 a (exo a C none)) (fun v H2 => v = .non ∧ Q (.ref a) H2) (fun _ _ _ => False)) : tMkV C sp dvs ta σ H Q := h
end

def P : Program := PySem.Challenge.pw_surelet_k01_words_judged
def top (i : Nat) : Stmt := PySem.Challenge.pw_surelet_k01_words_judged.main.body.getD i (.Pass ⟨0, 0, 0, 0⟩)
abbrev s_is_number : Stmt := (top 3)
abbrev N_is_number : List Str := ["value", "least", "most"]
abbrev P_is_number : List Str := ["value", "least", "most"]
theorem sc_is_number : FnScope N_is_number P_is_number (defScope s_is_number) := ⟨rfl, rfl, rfl, by decide +kernel, rfl, by decide +kernel, by decide +kernel⟩
abbrev s_is_name : Stmt := (top 4)
abbrev N_is_name : List Str := ["value", "sign"]
abbrev P_is_name : List Str := ["value"]
theorem sc_is_name : FnScope N_is_name P_is_name (defScope s_is_name) := ⟨rfl, rfl, rfl, by decide +kernel, rfl, by decide +kernel, by decide +kernel⟩
abbrev s_InvalidNumber_init : Stmt := (inClass (top 7) 0)
abbrev N_InvalidNumber_init : List Str := ["self", "value", "__class__"]
abbrev P_InvalidNumber_init : List Str := ["self", "value"]
theorem sc_InvalidNumber_init : NdefX.NScope N_InvalidNumber_init P_InvalidNumber_init ["__class__"] (defScope s_InvalidNumber_init) := NdefX.nscope_by (by decide +kernel)
abbrev s_bag : Stmt := (top 9)
abbrev N_bag : List Str := ["_law_script", "_law_seed", "_law_item"]
abbrev P_bag : List Str := ["_law_script"]
theorem sc_bag : FnScope N_bag P_bag (defScope s_bag) := ⟨rfl, rfl, rfl, by decide +kernel, rfl, by decide +kernel, by decide +kernel⟩
abbrev s_draw : Stmt := (top 10)
abbrev N_draw : List Str := ["_law_bag_here", "_law_limit", "_law_item", "_law_digit"]
abbrev P_draw : List Str := ["_law_bag_here", "_law_limit"]
theorem sc_draw : FnScope N_draw P_draw (defScope s_draw) := ⟨rfl, rfl, rfl, by decide +kernel, rfl, by decide +kernel, by decide +kernel⟩
abbrev s_of : Stmt := (top 11)
abbrev N_of : List Str := ["_law_bag_here", "_law_things"]
abbrev P_of : List Str := ["_law_bag_here", "_law_things"]
theorem sc_of : FnScope N_of P_of (defScope s_of) := ⟨rfl, rfl, rfl, by decide +kernel, rfl, by decide +kernel, by decide +kernel⟩
abbrev s_odd : Stmt := (top 12)
abbrev N_odd : List Str := ["_law_bag_here", "_law_pick", "_law_k"]
abbrev P_odd : List Str := ["_law_bag_here"]
theorem sc_odd : FnScope N_odd P_odd (defScope s_odd) := ⟨rfl, rfl, rfl, by decide +kernel, rfl, by decide +kernel, by decide +kernel⟩
abbrev cs_odd_1 : Scope := { kind := .function, names := [(".0", .local), ("_law_k", .local), ("_law_of", .globalImplicit), ("_law_bag_here", .free)], isGenerator := false, isCoroutine := false, more := [] }
abbrev cs_odd_2 : Scope := { kind := .function, names := [(".0", .local), ("_law_k", .local), ("_law_of", .globalImplicit), ("_law_bag_here", .free)], isGenerator := false, isCoroutine := false, more := [] }
abbrev s_signs : Stmt := (top 13)
abbrev N_signs : List Str := []
abbrev P_signs : List Str := []
theorem sc_signs : FnScope N_signs P_signs (defScope s_signs) := ⟨rfl, rfl, rfl, by decide +kernel, rfl, by decide +kernel, by decide +kernel⟩
abbrev s_word : Stmt := (top 14)
abbrev N_word : List Str := ["_law_bag_here", "_law_letters", "_law_tail", "_law_size", "_law_word_here", "_law_pick", "_law_at", "_law_k"]
abbrev P_word : List Str := ["_law_bag_here"]
theorem sc_word : FnScope N_word P_word (defScope s_word) := ⟨rfl, rfl, rfl, by decide +kernel, rfl, by decide +kernel, by decide +kernel⟩
abbrev cs_word_1 : Scope := { kind := .function, names := [(".0", .local), ("_law_k", .local), ("_law_of", .globalImplicit), ("_law_bag_here", .free), ("_law_tail", .free)], isGenerator := false, isCoroutine := false, more := [] }
abbrev s_value : Stmt := (top 15)
abbrev N_value : List Str := ["_law_bag_here", "_law_pick"]
abbrev P_value : List Str := ["_law_bag_here"]
theorem sc_value : FnScope N_value P_value (defScope s_value) := ⟨rfl, rfl, rfl, by decide +kernel, rfl, by decide +kernel, by decide +kernel⟩
abbrev s_named : Stmt := (top 16)
abbrev N_named : List Str := ["_law_thing", "_law_letters", "_law_digits", "_law_sign", "_law_one", "_law_two"]
abbrev P_named : List Str := ["_law_thing"]
theorem sc_named : FnScope N_named P_named (defScope s_named) := ⟨rfl, rfl, rfl, by decide +kernel, rfl, by decide +kernel, by decide +kernel⟩
abbrev cs_named_1 : Scope := { kind := .function, names := [(".0", .local), ("_law_one", .local), ("_law_two", .local)], isGenerator := false, isCoroutine := false, more := [] }
abbrev cs_named_2 : Scope := { kind := .function, names := [(".0", .local), ("_law_sign", .local), ("ord", .globalImplicit)], isGenerator := false, isCoroutine := false, more := [] }
abbrev cs_named_3 : Scope := { kind := .function, names := [(".0", .local), ("_law_sign", .local), ("ord", .globalImplicit)], isGenerator := false, isCoroutine := false, more := [] }
abbrev s_near : Stmt := (top 17)
abbrev N_near : List Str := ["_law_bag_here", "_law_low", "_law_high", "_law_pick"]
abbrev P_near : List Str := ["_law_bag_here", "_law_low", "_law_high"]
theorem sc_near : FnScope N_near P_near (defScope s_near) := ⟨rfl, rfl, rfl, by decide +kernel, rfl, by decide +kernel, by decide +kernel⟩
abbrev s_numbered : Stmt := (top 18)
abbrev N_numbered : List Str := ["_law_thing", "_law_low", "_law_high"]
abbrev P_numbered : List Str := ["_law_thing", "_law_low", "_law_high"]
theorem sc_numbered : FnScope N_numbered P_numbered (defScope s_numbered) := ⟨rfl, rfl, rfl, by decide +kernel, rfl, by decide +kernel, by decide +kernel⟩
abbrev s_bounds : Stmt := (top 19)
abbrev N_bounds : List Str := ["_law_bag_here", "_law_pick", "_law_wide", "_law_low", "_law_high"]
abbrev P_bounds : List Str := ["_law_bag_here"]
theorem sc_bounds : FnScope N_bounds P_bounds (defScope s_bounds) := ⟨rfl, rfl, rfl, by decide +kernel, rfl, by decide +kernel, by decide +kernel⟩
abbrev s_is : Stmt := (top 20)
abbrev N_is : List Str := ["_law_told", "_law_due"]
abbrev P_is : List Str := ["_law_told", "_law_due"]
theorem sc_is : FnScope N_is P_is (defScope s_is) := ⟨rfl, rfl, rfl, by decide +kernel, rfl, by decide +kernel, by decide +kernel⟩
abbrev s_law : Stmt := (top 21)
abbrev N_law : List Str := ["_law_script", "_law_bag_here", "_law_asked", "_law_k", "_law_low", "_law_high", "_law_thing", "_law_due", "_law_told", "_law_word_here"]
abbrev P_law : List Str := ["_law_script"]
theorem sc_law : FnScope N_law P_law (defScope s_law) := ⟨rfl, rfl, rfl, by decide +kernel, rfl, by decide +kernel, by decide +kernel⟩
theorem g_draw_int : (defScope s_draw).names.lookup ("int" : Str) = some NameKind.globalImplicit := by decide +kernel
theorem v_draw_law_bag_here : visB (defScope s_draw) "_law_bag_here" = true := by decide +kernel
theorem v_draw_law_limit : visB (defScope s_draw) "_law_limit" = true := by decide +kernel
theorem v_draw_law_digit : visB (defScope s_draw) "_law_digit" = true := by decide +kernel
theorem l_draw_law_digit : locB (defScope s_draw) "_law_digit" = true := by decide +kernel
theorem g_draw_len : (defScope s_draw).names.lookup ("len" : Str) = some NameKind.globalImplicit := by decide +kernel
theorem v_draw_law_item : visB (defScope s_draw) "_law_item" = true := by decide +kernel
theorem l_draw_law_item : locB (defScope s_draw) "_law_item" = true := by decide +kernel
theorem v_of_law_things : visB (defScope s_of) "_law_things" = true := by decide +kernel
theorem g_of_law_draw : (defScope s_of).names.lookup ("_law_draw" : Str) = some NameKind.globalImplicit := by decide +kernel
theorem g_of_len : (defScope s_of).names.lookup ("len" : Str) = some NameKind.globalImplicit := by decide +kernel
theorem v_of_law_bag_here : visB (defScope s_of) "_law_bag_here" = true := by decide +kernel
theorem v_bag_law_seed : visB (defScope s_bag) "_law_seed" = true := by decide +kernel
theorem g_bag_list : (defScope s_bag).names.lookup ("list" : Str) = some NameKind.globalImplicit := by decide +kernel
theorem v_bag_law_script : visB (defScope s_bag) "_law_script" = true := by decide +kernel
theorem l_bag_law_item : locB (defScope s_bag) "_law_item" = true := by decide +kernel
theorem l_bag_law_seed : locB (defScope s_bag) "_law_seed" = true := by decide +kernel
theorem g_bag_int : (defScope s_bag).names.lookup ("int" : Str) = some NameKind.globalImplicit := by decide +kernel
theorem v_bag_law_item : visB (defScope s_bag) "_law_item" = true := by decide +kernel
theorem v_InvalidNumber_init_self : visB (defScope s_InvalidNumber_init) "self" = true := by decide +kernel
theorem v_InvalidNumber_init_value : visB (defScope s_InvalidNumber_init) "value" = true := by decide +kernel
theorem g_InvalidNumber_init_super : (defScope s_InvalidNumber_init).names.lookup ("super" : Str) = some NameKind.globalImplicit := by decide +kernel
theorem fr_InvalidNumber_init : (defScope s_InvalidNumber_init).names.lookup ("__class__" : Str) = some NameKind.free := by decide +kernel
theorem l_InvalidNumber_init_self : locB (defScope s_InvalidNumber_init) "self" = true := by decide +kernel
theorem g_is_number_isinstance : (defScope s_is_number).names.lookup ("isinstance" : Str) = some NameKind.globalImplicit := by decide +kernel
theorem g_is_number_int : (defScope s_is_number).names.lookup ("int" : Str) = some NameKind.globalImplicit := by decide +kernel
theorem v_is_number_value : visB (defScope s_is_number) "value" = true := by decide +kernel
theorem g_is_number_bool : (defScope s_is_number).names.lookup ("bool" : Str) = some NameKind.globalImplicit := by decide +kernel
theorem v_is_number_least : visB (defScope s_is_number) "least" = true := by decide +kernel
theorem v_is_number_most : visB (defScope s_is_number) "most" = true := by decide +kernel
theorem g_numbered_isinstance : (defScope s_numbered).names.lookup ("isinstance" : Str) = some NameKind.globalImplicit := by decide +kernel
theorem g_numbered_int : (defScope s_numbered).names.lookup ("int" : Str) = some NameKind.globalImplicit := by decide +kernel
theorem v_numbered_law_thing : visB (defScope s_numbered) "_law_thing" = true := by decide +kernel
theorem g_numbered_bool : (defScope s_numbered).names.lookup ("bool" : Str) = some NameKind.globalImplicit := by decide +kernel
theorem v_numbered_law_low : visB (defScope s_numbered) "_law_low" = true := by decide +kernel
theorem v_numbered_law_high : visB (defScope s_numbered) "_law_high" = true := by decide +kernel
theorem v_is_name_value : visB (defScope s_is_name) "value" = true := by decide +kernel
theorem l_is_name_sign : locB (defScope s_is_name) "sign" = true := by decide +kernel
theorem v_is_name_sign : visB (defScope s_is_name) "sign" = true := by decide +kernel
theorem g_is_name_LETTERS : (defScope s_is_name).names.lookup ("LETTERS" : Str) = some NameKind.globalImplicit := by decide +kernel
theorem g_is_name_DIGITS : (defScope s_is_name).names.lookup ("DIGITS" : Str) = some NameKind.globalImplicit := by decide +kernel
theorem g_is_name_isinstance : (defScope s_is_name).names.lookup ("isinstance" : Str) = some NameKind.globalImplicit := by decide +kernel
theorem g_is_name_str : (defScope s_is_name).names.lookup ("str" : Str) = some NameKind.globalImplicit := by decide +kernel
theorem g_is_name_len : (defScope s_is_name).names.lookup ("len" : Str) = some NameKind.globalImplicit := by decide +kernel
theorem v_named_law_letters : visB (defScope s_named) "_law_letters" = true := by decide +kernel
theorem g_named_all : (defScope s_named).names.lookup ("all" : Str) = some NameKind.globalImplicit := by decide +kernel
theorem ok_cs_named_1 : BlkOk N_named (defScope s_named) cs_named_1 [("_law_one", 4), ("_law_two", 5)] := blkOk_by (by decide +kernel)
theorem g_named_zip : (defScope s_named).names.lookup ("zip" : Str) = some NameKind.globalImplicit := by decide +kernel
theorem v_named_law_digits : visB (defScope s_named) "_law_digits" = true := by decide +kernel
theorem l_named_1_law_two : locB (relS cs_named_1 (defScope s_named)) "_law_two" = true := by decide +kernel
theorem l_named_1_law_one : locB (relS cs_named_1 (defScope s_named)) "_law_one" = true := by decide +kernel
theorem v_named_1_law_one : visB (relS cs_named_1 (defScope s_named)) "_law_one" = true := by decide +kernel
theorem v_named_1_law_two : visB (relS cs_named_1 (defScope s_named)) "_law_two" = true := by decide +kernel
theorem ok_cs_named_2 : BlkOk N_named (defScope s_named) cs_named_2 [("_law_sign", 3)] := blkOk_by (by decide +kernel)
theorem v_named_law_thing : visB (defScope s_named) "_law_thing" = true := by decide +kernel
theorem l_named_2_law_sign : locB (relS cs_named_2 (defScope s_named)) "_law_sign" = true := by decide +kernel
theorem g_named_2_ord : (relS cs_named_2 (defScope s_named)).names.lookup ("ord" : Str) = some NameKind.globalImplicit := by decide +kernel
theorem v_named_2_law_sign : visB (relS cs_named_2 (defScope s_named)) "_law_sign" = true := by decide +kernel
theorem l_named_law_digits : locB (defScope s_named) "_law_digits" = true := by decide +kernel
theorem ok_cs_named_3 : BlkOk N_named (defScope s_named) cs_named_3 [("_law_sign", 3)] := blkOk_by (by decide +kernel)
theorem l_named_3_law_sign : locB (relS cs_named_3 (defScope s_named)) "_law_sign" = true := by decide +kernel
theorem g_named_3_ord : (relS cs_named_3 (defScope s_named)).names.lookup ("ord" : Str) = some NameKind.globalImplicit := by decide +kernel
theorem v_named_3_law_sign : visB (relS cs_named_3 (defScope s_named)) "_law_sign" = true := by decide +kernel
theorem l_named_law_letters : locB (defScope s_named) "_law_letters" = true := by decide +kernel
theorem g_named_isinstance : (defScope s_named).names.lookup ("isinstance" : Str) = some NameKind.globalImplicit := by decide +kernel
theorem g_named_str : (defScope s_named).names.lookup ("str" : Str) = some NameKind.globalImplicit := by decide +kernel
theorem g_named_len : (defScope s_named).names.lookup ("len" : Str) = some NameKind.globalImplicit := by decide +kernel
theorem g_is_isinstance : (defScope s_is).names.lookup ("isinstance" : Str) = some NameKind.globalImplicit := by decide +kernel
theorem g_is_bool : (defScope s_is).names.lookup ("bool" : Str) = some NameKind.globalImplicit := by decide +kernel
theorem v_is_law_told : visB (defScope s_is) "_law_told" = true := by decide +kernel
theorem v_is_law_due : visB (defScope s_is) "_law_due" = true := by decide +kernel
theorem g_odd_law_of : (defScope s_odd).names.lookup ("_law_of" : Str) = some NameKind.globalImplicit := by decide +kernel
theorem v_odd_law_bag_here : visB (defScope s_odd) "_law_bag_here" = true := by decide +kernel
theorem v_odd_law_pick : visB (defScope s_odd) "_law_pick" = true := by decide +kernel
theorem ok_cs_odd_1 : BlkOk N_odd (defScope s_odd) cs_odd_1 [("_law_k", 2)] := blkOk_by (by decide +kernel)
theorem g_odd_range : (defScope s_odd).names.lookup ("range" : Str) = some NameKind.globalImplicit := by decide +kernel
theorem g_odd_law_draw : (defScope s_odd).names.lookup ("_law_draw" : Str) = some NameKind.globalImplicit := by decide +kernel
theorem l_odd_1_law_k : locB (relS cs_odd_1 (defScope s_odd)) "_law_k" = true := by decide +kernel
theorem g_odd_1_law_of : (relS cs_odd_1 (defScope s_odd)).names.lookup ("_law_of" : Str) = some NameKind.globalImplicit := by decide +kernel
theorem v_odd_1_law_bag_here : visB (relS cs_odd_1 (defScope s_odd)) "_law_bag_here" = true := by decide +kernel
theorem g_odd_tuple : (defScope s_odd).names.lookup ("tuple" : Str) = some NameKind.globalImplicit := by decide +kernel
theorem ok_cs_odd_2 : BlkOk N_odd (defScope s_odd) cs_odd_2 [("_law_k", 2)] := blkOk_by (by decide +kernel)
theorem l_odd_2_law_k : locB (relS cs_odd_2 (defScope s_odd)) "_law_k" = true := by decide +kernel
theorem g_odd_2_law_of : (relS cs_odd_2 (defScope s_odd)).names.lookup ("_law_of" : Str) = some NameKind.globalImplicit := by decide +kernel
theorem v_odd_2_law_bag_here : visB (relS cs_odd_2 (defScope s_odd)) "_law_bag_here" = true := by decide +kernel
theorem l_odd_law_pick : locB (defScope s_odd) "_law_pick" = true := by decide +kernel
theorem v_word_law_word_here : visB (defScope s_word) "_law_word_here" = true := by decide +kernel
theorem v_word_law_pick : visB (defScope s_word) "_law_pick" = true := by decide +kernel
theorem v_word_law_at : visB (defScope s_word) "_law_at" = true := by decide +kernel
theorem g_word_law_of : (defScope s_word).names.lookup ("_law_of" : Str) = some NameKind.globalImplicit := by decide +kernel
theorem v_word_law_bag_here : visB (defScope s_word) "_law_bag_here" = true := by decide +kernel
theorem l_word_law_at : locB (defScope s_word) "_law_at" = true := by decide +kernel
theorem g_word_law_draw : (defScope s_word).names.lookup ("_law_draw" : Str) = some NameKind.globalImplicit := by decide +kernel
theorem v_word_law_size : visB (defScope s_word) "_law_size" = true := by decide +kernel
theorem g_word_law_signs : (defScope s_word).names.lookup ("_law_signs" : Str) = some NameKind.globalImplicit := by decide +kernel
theorem l_word_law_pick : locB (defScope s_word) "_law_pick" = true := by decide +kernel
theorem l_word_law_word_here : locB (defScope s_word) "_law_word_here" = true := by decide +kernel
theorem v_word_law_letters : visB (defScope s_word) "_law_letters" = true := by decide +kernel
theorem ok_cs_word_1 : BlkOk N_word (defScope s_word) cs_word_1 [("_law_k", 7)] := blkOk_by (by decide +kernel)
theorem g_word_range : (defScope s_word).names.lookup ("range" : Str) = some NameKind.globalImplicit := by decide +kernel
theorem l_word_1_law_k : locB (relS cs_word_1 (defScope s_word)) "_law_k" = true := by decide +kernel
theorem g_word_1_law_of : (relS cs_word_1 (defScope s_word)).names.lookup ("_law_of" : Str) = some NameKind.globalImplicit := by decide +kernel
theorem v_word_1_law_tail : visB (relS cs_word_1 (defScope s_word)) "_law_tail" = true := by decide +kernel
theorem v_word_1_law_bag_here : visB (relS cs_word_1 (defScope s_word)) "_law_bag_here" = true := by decide +kernel
theorem l_word_law_size : locB (defScope s_word) "_law_size" = true := by decide +kernel
theorem c_word_law_tail : celB (defScope s_word) "_law_tail" = true := by decide +kernel
theorem l_word_law_letters : locB (defScope s_word) "_law_letters" = true := by decide +kernel
theorem g_value_law_word : (defScope s_value).names.lookup ("_law_word" : Str) = some NameKind.globalImplicit := by decide +kernel
theorem v_value_law_bag_here : visB (defScope s_value) "_law_bag_here" = true := by decide +kernel
theorem v_value_law_pick : visB (defScope s_value) "_law_pick" = true := by decide +kernel
theorem g_value_law_of : (defScope s_value).names.lookup ("_law_of" : Str) = some NameKind.globalImplicit := by decide +kernel
theorem g_value_InvalidNumber : (defScope s_value).names.lookup ("InvalidNumber" : Str) = some NameKind.globalImplicit := by decide +kernel
theorem g_value_law_odd : (defScope s_value).names.lookup ("_law_odd" : Str) = some NameKind.globalImplicit := by decide +kernel
theorem l_value_law_pick : locB (defScope s_value) "_law_pick" = true := by decide +kernel
theorem g_value_law_draw : (defScope s_value).names.lookup ("_law_draw" : Str) = some NameKind.globalImplicit := by decide +kernel
theorem g_near_min : (defScope s_near).names.lookup ("min" : Str) = some NameKind.globalImplicit := by decide +kernel
theorem v_near_law_high : visB (defScope s_near) "_law_high" = true := by decide +kernel
theorem v_near_law_low : visB (defScope s_near) "_law_low" = true := by decide +kernel
theorem g_near_law_draw : (defScope s_near).names.lookup ("_law_draw" : Str) = some NameKind.globalImplicit := by decide +kernel
theorem g_near_abs : (defScope s_near).names.lookup ("abs" : Str) = some NameKind.globalImplicit := by decide +kernel
theorem v_near_law_bag_here : visB (defScope s_near) "_law_bag_here" = true := by decide +kernel
theorem v_near_law_pick : visB (defScope s_near) "_law_pick" = true := by decide +kernel
theorem g_near_law_of : (defScope s_near).names.lookup ("_law_of" : Str) = some NameKind.globalImplicit := by decide +kernel
theorem g_near_InvalidNumber : (defScope s_near).names.lookup ("InvalidNumber" : Str) = some NameKind.globalImplicit := by decide +kernel
theorem g_near_str : (defScope s_near).names.lookup ("str" : Str) = some NameKind.globalImplicit := by decide +kernel
theorem g_near_law_odd : (defScope s_near).names.lookup ("_law_odd" : Str) = some NameKind.globalImplicit := by decide +kernel
theorem l_near_law_pick : locB (defScope s_near) "_law_pick" = true := by decide +kernel
theorem v_bounds_law_pick : visB (defScope s_bounds) "_law_pick" = true := by decide +kernel
theorem v_bounds_law_high : visB (defScope s_bounds) "_law_high" = true := by decide +kernel
theorem v_bounds_law_low : visB (defScope s_bounds) "_law_low" = true := by decide +kernel
theorem g_bounds_max : (defScope s_bounds).names.lookup ("max" : Str) = some NameKind.globalImplicit := by decide +kernel
theorem g_bounds_min : (defScope s_bounds).names.lookup ("min" : Str) = some NameKind.globalImplicit := by decide +kernel
theorem l_bounds_law_low : locB (defScope s_bounds) "_law_low" = true := by decide +kernel
theorem l_bounds_law_high : locB (defScope s_bounds) "_law_high" = true := by decide +kernel
theorem g_bounds_law_draw : (defScope s_bounds).names.lookup ("_law_draw" : Str) = some NameKind.globalImplicit := by decide +kernel
theorem v_bounds_law_wide : visB (defScope s_bounds) "_law_wide" = true := by decide +kernel
theorem v_bounds_law_bag_here : visB (defScope s_bounds) "_law_bag_here" = true := by decide +kernel
theorem l_bounds_law_wide : locB (defScope s_bounds) "_law_wide" = true := by decide +kernel
theorem g_bounds_law_of : (defScope s_bounds).names.lookup ("_law_of" : Str) = some NameKind.globalImplicit := by decide +kernel
theorem l_bounds_law_pick : locB (defScope s_bounds) "_law_pick" = true := by decide +kernel
theorem v_law_law_asked : visB (defScope s_law) "_law_asked" = true := by decide +kernel
theorem l_law_law_due : locB (defScope s_law) "_law_due" = true := by decide +kernel
theorem l_law_law_high : locB (defScope s_law) "_law_high" = true := by decide +kernel
theorem l_law_law_low : locB (defScope s_law) "_law_low" = true := by decide +kernel
theorem l_law_law_thing : locB (defScope s_law) "_law_thing" = true := by decide +kernel
theorem v_law_law_low : visB (defScope s_law) "_law_low" = true := by decide +kernel
theorem g_law_law_is : (defScope s_law).names.lookup ("_law_is" : Str) = some NameKind.globalImplicit := by decide +kernel
theorem v_law_law_due : visB (defScope s_law) "_law_due" = true := by decide +kernel
theorem g_law_is_name : (defScope s_law).names.lookup ("is_name" : Str) = some NameKind.globalImplicit := by decide +kernel
theorem v_law_law_thing : visB (defScope s_law) "_law_thing" = true := by decide +kernel
theorem g_law_is_number : (defScope s_law).names.lookup ("is_number" : Str) = some NameKind.globalImplicit := by decide +kernel
theorem v_law_law_high : visB (defScope s_law) "_law_high" = true := by decide +kernel
theorem g_law_range : (defScope s_law).names.lookup ("range" : Str) = some NameKind.globalImplicit := by decide +kernel
theorem l_law_law_k : locB (defScope s_law) "_law_k" = true := by decide +kernel
theorem v_law_law_word_here : visB (defScope s_law) "_law_word_here" = true := by decide +kernel
theorem g_law_law_draw : (defScope s_law).names.lookup ("_law_draw" : Str) = some NameKind.globalImplicit := by decide +kernel
theorem v_law_law_bag_here : visB (defScope s_law) "_law_bag_here" = true := by decide +kernel
theorem g_law_law_named : (defScope s_law).names.lookup ("_law_named" : Str) = some NameKind.globalImplicit := by decide +kernel
theorem l_law_law_word_here : locB (defScope s_law) "_law_word_here" = true := by decide +kernel
theorem g_law_law_value : (defScope s_law).names.lookup ("_law_value" : Str) = some NameKind.globalImplicit := by decide +kernel
theorem v_law_law_told : visB (defScope s_law) "_law_told" = true := by decide +kernel
theorem l_law_law_told : locB (defScope s_law) "_law_told" = true := by decide +kernel
theorem g_law_law_numbered : (defScope s_law).names.lookup ("_law_numbered" : Str) = some NameKind.globalImplicit := by decide +kernel
theorem g_law_law_near : (defScope s_law).names.lookup ("_law_near" : Str) = some NameKind.globalImplicit := by decide +kernel
theorem g_law_law_bounds : (defScope s_law).names.lookup ("_law_bounds" : Str) = some NameKind.globalImplicit := by decide +kernel
theorem l_law_law_asked : locB (defScope s_law) "_law_asked" = true := by decide +kernel
theorem l_law_law_bag_here : locB (defScope s_law) "_law_bag_here" = true := by decide +kernel
theorem g_law_law_bag : (defScope s_law).names.lookup ("_law_bag" : Str) = some NameKind.globalImplicit := by decide +kernel
theorem v_law_law_script : visB (defScope s_law) "_law_script" = true := by decide +kernel
structure Tx (K : PySem.W.Frag) (mg : Str → Option Value) where
  C_SureletError : Addr
  m_SureletError : mg "SureletError" = some (.ref C_SureletError)
  C_InvalidNumber : Addr
  m_InvalidNumber : mg "InvalidNumber" = some (.ref C_InvalidNumber)
  a_is_number : Addr
  fd_is_number : FuncData
  F_is_number : Fun K "is_number" "is_number" s_is_number a_is_number fd_is_number
  b_is_number : Binds K fd_is_number P_is_number []
  k_is_number : PySem.W.keepIn K (.ref a_is_number) = true
  m_is_number : mg "is_number" = some (.ref a_is_number)
  a_is_name : Addr
  fd_is_name : FuncData
  F_is_name : Fun K "is_name" "is_name" s_is_name a_is_name fd_is_name
  b_is_name : Binds K fd_is_name P_is_name []
  k_is_name : PySem.W.keepIn K (.ref a_is_name) = true
  m_is_name : mg "is_name" = some (.ref a_is_name)
  a_InvalidNumber_init : Addr
  cc_InvalidNumber_init : Addr
  cda_InvalidNumber_init : Addr
  fd_InvalidNumber_init : FuncData
  F_InvalidNumber_init : FunS K "__init__" "InvalidNumber.__init__" s_InvalidNumber_init a_InvalidNumber_init fd_InvalidNumber_init cc_InvalidNumber_init cda_InvalidNumber_init
  b_InvalidNumber_init : Binds K fd_InvalidNumber_init P_InvalidNumber_init []
  ce_InvalidNumber_init : ∃ cl cld csl, K.lookup cc_InvalidNumber_init = some ⟨cl, cld, .cell (some (.ref C_InvalidNumber)), csl⟩
  sd_InvalidNumber_init : SupDef P K mg a_InvalidNumber_init C_InvalidNumber cc_InvalidNumber_init cda_InvalidNumber_init "self"
  k_InvalidNumber_init : PySem.W.keepIn K (.ref a_InvalidNumber_init) = true
  a_bag : Addr
  fd_bag : FuncData
  F_bag : Fun K "_law_bag" "_law_bag" s_bag a_bag fd_bag
  b_bag : Binds K fd_bag P_bag []
  k_bag : PySem.W.keepIn K (.ref a_bag) = true
  m_bag : mg "_law_bag" = some (.ref a_bag)
  a_draw : Addr
  fd_draw : FuncData
  F_draw : Fun K "_law_draw" "_law_draw" s_draw a_draw fd_draw
  b_draw : Binds K fd_draw P_draw []
  k_draw : PySem.W.keepIn K (.ref a_draw) = true
  m_draw : mg "_law_draw" = some (.ref a_draw)
  a_of : Addr
  fd_of : FuncData
  F_of : Fun K "_law_of" "_law_of" s_of a_of fd_of
  b_of : Binds K fd_of P_of []
  k_of : PySem.W.keepIn K (.ref a_of) = true
  m_of : mg "_law_of" = some (.ref a_of)
  a_odd : Addr
  fd_odd : FuncData
  F_odd : Fun K "_law_odd" "_law_odd" s_odd a_odd fd_odd
  b_odd : Binds K fd_odd P_odd []
  k_odd : PySem.W.keepIn K (.ref a_odd) = true
  m_odd : mg "_law_odd" = some (.ref a_odd)
  a_signs : Addr
  fd_signs : FuncData
  F_signs : Fun K "_law_signs" "_law_signs" s_signs a_signs fd_signs
  b_signs : Binds K fd_signs P_signs []
  k_signs : PySem.W.keepIn K (.ref a_signs) = true
  m_signs : mg "_law_signs" = some (.ref a_signs)
  a_word : Addr
  fd_word : FuncData
  F_word : Fun K "_law_word" "_law_word" s_word a_word fd_word
  b_word : Binds K fd_word P_word []
  k_word : PySem.W.keepIn K (.ref a_word) = true
  m_word : mg "_law_word" = some (.ref a_word)
  a_value : Addr
  fd_value : FuncData
  F_value : Fun K "_law_value" "_law_value" s_value a_value fd_value
  b_value : Binds K fd_value P_value []
  k_value : PySem.W.keepIn K (.ref a_value) = true
  m_value : mg "_law_value" = some (.ref a_value)
  a_named : Addr
  fd_named : FuncData
  F_named : Fun K "_law_named" "_law_named" s_named a_named fd_named
  b_named : Binds K fd_named P_named []
  k_named : PySem.W.keepIn K (.ref a_named) = true
  m_named : mg "_law_named" = some (.ref a_named)
  a_near : Addr
  fd_near : FuncData
  F_near : Fun K "_law_near" "_law_near" s_near a_near fd_near
  b_near : Binds K fd_near P_near []
  k_near : PySem.W.keepIn K (.ref a_near) = true
  m_near : mg "_law_near" = some (.ref a_near)
  a_numbered : Addr
  fd_numbered : FuncData
  F_numbered : Fun K "_law_numbered" "_law_numbered" s_numbered a_numbered fd_numbered
  b_numbered : Binds K fd_numbered P_numbered []
  k_numbered : PySem.W.keepIn K (.ref a_numbered) = true
  m_numbered : mg "_law_numbered" = some (.ref a_numbered)
  a_bounds : Addr
  fd_bounds : FuncData
  F_bounds : Fun K "_law_bounds" "_law_bounds" s_bounds a_bounds fd_bounds
  b_bounds : Binds K fd_bounds P_bounds []
  k_bounds : PySem.W.keepIn K (.ref a_bounds) = true
  m_bounds : mg "_law_bounds" = some (.ref a_bounds)
  a_is : Addr
  fd_is : FuncData
  F_is : Fun K "_law_is" "_law_is" s_is a_is fd_is
  b_is : Binds K fd_is P_is []
  k_is : PySem.W.keepIn K (.ref a_is) = true
  m_is : mg "_law_is" = some (.ref a_is)
  a_law : Addr
  fd_law : FuncData
  F_law : Fun K "law" "law" s_law a_law fd_law
  b_law : Binds K fd_law P_law []
  k_law : PySem.W.keepIn K (.ref a_law) = true
  m_law : mg "law" = some (.ref a_law)
  n_int : mg "int" = none
  n_len : mg "len" = none
  n_list : mg "list" = none
  n_isinstance : mg "isinstance" = none
  n_bool : mg "bool" = none
  n_str : mg "str" = none
  n_all : mg "all" = none
  n_zip : mg "zip" = none
  n_ord : mg "ord" = none
  n_range : mg "range" = none
  n_tuple : mg "tuple" = none
  n_min : mg "min" = none
  n_abs : mg "abs" = none
  n_max : mg "max" = none
  n_super : mg "super" = none
  t_LETTERS : Tok
  m_LETTERS : mg "LETTERS" = some (.str "abcdefghijklmnopqrstuvwxyz" t_LETTERS)
  r_LETTERS : RelV (.str "abcdefghijklmnopqrstuvwxyz") (.str "abcdefghijklmnopqrstuvwxyz" t_LETTERS)
  t_DIGITS : Tok
  m_DIGITS : mg "DIGITS" = some (.str "0123456789" t_DIGITS)
  r_DIGITS : RelV (.str "0123456789") (.str "0123456789" t_DIGITS)
  kb_is_name_value : KBinds K fd_is_name P_is_name ["value"] (fun (us ws : List Value) => match us, ws with | [], [w0] => [w0] | _, _ => []) (fun (us ws : List V) => match us, ws with | [], [w0] => [w0] | _, _ => [])
  kb_is_number_value_most_least : KBinds K fd_is_number P_is_number ["value", "most", "least"] (fun (us ws : List Value) => match us, ws with | [], [w0, w1, w2] => [w0, w2, w1] | _, _ => []) (fun (us ws : List V) => match us, ws with | [], [w0, w1, w2] => [w0, w2, w1] | _, _ => [])
  oex_InvalidNumber : OexC K C_InvalidNumber
  se_InvalidNumber : SupAtE K C_InvalidNumber C_InvalidNumber
  xf_InvalidNumber : XfC K C_InvalidNumber
  ii_InvalidNumber : PySem.W.findIn K (.ref C_InvalidNumber) "__init__" = some (some (.ref a_InvalidNumber_init))
  ti_InvalidNumber : PySem.W.typeIn K (.ref a_InvalidNumber_init) = some (.type "function")
  no_InvalidNumber_value : NoAttr K C_InvalidNumber "value"
  no_InvalidNumber_code : NoAttr K C_InvalidNumber "code"
  isx_InvalidNumber : IsX K C_InvalidNumber
  ikt_InvalidNumber_int : PySem.W.kitOne K (.ref C_InvalidNumber) (.type "int") = some false
  ikt_InvalidNumber_bool : PySem.W.kitOne K (.ref C_InvalidNumber) (.type "bool") = some false
  ikt_InvalidNumber_str : PySem.W.kitOne K (.ref C_InvalidNumber) (.type "str") = some false

/-! ### the bag -/
/-- what stands in a law's bag, the list l behind it -/
abbrev bagL (l : Addr) (i r s c : Int) : HO := .lst [.ref l, .int i, .int r, .int s, .int c]
structure Bag (K : PySem.W.Frag) (G0 G : Hp) (b : Addr) (β : HO) : Prop where
  nb : G b = none
  sm : Same G0 G
  ex : ∃ (l : Addr) (ns : List Int) (i r s c : Int), β = bagL l i r s c ∧ SqL K G0 l (ns.map V.int) ∧ 0 ≤ i ∧ 0 ≤ r ∧ 0 ≤ s ∧ s < 2147483647
theorem Bag.up0 {K : PySem.W.Frag} {G0 G G' : Hp} {b : Addr} {β : HO} (h : Bag K G0 G b β) (e : Same G0 G') (n : G' b = none) : Bag K G0 G' b β := ⟨n, e, h.ex⟩
theorem Bag.up {K : PySem.W.Frag} {G0 G G' : Hp} {b : Addr} {β : HO} (h : Bag K G0 G b β) (e : Same G G') (n : G' b = none) : Bag K G0 G' b β := h.up0 (h.sm.trans e) n
def spDraw (K : PySem.W.Frag) : Sp := fun vs H Q _ => ∃ (G0 G : Hp) (b : Addr) (β : HO) (n : Int), vs = [.ref b, .int n] ∧ H = upd G b β ∧ Bag K G0 G b β ∧ 0 < n ∧ n < 2 ^ 30 ∧
  ∀ d β', 0 ≤ d → d < n → Bag K G0 G b β' → Q (.int d) (upd G b β')
theorem mod_bd {x m : Int} (h : 0 < m) : 0 ≤ x % m ∧ x % m < m := ⟨Int.emod_nonneg _ (by omega), Int.emod_lt_of_pos _ h⟩
theorem ix_ints {ns : List Int} {i : Int} (h0 : 0 ≤ i) (h1 : i < ((ns.map V.int).length : Nat)) : ∃ z, atI (ns.map V.int) i = some (.int z) := by
  rw [List.length_map] at h1
  obtain ⟨j, rfl⟩ := Int.eq_ofNat_of_zero_le h0
  have hj : j < ns.length := by omega
  exact ⟨ns[j], atI_nat (by rw [List.getElem?_map, List.getElem?_eq_getElem hj]; rfl)⟩
theorem at_mem {α : Type} {xs : List α} {d : Int} (h0 : 0 ≤ d) (h1 : d < (xs.length : Nat)) : ∃ v, atI xs d = some v ∧ v ∈ xs := by
  obtain ⟨j, rfl⟩ := Int.eq_ofNat_of_zero_le h0
  have hj : j < xs.length := by omega
  exact ⟨xs[j], atI_nat (List.getElem?_eq_getElem hj), List.getElem_mem hj⟩
/-- one of some things by a draw -/
def spOf (K : PySem.W.Frag) : Sp := fun vs H Q _ => ∃ (G0 G : Hp) (b : Addr) (β : HO) (x : V), vs = [.ref b, x] ∧ H = upd G b β ∧ Bag K G0 G b β ∧
  match x with
  | .ref p => ∃ xs, SqL K G p xs ∧ 0 < xs.length ∧ xs.length < 2 ^ 30 ∧ ∀ v β', v ∈ xs → Bag K G0 G b β' → Q v (upd G b β')
  | .str z => 0 < z.length ∧ z.length ≤ 1000000 ∧ ∀ c β', c ∈ z.cps.toList → Bag K G0 G b β' → Q (.str ⟨#[c]⟩) (upd G b β')
  | _ => False
theorem k_draw {K : PySem.W.Frag} {G0 G : Hp} {b : Addr} {β : HO} {n : Int} {Q : VK} {E : XK} (hb : Bag K G0 G b β) (h0 : 0 < n) (h1 : n < 2 ^ 30) (k : ∀ d β', 0 ≤ d → d < n → Bag K G0 G b β' → Q (.int d) (upd G b β')) : spDraw K [.ref b, .int n] (upd G b β) Q E :=
  ⟨G0, G, b, β, n, rfl, rfl, hb, h0, h1, k⟩
theorem k_of {K : PySem.W.Frag} {G0 G : Hp} {b p : Addr} {β : HO} {xs : List V} {Q : VK} {E : XK} (hb : Bag K G0 G b β) (hx : SqL K G p xs) (h0 : 0 < xs.length) (h1 : xs.length < 2 ^ 30) (k : ∀ v β', v ∈ xs → Bag K G0 G b β' → Q v (upd G b β')) : spOf K [.ref b, .ref p] (upd G b β) Q E :=
  ⟨G0, G, b, β, .ref p, rfl, rfl, hb, xs, hx, h0, h1, k⟩
section
variable {w : World} {K : PySem.W.Frag} {mg : Str → Option Value} {base : Heap}
theorem ok_draw (T : Tx K mg) : FnOk P w K mg base CX0 1 T.a_draw T.fd_draw P_draw (spDraw K) := by
  refine T.F_draw.ok sc_draw (fun vs H Q E h => ?_) (fun cdv A outer s H vs Q E hr h => ?_)
  · obtain ⟨G0, G, b, β, n, rfl, _⟩ := h
    rfl
  · obtain ⟨G0, G, b, β, n, rfl, rfl, ⟨nb, sm0, l, ns, i, r, sd, c, rfl, hl, hi, hr0, hs0, hs1⟩, hn0, hn1, k⟩ := h
    have nd := sc_draw.nd
    refine ⟨_, (pss_cons (ps_asg (pe_op kop_add (pe_ix (kix K) (kv (i := 0) v_draw_law_bag_here) pe_int (fun _ _ => rfl)) pe_int) (pg_sub (kv (i := 0) v_draw_law_bag_here) pe_int set_list))
      (kss_meet (ps_if (PW.pt (pw_and (pt_cmpR op_eq (pe_ix (kix K) (kv (i := 0) v_draw_law_bag_here) pe_int (fun _ _ => rfl)) pe_int (nomark _)) (pw_and1 (pt_cmpR op_lt (pe_ix (kix K) (kv (i := 0) v_draw_law_bag_here) pe_int (fun _ _ => rfl)) (kcB b_len (by decide) (by decide) (kc_len K) g_draw_len T.n_len (pa_cons (pe_ix (kix K) (kv (i := 0) v_draw_law_bag_here) pe_int (fun _ _ => rfl)) pa_nil)) (nomark _))))) (pss_cons (ks_setL (i := 2) nd l_draw_law_item (pe_ix (kix K) (pe_ix (kix K) (kv (i := 0) v_draw_law_bag_here) pe_int (fun _ _ => rfl)) (pe_ix (kix K) (kv (i := 0) v_draw_law_bag_here) pe_int (fun _ _ => rfl)) (fun _ _ => rfl)))
      (pss_cons (ps_asg (pe_op kop_add (pe_ix (kix K) (kv (i := 0) v_draw_law_bag_here) pe_int (fun _ _ => rfl)) pe_int) (pg_sub (kv (i := 0) v_draw_law_bag_here) pe_int set_list))
      (pss_one (ps_if (pt_cmpR op_ge (kv (i := 2) v_draw_law_item) (pe_op op_pow pe_int pe_int) (nomark _)) (pss_one (ps_asg (kv (i := 2) v_draw_law_item) (pg_sub (kv (i := 0) v_draw_law_bag_here) pe_int set_list))) (pss_one (ps_asg (pe_op op_mod (kcT b_int (by decide) (by decide) kc_int g_draw_int T.n_int (pa_cons (pe_op kop_add (pe_op kop_add (pe_op op_mul (pe_ix (kix K) (kv (i := 0) v_draw_law_bag_here) pe_int (fun _ _ => rfl)) pe_int) (pe_op op_mul (pe_op op_mod (kcT b_int (by decide) (by decide) kc_int g_draw_int T.n_int (pa_cons (kv (i := 2) v_draw_law_item) pa_nil)) pe_int) pe_int)) pe_int) pa_nil)) pe_int) (pg_sub (kv (i := 0) v_draw_law_bag_here) pe_int set_list))))))) pss_nil)
      (pss_cons (ps_if (pt_cmpR op_gt (pe_ix (kix K) (kv (i := 0) v_draw_law_bag_here) pe_int (fun _ _ => rfl)) pe_int (nomark _)) (pss_cons (ks_setL (i := 3) nd l_draw_law_digit (pe_op op_mod (kcT b_int (by decide) (by decide) kc_int g_draw_int T.n_int (pa_cons (pe_ix (kix K) (kv (i := 0) v_draw_law_bag_here) pe_int (fun _ _ => rfl)) pa_nil)) (kv (i := 1) v_draw_law_limit)))
      (pss_cons (ps_asg (pe_op op_fdiv (pe_ix (kix K) (kv (i := 0) v_draw_law_bag_here) pe_int (fun _ _ => rfl)) (kv (i := 1) v_draw_law_limit)) (pg_sub (kv (i := 0) v_draw_law_bag_here) pe_int set_list))
      (pss_one (ps_ret (kv (i := 3) v_draw_law_digit))))) pss_nil)
      (pss_cons (ps_asg (pe_op op_mod (kcT b_int (by decide) (by decide) kc_int g_draw_int T.n_int (pa_cons (pe_op kop_add (pe_op kop_add (pe_op op_pow (pe_ix (kix K) (kv (i := 0) v_draw_law_bag_here) pe_int (fun _ _ => rfl)) pe_int) (pe_op op_mul (pe_ix (kix K) (kv (i := 0) v_draw_law_bag_here) pe_int (fun _ _ => rfl)) pe_int)) pe_int) pa_nil)) pe_int) (pg_sub (kv (i := 0) v_draw_law_bag_here) pe_int set_list))
      (pss_one (ps_ret (pe_op op_mod (kcT b_int (by decide) (by decide) kc_int g_draw_int T.n_int (pa_cons (pe_op kop_add (pe_op op_fdiv (pe_ix (kix K) (kv (i := 0) v_draw_law_bag_here) pe_int (fun _ _ => rfl)) pe_int) (pe_op op_mul (pe_op op_mod (kcT b_int (by decide) (by decide) kc_int g_draw_int T.n_int (pa_cons (pe_ix (kix K) (kv (i := 0) v_draw_law_bag_here) pe_int (fun _ _ => rfl)) pa_nil)) pe_int) pe_int)) pa_nil)) (kv (i := 1) v_draw_law_limit)))))))), ?_⟩
    walk_at "ss"
    refine k_meet (fun σ H => ∃ i r s v, σ = [some (.ref b), some (.int n), v, none] ∧ H = upd G b (bagL l i r s (c + 1)) ∧ 0 ≤ i ∧ 0 ≤ r ∧ 0 ≤ s ∧ s < 2147483647) ?_ ?_
    · have hl' : SqL K (upd G b (bagL l i r sd (c + 1))) l (ns.map V.int) := (up_same nb).seq (sm0.seq hl)
      walk_at "ss"
      refine k_d (fun h0 => ?_) (fun h0 => ?_)
      · walk_at "ss"
        refine k_d (fun h1 => ?_) (fun h1 => ?_)
        · obtain ⟨z, hz⟩ := ix_ints hi h1
          walk_at "ss"
          refine k_ixL hl' hz ?_
          walk_at "ss"
          refine k_d (fun h2 => ?_) (fun h2 => ?_)
          · walk_at "ss"
            have e18 : (10 : Int) ^ Int.toNat 18 = 1000000000000000000 := by decide
            rw [e18] at h2
            exact ⟨i + 1, z, sd, _, rfl, rfl, by omega, by omega, hs0, hs1⟩
          · walk_at "ss"
            exact ⟨i + 1, r, _, _, rfl, rfl, by omega, by omega, (mod_bd (by decide)).1, Int.lt_trans (mod_bd (by decide)).2 (by decide)⟩
        · walk_at "ss"
          exact ⟨i, r, sd, _, rfl, rfl, hi, hr0, hs0, hs1⟩
      · walk_at "ss"
        exact ⟨i, r, sd, _, rfl, rfl, hi, hr0, hs0, hs1⟩
    · rintro σ H ⟨i, r, sd, v, rfl, rfl, hi, hr0, hs0, hs1⟩
      walk_at "ss"
      refine k_d (fun h0 => ?_) (fun h0 => ?_)
      · walk_at "ss"
        have q := mod_bd (x := r) hn0
        exact k _ _ q.1 q.2 ⟨nb, sm0, l, ns, _, _, _, _, rfl, hl, hi, Int.ediv_nonneg hr0 (by omega), hs0, hs1⟩
      · walk_at "ss"
        exact k _ _ (mod_bd hn0).1 (mod_bd hn0).2 ⟨nb, sm0, l, ns, _, _, _, _, rfl, hl, hi, hr0, (mod_bd (by decide)).1, Int.lt_trans (mod_bd (by decide)).2 (by decide)⟩
theorem ok_of (T : Tx K mg) : FnOk P w K mg base CX0 2 T.a_of T.fd_of P_of (spOf K) := by
  refine T.F_of.ok sc_of (fun vs H Q E h => ?_) (fun cdv A outer s H vs Q E hr h => ?_)
  · obtain ⟨G0, G, b, β, x, rfl, _⟩ := h
    rfl
  · obtain ⟨G0, G, b, β, x, rfl, rfl, hb, h⟩ := h
    have nd := sc_of.nd
    refine ⟨_, (pss_one (ps_ret (pe_ix (kix K) (kv (i := 1) v_of_law_things) (pe_call (ok_draw T) (hr.mono (by first | decide | omega)) g_of_law_draw T.m_draw T.k_draw T.b_draw .nil pass0 (pa_cons (kv (i := 0) v_of_law_bag_here) (pa_cons (kcB b_len (by decide) (by decide) (kc_len K) g_of_len T.n_len (pa_cons (kv (i := 1) v_of_law_things) pa_nil)) pa_nil))) (fun _ _ => rfl)))), ?_⟩
    cases x with
    | ref p =>
      obtain ⟨xs, hx, hl0, hl1, k⟩ := h
      have hx' : ∀ β', SqL K (upd G b β') p xs := fun β' => (up_same hb.nb).seq hx
      have hx1 := hx' β
      walk_at "ss"
      refine k_draw hb (by omega) (by omega) fun d β' h0 h1 hb' => ?_
      obtain ⟨v, hv, hm⟩ := at_mem h0 h1
      refine k_ixL (hx' _) hv ?_
      exact k v β' hm hb'
    | str z =>
      obtain ⟨hl0, hl1, k⟩ := h
      walk_at "ss"
      refine k_lenS (small_size hl1) ?_
      walk_at "ss"
      refine k_draw hb (by omega) (by omega) fun d β' h0 h1 hb' => ?_
      obtain ⟨c, hc, hm⟩ := at_mem (xs := z.cps.toList) h0 (by rw [Array.length_toList]; exact h1)
      refine k_ixS (small_size hl1) hc ?_
      exact k c β' hm hb'
    | _ => exact h.elim
/-- the bag of a script -/
def spBag (K : PySem.W.Frag) : Sp := fun vs H Q _ => ∃ (a : Addr) (ns : List Int), vs = [.ref a] ∧ SqL K H a (ns.map V.int) ∧ ∀ b G β, Same H G → Bag K G G b β → Q (.ref b) (upd G b β)
theorem ok_bag (T : Tx K mg) : FnOk P w K mg base CX0 1 T.a_bag T.fd_bag P_bag (spBag K) := by
  refine T.F_bag.ok sc_bag (fun vs H Q E h => ?_) (fun cdv A outer s H vs Q E hr h => ?_)
  · obtain ⟨a, ns, rfl, _⟩ := h
    rfl
  · obtain ⟨a, ns, rfl, hl, k⟩ := h
    have nd := sc_bag.nd
    refine ⟨_, (pss_cons (ks_setL (i := 1) nd l_bag_law_seed pe_int)
      (pss_cons (ps_for PassesOwn.never rfl (kpi_list K (pe_slice (ksl_list K) (kv (i := 0) v_bag_law_script) po_none (po_some pe_int))) (kgL (i := 2) nd l_bag_law_item) (pss_one (ks_setL (i := 1) nd l_bag_law_seed (pe_op op_mod (kcT b_int (by decide) (by decide) kc_int g_bag_int T.n_int (pa_cons (pe_op kop_add (pe_op kop_add (pe_op op_mul (kv (i := 1) v_bag_law_seed) pe_int) (pe_op op_mod (kcT b_int (by decide) (by decide) kc_int g_bag_int T.n_int (pa_cons (kv (i := 2) v_bag_law_item) pa_nil)) pe_int)) pe_int) pa_nil)) pe_int))))
      (pss_one (ps_ret (pe_lst (pa_cons (kcT b_list (by decide) (by decide) (kc_list K) g_bag_list T.n_list (pa_cons (pe_slice (ksl_list K) (kv (i := 0) v_bag_law_script) po_none (po_some pe_int)) pa_nil)) (pa_cons pe_int (pa_cons pe_int (pa_cons (kv (i := 1) v_bag_law_seed) (pa_cons pe_int pa_nil)))))))))), ?_⟩
    walk_at "ss"
    refine k_slL hl ?_
    intro p np
    obtain ⟨ms, hms⟩ := cut_ints (ns := ns) (lo := none) (hi := some 63)
    rw [hms]
    have e1 := same_new (o := .lst (ms.map V.int)) np
    refine k_iL (SqL.of upd_same) ?_
    refine k_forList (ms.map V.int) (fun i σ H' => ∃ sd v, σ = [some (.ref a), some (.int sd), v] ∧ H' = upd H p (.lst (ms.map V.int)) ∧ 0 ≤ sd ∧ sd < 2147483647) ⟨_, _, rfl, rfl, by decide, by decide⟩ ?_ ?_ ?_
    · rintro i σ H' _ ⟨sd, v, rfl, rfl, _⟩
      exact SqL.of upd_same
    · rintro i x σ H' hx ⟨sd, v, rfl, rfl, h0, h1⟩
      obtain ⟨z, rfl⟩ : ∃ z, x = V.int z := by
        rw [List.getElem?_map] at hx
        cases e : ms[i]? with
        | none => rw [e] at hx; cases hx
        | some u => rw [e] at hx; exact ⟨u, (Option.some.inj hx).symm⟩
      walk_at "ss"
      exact ⟨_, _, rfl, rfl, (mod_bd (by decide)).1, Int.lt_trans (mod_bd (by decide)).2 (by decide)⟩
    · rintro σ H' ⟨sd, v, rfl, rfl, h0, h1⟩
      walk_at "ss"
      refine k_slL (e1.seq hl) ?_
      rw [hms]
      intro q nq
      have e2 := same_new (o := .lst (ms.map V.int)) nq
      walk_at "ss"
      refine k_listL (SqL.of upd_same) ?_
      intro l nl
      have e3 := same_new (o := .lst (ms.map V.int)) nl
      walk_at "ss"
      intro b nb
      exact k b _ _ ((e1.trans e2).trans e3) ⟨nb, Same.refl _, l, ms, 0, 0, sd, 0, rfl, SqL.of upd_same, by decide, by decide, h0, h1⟩
end

section
variable {w : World} {K : PySem.W.Frag} {mg : Str → Option Value} {base : Heap}
def spINI (T : Tx K mg) : Sp := fun vs H Q _ => ∃ (a : Addr) (x : V), vs = [.ref a, x] ∧ H a = some (exo a T.C_InvalidNumber none) ∧ ∀ (H' : Hp) (d : Addr) (fs : List (Str × V)), H d = none → d ≠ a → SameBut a H H' → H' a = some (exo a T.C_InvalidNumber (some d)) → H' d = some (exd d fs) → Q .non H'
theorem ok_InvalidNumber_init (T : Tx K mg) : FnOk P w K mg base CX0 1 T.a_InvalidNumber_init T.fd_InvalidNumber_init P_InvalidNumber_init (spINI T) := by
  obtain ⟨cl, cld, csl, hce⟩ := T.ce_InvalidNumber_init
  refine T.F_InvalidNumber_init.ok sc_InvalidNumber_init hce T.b_InvalidNumber_init (fun vs H Q E h => ?_) (fun A outer s H vs Q E hr h => ?_)
  · obtain ⟨a, x, rfl, _⟩ := h
    rfl
  · obtain ⟨a, x, rfl, ha, k⟩ := h
    have nd := sc_InvalidNumber_init.nd
    refine ⟨_, (psa_cons (pst_supE T.sd_InvalidNumber_init rfl rfl g_InvalidNumber_init_super fr_InvalidNumber_init cc_look rfl (locB_ok l_InvalidNumber_init_self) (pa_cons pe_str pa_nil))
      (psa_cons (pst_of (ps_ost (kv (i := 0) v_InvalidNumber_init_self) (kv (i := 1) v_InvalidNumber_init_value)))
      (psa_one (pst_of (ps_ost (kv (i := 0) v_InvalidNumber_init_self) pe_str))))), ?_⟩
    refine k_supE (a := a) (C := T.C_InvalidNumber) rfl ha T.se_InvalidNumber fun q nq => ?_
    have naq : a ≠ q := ne_of_none ha nq
    walk_at "ss"
    refine ⟨by decide, upd_same, (upd_ne naq).trans ha, ?_⟩
    walk_at "ss"
    refine k_ost ?_
    walk_at "ss"
    refine ⟨a, _, rfl, T.oex_InvalidNumber, T.no_InvalidNumber_value, .inl ⟨(upd_ne naq).trans ha, fun d nd1 nda => ?_⟩⟩
    have ndH : H d = none := (up_none nd1).1
    walk_at "ss"
    dsimp only
    refine k_ost ?_
    walk_at "ss"
    refine ⟨a, _, rfl, T.oex_InvalidNumber, T.no_InvalidNumber_code, .inr ⟨d, _, upd_same, (upd_ne nda).trans upd_same, by simp, ?_⟩⟩
    refine k _ d _ ndH nda ?_ ((upd_ne (Ne.symm nda)).trans upd_same) upd_same
    intro b o nb hb
    have nbd : b ≠ d := ne_of_none hb ndH
    have nbq : b ≠ q := ne_of_none hb nq
    rw [upd_ne nbd, upd_ne nb, upd_ne nbd, upd_ne nbq]
    exact hb
/-! ### the values that are asked about -/
inductive Gv (T : Tx K mg) (H : Hp) : V → Prop where
  | int (i : Int) : Gv T H (.int i)
  | str (z : Str) (h : z.length ≤ 100) : Gv T H (.str z)
  | bl (b : Bool) : Gv T H (.bl b)
  | non : Gv T H .non
  | lst {a : Addr} {xs : List V} (h : H a = some (.lst xs)) : Gv T H (.ref a)
  | tup {a : Addr} {xs : List V} (h : H a = some (.tup xs)) : Gv T H (.ref a)
  | dic {a : Addr} {kvs : List (Key × V)} (h : H a = some (.dK kvs)) : Gv T H (.ref a)
  | exn {a d : Addr} {fs : List (Str × V)} (h : H a = some (exo a T.C_InvalidNumber (some d))) (hd : H d = some (exd d fs)) : Gv T H (.ref a)
theorem Gv.up {T : Tx K mg} {H H' : Hp} {v : V} (h : Gv T H v) (e : Same H H') : Gv T H' v := by
  cases h with
  | int i => exact .int i
  | str z h => exact .str z h
  | bl b => exact .bl b
  | non => exact .non
  | lst h => exact .lst (e _ _ h)
  | tup h => exact .tup (e _ _ h)
  | dic h => exact .dic (e _ _ h)
  | exn h hd => exact .exn (e _ _ h) (e _ _ hd)
/-- a list's own row changed -/
theorem Gv.put {T : Tx K mg} {H : Hp} {v : V} {L : Addr} {xs ys : List V} (h : Gv T H v) (hL : H L = some (.lst xs)) : Gv T (upd H L (.lst ys)) v := by
  cases h with
  | int i => exact .int i
  | str z h => exact .str z h
  | bl b => exact .bl b
  | non => exact .non
  | @lst a zs h =>
    by_cases e : a = L
    · subst e; exact .lst upd_same
    · exact .lst (by rw [upd_ne e]; exact h)
  | tup h => exact .tup (by rw [upd_ne (ne_of h hL (by intro q; cases q))]; exact h)
  | dic h => exact .dic (by rw [upd_ne (ne_of h hL (by intro q; cases q))]; exact h)
  | exn h hd => exact .exn (by rw [upd_ne (ne_of h hL (by intro q; have q2 : HO.ext _ = HO.lst _ := q; cases q2))]; exact h) (by rw [upd_ne (ne_of hd hL (by intro q; have q2 : HO.ext _ = HO.lst _ := q; cases q2))]; exact hd)
def isInt : V → Bool
  | .int _ => true
  | .bl _ => true
  | _ => false
def isBl : V → Bool
  | .bl _ => true
  | _ => false
def isStr : V → Bool
  | .str _ => true
  | _ => false
theorem k_gInt {T : Tx K mg} {H : Hp} {v : V} {Q : VK} (h : Gv T H v) (k : Q (.bl (isInt v)) H) : rIsiG K [v, .ty "int"] H Q := by
  cases h with
  | int i => exact .inl (k_isi (TyX.base (.int _)) kb_int_int k)
  | str z h => exact .inl (k_isi (TyX.base (.str _)) kb_str_int k)
  | bl b => exact .inl (k_isi (TyX.base (.bl _)) kb_bool_int k)
  | non => exact .inl (k_isi (TyX.base .non) kb_NoneType_int k)
  | lst h => exact .inl (k_isi (TyX.base (.lst h)) kb_list_int k)
  | tup h => exact .inl (k_isi (TyX.base (.tup h)) kb_tuple_int k)
  | dic h => exact .inl (k_isi (TyX.base (.dK h)) kb_dict_int k)
  | exn h hd => exact .inr ⟨_, _, _, _, _, _, rfl, h, hd, T.isx_InvalidNumber, T.ikt_InvalidNumber_int, k⟩
theorem k_gBl {T : Tx K mg} {H : Hp} {v : V} {Q : VK} (h : Gv T H v) (k : Q (.bl (isBl v)) H) : rIsiG K [v, .ty "bool"] H Q := by
  cases h with
  | int i => exact .inl (k_isi (TyX.base (.int _)) kb_int_bool k)
  | str z h => exact .inl (k_isi (TyX.base (.str _)) kb_str_bool k)
  | bl b => exact .inl (k_isi (TyX.base (.bl _)) kb_bool_bool k)
  | non => exact .inl (k_isi (TyX.base .non) kb_NoneType_bool k)
  | lst h => exact .inl (k_isi (TyX.base (.lst h)) kb_list_bool k)
  | tup h => exact .inl (k_isi (TyX.base (.tup h)) kb_tuple_bool k)
  | dic h => exact .inl (k_isi (TyX.base (.dK h)) kb_dict_bool k)
  | exn h hd => exact .inr ⟨_, _, _, _, _, _, rfl, h, hd, T.isx_InvalidNumber, T.ikt_InvalidNumber_bool, k⟩
theorem k_gStr {T : Tx K mg} {H : Hp} {v : V} {Q : VK} (h : Gv T H v) (k : Q (.bl (isStr v)) H) : rIsiG K [v, .ty "str"] H Q := by
  cases h with
  | int i => exact .inl (k_isi (TyX.base (.int _)) kb_int_str k)
  | str z h => exact .inl (k_isi (TyX.base (.str _)) kb_str_str k)
  | bl b => exact .inl (k_isi (TyX.base (.bl _)) kb_bool_str k)
  | non => exact .inl (k_isi (TyX.base .non) kb_NoneType_str k)
  | lst h => exact .inl (k_isi (TyX.base (.lst h)) kb_list_str k)
  | tup h => exact .inl (k_isi (TyX.base (.tup h)) kb_tuple_str k)
  | dic h => exact .inl (k_isi (TyX.base (.dK h)) kb_dict_str k)
  | exn h hd => exact .inr ⟨_, _, _, _, _, _, rfl, h, hd, T.isx_InvalidNumber, T.ikt_InvalidNumber_str, k⟩
def numV (v : V) (lo hi : Int) : Bool := match v with
  | .int i => decide (lo ≤ i) && decide (i ≤ hi)
  | _ => false
def spNumG (T : Tx K mg) : Sp := fun vs H Q _ => ∃ (v : V) (lo hi : Int), vs = [v, .int lo, .int hi] ∧ Gv T H v ∧ Q (.bl (numV v lo hi)) H
theorem ok_is_number (T : Tx K mg) : FnOk P w K mg base CX0 1 T.a_is_number T.fd_is_number P_is_number (spNumG T) := by
  refine T.F_is_number.ok sc_is_number (fun vs H Q E h => ?_) (fun cdv A outer s H vs Q E hr h => ?_)
  · obtain ⟨v, lo, hi, rfl, _⟩ := h
    rfl
  · obtain ⟨v, lo, hi, rfl, hv, k⟩ := h
    have nd := sc_is_number.nd
    refine ⟨_, (pss_one (ps_ret (pe_and (kcB b_isinstance (by decide) (by decide) (kc_isiG K) g_is_number_isinstance T.n_isinstance (pa_cons (kv (i := 0) v_is_number_value) (pa_cons (kty_int g_is_number_int T.n_int) pa_nil))) (pe_and (pe_not (kcB b_isinstance (by decide) (by decide) (kc_isiG K) g_is_number_isinstance T.n_isinstance (pa_cons (kv (i := 0) v_is_number_value) (pa_cons (kty_bool g_is_number_bool T.n_bool) pa_nil)))) (pe_one (pe_chain op_le op_le (kv (i := 1) v_is_number_least) (kv (i := 0) v_is_number_value) (kv (i := 2) v_is_number_most))))))), ?_⟩
    walk_at "ss"
    refine k_gInt hv ?_
    refine ⟨_, rfl, ?_⟩
    cases hv with
    | int i =>
      refine k_t ?_
      walk_at "ss"
      refine k_gBl (T := T) (.int i) ?_
      show ∃ c, V.bl false = .bl c ∧ _
      walk_at "ss"
      refine k_d (fun h1 => ?_) (fun h1 => ?_)
      · walk_at "ss"
        have e : numV (.int i) lo hi = decide (i ≤ hi) := by
          show (decide (lo ≤ i) && decide (i ≤ hi)) = _
          rw [decide_eq_true h1, Bool.true_and]
        rw [← e]
        exact k
      · walk_at "ss"
        have e : numV (.int i) lo hi = false := by
          show (decide (lo ≤ i) && decide (i ≤ hi)) = _
          rw [decide_eq_false h1, Bool.false_and]
        rw [e] at k
        exact k
    | bl b =>
      refine k_t ?_
      walk_at "ss"
      refine k_gBl (T := T) (.bl b) ?_
      show ∃ c, V.bl true = .bl c ∧ _
      walk_at "ss"
      exact k
    | _ => exact k_f k
theorem ok_numbered (T : Tx K mg) : FnOk P w K mg base CX0 1 T.a_numbered T.fd_numbered P_numbered (spNumG T) := by
  refine T.F_numbered.ok sc_numbered (fun vs H Q E h => ?_) (fun cdv A outer s H vs Q E hr h => ?_)
  · obtain ⟨v, lo, hi, rfl, _⟩ := h
    rfl
  · obtain ⟨v, lo, hi, rfl, hv, k⟩ := h
    have nd := sc_numbered.nd
    refine ⟨_, (pss_one (ps_ret (pe_and (kcB b_isinstance (by decide) (by decide) (kc_isiG K) g_numbered_isinstance T.n_isinstance (pa_cons (kv (i := 0) v_numbered_law_thing) (pa_cons (kty_int g_numbered_int T.n_int) pa_nil))) (pe_and (pe_not (kcB b_isinstance (by decide) (by decide) (kc_isiG K) g_numbered_isinstance T.n_isinstance (pa_cons (kv (i := 0) v_numbered_law_thing) (pa_cons (kty_bool g_numbered_bool T.n_bool) pa_nil)))) (pe_and (pe_cmpR op_le (kv (i := 1) v_numbered_law_low) (kv (i := 0) v_numbered_law_thing) (nomark _)) (pe_one (pe_cmpR op_le (kv (i := 0) v_numbered_law_thing) (kv (i := 2) v_numbered_law_high) (nomark _)))))))), ?_⟩
    walk_at "ss"
    refine k_gInt hv ?_
    refine ⟨_, rfl, ?_⟩
    cases hv with
    | int i =>
      refine k_t ?_
      walk_at "ss"
      refine k_gBl (T := T) (.int i) ?_
      show ∃ c, V.bl false = .bl c ∧ _
      walk_at "ss"
      refine k_d (fun h1 => ?_) (fun h1 => ?_)
      · walk_at "ss"
        have e : numV (.int i) lo hi = decide (i ≤ hi) := by
          show (decide (lo ≤ i) && decide (i ≤ hi)) = _
          rw [decide_eq_true h1, Bool.true_and]
        rw [← e]
        exact k
      · walk_at "ss"
        have e : numV (.int i) lo hi = false := by
          show (decide (lo ≤ i) && decide (i ≤ hi)) = _
          rw [decide_eq_false h1, Bool.false_and]
        rw [e] at k
        exact k
    | bl b =>
      refine k_t ?_
      walk_at "ss"
      refine k_gBl (T := T) (.bl b) ?_
      show ∃ c, V.bl true = .bl c ∧ _
      walk_at "ss"
      exact k
    | _ => exact k_f k
end

section
variable {w : World} {K : PySem.W.Frag} {mg : Str → Option Value} {base : Heap}
theorem same_put {G G' : Hp} {L : Addr} {o : HO} (h : Same G G') (n : G L = none) : Same G (upd G' L o) := fun a u e => by
  rw [upd_ne (ne_of_none e n)]
  exact h _ _ e
theorem new_facts {G G' : Hp} {b t : Addr} {o β : HO} (hb : G b = none) (n : upd G b β t = none) (e : upd G t o = G') : G' b = none ∧ Same G G' ∧ G' t = some o ∧ t ≠ b ∧ G t = none := by
  obtain ⟨h1, h2⟩ := up_none n
  subst e
  exact ⟨by rw [upd_ne (Ne.symm h2)]; exact hb, same_new h1, upd_same, h2, h1⟩
theorem k_bm {K : PySem.W.Frag} {T : String} {r : V → List V → Hp → VK → Prop} {to : TE} {t : TA} {σ : L2.St} {H : Hp} {Q : VK} (h : to σ H fun x H1 => tyV K T x H1 ∧ t σ H1 fun xs H2 => r x xs H2 Q) : tBM K T r to t σ H Q := h
theorem k_app {l : Addr} {xs : List V} {y : V} {H : Hp} {Q : VK} (h : H l = some (.lst xs)) (hz : xs.length < 1000) (k : Q .non (upd H l (.lst (xs ++ [y])))) : rAppend (.ref l) [y] H Q := ⟨l, xs, y, rfl, rfl, h, small_lt (by omega), k⟩
theorem g_none {G0 G : Hp} {t : Addr} (sm : Same G0 G) (n : G t = none) : G0 t = none := by
  cases hz : G0 t with
  | none => rfl
  | some o => exact absurd (sm _ _ hz) (by rw [n]; intro z; cases z)
def lets : List Nat := List.range' 97 26
def digs : List Nat := List.range' 48 10
theorem lets_eq : (("abcdefghijklmnopqrstuvwxyz" : Str)).cps.toList = lets := by decide +kernel
theorem digs_eq : (("0123456789" : Str)).cps.toList = digs := by decide +kernel
theorem mem_lets (c : Nat) : c ∈ lets ↔ 97 ≤ c ∧ c ≤ 122 := by
  unfold lets
  rw [List.mem_range'_1]
  omega
theorem mem_digs (c : Nat) : c ∈ digs ↔ 48 ≤ c ∧ c ≤ 57 := by
  unfold digs
  rw [List.mem_range'_1]
  omega
def inL (c : Nat) : Bool := decide (c ∈ lets)
def inD (c : Nat) : Bool := decide (c ∈ digs)
def nameD : List Nat → Bool
  | [] => false
  | c :: r => decide (r.length + 1 ≤ 8) && inL c && (c :: r).all fun d => inL d || inD d
def nameV : V → Bool
  | .str z => nameD z.cps.toList
  | _ => false
theorem k_iStr {te : TE} {σ : L2.St} {H : Hp} {R : It → Hp → Prop} (h : te σ H fun v H1 => ∃ x, v = .str x ∧ R (Its x) H1) : iStr te σ H R := h
theorem str_len (z : Str) : z.length = z.cps.toList.length := by rw [Array.length_toList]; rfl
def spNameG (T : Tx K mg) : Sp := fun vs H Q _ => ∃ v : V, vs = [v] ∧ Gv T H v ∧ ∀ H', Same H H' → Q (.bl (nameV v)) H'
theorem ok_is_name (T : Tx K mg) : FnOk P w K mg base CX0 1 T.a_is_name T.fd_is_name P_is_name (spNameG T) := by
  refine T.F_is_name.ok sc_is_name (fun vs H Q E h => ?_) (fun cdv A outer s H vs Q E hr h => ?_)
  · obtain ⟨v, rfl, _⟩ := h
    rfl
  · obtain ⟨v, rfl, hv, k⟩ := h
    have nd := sc_is_name.nd
    refine ⟨_, (pss_cons (ps_if (PW.pt (pw_or (pt_not (pt_val (kcB b_isinstance (by decide) (by decide) (kc_isiG K) g_is_name_isinstance T.n_isinstance (pa_cons (kv (i := 0) v_is_name_value) (pa_cons (kty_str g_is_name_str T.n_str) pa_nil))))) (pw_or (pt_not (pt_chain op_le op_le pe_int (kcB b_len (by decide) (by decide) (kc_len K) g_is_name_len T.n_len (pa_cons (kv (i := 0) v_is_name_value) pa_nil)) pe_int)) (pw_or1 (pt_cmpR op_notIn_sign (pe_ix (kix K) (kv (i := 0) v_is_name_value) pe_int (fun _ _ => rfl)) (pe_glob g_is_name_LETTERS T.m_LETTERS T.r_LETTERS) (by rfl)))))) (pss_one (ps_ret pe_bl)) pss_nil)
      (pss_cons (ps_for PassesOwn.never rfl (pi_str (kv (i := 0) v_is_name_value)) (kgL (i := 1) nd l_is_name_sign) (pss_one (ps_if (PW.pt (pw_and (pt_cmpR op_notIn_sign (kv (i := 1) v_is_name_sign) (pe_glob g_is_name_LETTERS T.m_LETTERS T.r_LETTERS) (by rfl)) (pw_and1 (pt_cmpR op_notIn_sign (kv (i := 1) v_is_name_sign) (pe_glob g_is_name_DIGITS T.m_DIGITS T.r_DIGITS) (by rfl))))) (pss_one (ps_ret pe_bl)) pss_nil)))
      (pss_one (ps_ret pe_bl)))), ?_⟩
    walk_at "ss"
    refine k_gStr hv ?_
    walk_at "ss"
    have other : isStr v = false → nameV v = false := fun h => by cases v <;> first | rfl | cases h
    have hz : (∃ z, v = .str z ∧ z.length ≤ 100) ∨ isStr v = false := by cases hv <;> first | exact .inl ⟨_, rfl, by assumption⟩ | exact .inr rfl
    rcases hz with ⟨z, rfl, hl⟩ | hz
    · show if (!true) = true then _ else _
      walk_at "ss"
      refine k_lenS (small_size (by omega)) ?_
      walk_at "ss"
      have hsl := str_len z
      have en : nameV (.str z) = nameD z.cps.toList := rfl
      cases hc : z.cps.toList with
      | nil =>
        rw [hc] at hsl en
        refine k_df (by rw [hsl]; decide) ?_
        walk_at "ss"
        rw [en] at k
        exact k _ (Same.refl _)
      | cons c r =>
        rw [hc] at hsl en
        simp only [List.length_cons] at hsl
        refine k_dt (by omega) ?_
        walk_at "ss"
        refine k_n (fun h8 => ?_) (fun h8 => ?_)
        · walk_at "ss"
          refine k_ixS (small_size (by omega)) (c := c) (by rw [hc]; exact atI_nat (j := 0) rfl) ?_
          walk_at "ss"
          refine ⟨c, _, rfl, rfl, ?_⟩
          walk_at "ss"
          refine k_n (fun hcl => ?_) (fun hcl => ?_)
          · rw [lets_eq] at hcl
            walk_at "ss"
            refine k_iStr ?_
            walk_at "ss"
            refine ⟨z, rfl, ?_⟩
            refine k_forIt walk_str (fun i σ H' => H = H' ∧ (∃ v, σ = [some (.str z), v]) ∧ ∀ d ∈ z.cps.toList.take i, (inL d || inD d) = true) ⟨rfl, ⟨_, rfl⟩, fun d hd => (by cases hd)⟩ (fun _ _ _ _ _ => True.intro) ?_ ?_
            · rintro i x σ H' H2 hi ⟨rfl, ⟨v, rfl⟩, hall⟩ ⟨rfl, d, hd, rfl⟩
              have hd2 : z.cps.toList[i]? = some d := by rw [← Array.getElem?_toList] at hd; exact hd
              have step : (inL d || inD d) = true → ∀ d ∈ z.cps.toList.take (i + 1), (inL d || inD d) = true := fun h e he => by
                rw [List.take_add_one, hd2] at he
                rcases List.mem_append.mp he with he | he
                · exact hall e he
                · have : e = d := by simpa using he
                  rw [this]; exact h
              walk_at "ss"
              refine ⟨d, _, rfl, rfl, ?_⟩
              walk_at "ss"
              refine k_n (fun h => ?_) (fun h => ?_)
              · rw [lets_eq] at h
                walk_at "ss"
                exact ⟨rfl, ⟨_, rfl⟩, step (by rw [inL, decide_eq_true h, Bool.true_or])⟩
              · rw [lets_eq] at h
                walk_at "ss"
                refine ⟨d, _, rfl, rfl, ?_⟩
                walk_at "ss"
                refine k_n (fun h2 => ?_) (fun h2 => ?_)
                · rw [digs_eq] at h2
                  walk_at "ss"
                  exact ⟨rfl, ⟨_, rfl⟩, step (by rw [inD, decide_eq_true h2, Bool.or_true])⟩
                · rw [digs_eq] at h2
                  walk_at "ss"
                  have e : nameV (.str z) = false := by
                    rw [en]
                    have hm : d ∈ c :: r := by rw [← hc]; exact List.mem_of_getElem? hd2
                    have : ((c :: r).all fun d => inL d || inD d) = false := List.all_eq_false.mpr ⟨d, hm, by rw [inL, inD, decide_eq_false h, decide_eq_false h2]; decide⟩
                    show (_ && ((c :: r).all fun d => inL d || inD d)) = false
                    rw [this, Bool.and_false]
                  rw [e] at k
                  exact k _ (Same.refl _)
            · rintro σ H' ⟨rfl, ⟨v, rfl⟩, hall⟩
              walk_at "ss"
              have e : nameV (.str z) = true := by
                rw [en]
                have h1 : ((c :: r).all fun d => inL d || inD d) = true := List.all_eq_true.mpr fun d hd => by
                  refine hall d ?_
                  rw [← Array.length_toList, List.take_length, hc]
                  exact hd
                show (decide (r.length + 1 ≤ 8) && inL c && ((c :: r).all fun d => inL d || inD d)) = true
                rw [h1, inL, decide_eq_true hcl, decide_eq_true (show r.length + 1 ≤ 8 by omega)]
                rfl
              rw [e] at k
              exact k _ (Same.refl _)
          · rw [lets_eq] at hcl
            walk_at "ss"
            have e : nameV (.str z) = false := by
              rw [en]
              show (decide (r.length + 1 ≤ 8) && inL c && _) = false
              rw [inL, decide_eq_false hcl, Bool.and_false, Bool.false_and]
            rw [e] at k
            exact k _ (Same.refl _)
        · walk_at "ss"
          have e : nameV (.str z) = false := by
            rw [en]
            show (decide (r.length + 1 ≤ 8) && inL c && _) = false
            rw [decide_eq_false (show ¬ r.length + 1 ≤ 8 by omega), Bool.false_and, Bool.false_and]
          rw [e] at k
          exact k _ (Same.refl _)
    · rw [hz]
      walk_at "ss"
      rw [other hz] at k
      exact k _ (Same.refl _)
theorem inL_hi {d : Nat} (h : (97 : Int) ≤ (d : Nat)) : decide (((d : Nat) : Int) ≤ 122) = inL d := by
  unfold inL
  rw [decide_eq_decide, mem_lets]
  omega
theorem inL_lo {d : Nat} (h : ¬ (97 : Int) ≤ (d : Nat)) : false = inL d := by
  unfold inL
  rw [decide_eq_false (fun q => h (by have := (mem_lets d).mp q; omega))]
theorem inD_hi {d : Nat} (h : (48 : Int) ≤ (d : Nat)) : decide (((d : Nat) : Int) ≤ 57) = inD d := by
  unfold inD
  rw [decide_eq_decide, mem_digs]
  omega
theorem inD_lo {d : Nat} (h : ¬ (48 : Int) ≤ (d : Nat)) : false = inD d := by
  unfold inD
  rw [decide_eq_false (fun q => h (by have := (mem_digs d).mp q; omega))]
theorem row_b {f : Nat → Bool} {cs : List Nat} {i d : Nat} {D : Addr} {H H1 : Hp} {b : Bool} (hb : b = f d) (hd : cs[i]? = some d) (hD : H1 D = some (.lst (((cs.take i).map f).map V.bl))) (sm : Same H H1) (nD : H D = none) (hl : cs.length ≤ 100) :
    ∃ acc, H1 D = some (.lst acc) ∧ acc.length < sizeLine ∧ ((upd H1 D (.lst (acc ++ [V.bl b]))) D = some (.lst (((cs.take (i + 1)).map f).map V.bl)) ∧ Same H (upd H1 D (.lst (acc ++ [V.bl b])))) :=
  ⟨_, hD, small_lt (by simp; omega), by rw [upd_same, List.take_add_one, hd, hb]; simp, same_put sm nD⟩
theorem ok_named (T : Tx K mg) : FnOk P w K mg base CX0 1 T.a_named T.fd_named P_named (spNameG T) := by
  refine T.F_named.ok sc_named (fun vs H Q E h => ?_) (fun cdv A outer s H vs Q E hr h => ?_)
  · obtain ⟨v, rfl, _⟩ := h
    rfl
  · obtain ⟨v, rfl, hv, k⟩ := h
    have nd := sc_named.nd
    refine ⟨_, (pss_cons (ps_if (PW.pt (pw_or (pt_not (pt_val (kcB b_isinstance (by decide) (by decide) (kc_isiG K) g_named_isinstance T.n_isinstance (pa_cons (kv (i := 0) v_named_law_thing) (pa_cons (kty_str g_named_str T.n_str) pa_nil))))) (pw_or1 (pt_not (pt_chain op_le op_le pe_int (kcB b_len (by decide) (by decide) (kc_len K) g_named_len T.n_len (pa_cons (kv (i := 0) v_named_law_thing) pa_nil)) pe_int))))) (pss_one (ps_ret pe_bl)) pss_nil)
      (pss_cons (ps_setLc (i := 1) (own := [("_law_sign", 3)]) rfl nd rfl (locB_ok l_named_law_letters) (sw_true rfl (locB_ok l_named_law_letters) rfl (by decide +kernel)) (pi_str (kv (i := 0) v_named_law_thing)) ok_cs_named_3 (fun _ _ _ _ _ => (kgL (i := 3) nd l_named_3_law_sign)) (fun _ _ _ _ _ => pts_nil) (fun _ _ _ _ _ => (pe_chain op_le op_le (kcB b_ord (by decide) (by decide) call_ord g_named_3_ord T.n_ord (pa_cons pe_str pa_nil)) (kcB b_ord (by decide) (by decide) call_ord g_named_3_ord T.n_ord (pa_cons (kv (i := 3) v_named_3_law_sign) pa_nil)) (kcB b_ord (by decide) (by decide) call_ord g_named_3_ord T.n_ord (pa_cons pe_str pa_nil)))))
      (pss_cons (ps_setLc (i := 2) (own := [("_law_sign", 3)]) rfl nd rfl (locB_ok l_named_law_digits) (sw_true rfl (locB_ok l_named_law_digits) rfl (by decide +kernel)) (pi_str (kv (i := 0) v_named_law_thing)) ok_cs_named_2 (fun _ _ _ _ _ => (kgL (i := 3) nd l_named_2_law_sign)) (fun _ _ _ _ _ => pts_nil) (fun _ _ _ _ _ => (pe_chain op_le op_le (kcB b_ord (by decide) (by decide) call_ord g_named_2_ord T.n_ord (pa_cons pe_str pa_nil)) (kcB b_ord (by decide) (by decide) call_ord g_named_2_ord T.n_ord (pa_cons (kv (i := 3) v_named_2_law_sign) pa_nil)) (kcB b_ord (by decide) (by decide) call_ord g_named_2_ord T.n_ord (pa_cons pe_str pa_nil)))))
      (pss_one (ps_ret (pe_and (pe_ix (kix K) (kv (i := 1) v_named_law_letters) pe_int (fun _ _ => rfl)) (pe_one (kcB b_all (by decide) (by decide) (cr_all rfl) g_named_all T.n_all (pa_cons (pe_lc (own := [("_law_one", 4), ("_law_two", 5)]) rfl nd (pi_zip g_named_zip T.n_zip (pa_cons (kv (i := 1) v_named_law_letters) (pa_cons (kv (i := 2) v_named_law_digits) pa_nil))) ok_cs_named_1 (fun _ _ _ _ _ => (kpg_tup K 2 rfl (pgs_cons (kgL (i := 4) nd l_named_1_law_one) (pgs_cons (kgL (i := 5) nd l_named_1_law_two) pgs_nil)))) (fun _ _ _ _ _ => pts_nil) (fun _ _ _ _ _ => (pe_or (kv (i := 4) v_named_1_law_one) (pe_one (kv (i := 5) v_named_1_law_two))))) pa_nil))))))))), ?_⟩
    walk_at "ss"
    refine k_gStr hv ?_
    walk_at "ss"
    have other : isStr v = false → nameV v = false := fun h => by cases v <;> first | rfl | cases h
    have hz : (∃ z, v = .str z ∧ z.length ≤ 100) ∨ isStr v = false := by cases hv <;> first | exact .inl ⟨_, rfl, by assumption⟩ | exact .inr rfl
    rcases hz with ⟨z, rfl, hl⟩ | hz
    · show if (!true) = true then _ else _
      walk_at "ss"
      refine k_lenS (small_size (by omega)) ?_
      walk_at "ss"
      have hsl := str_len z
      have en : nameV (.str z) = nameD z.cps.toList := rfl
      have e97 : (((("a" : Str)).cps.getD 0 0 : Nat) : Int) = 97 := by decide +kernel
      have e122 : (((("z" : Str)).cps.getD 0 0 : Nat) : Int) = 122 := by decide +kernel
      have e48 : (((("0" : Str)).cps.getD 0 0 : Nat) : Int) = 48 := by decide +kernel
      have e57 : (((("9" : Str)).cps.getD 0 0 : Nat) : Int) = 57 := by decide +kernel
      cases hc : z.cps.toList with
      | nil =>
        rw [hc] at hsl en
        refine k_df (by rw [hsl]; decide) ?_
        walk_at "ss"
        rw [en] at k
        exact k _ (Same.refl _)
      | cons c r =>
        rw [hc] at hsl en
        simp only [List.length_cons] at hsl
        refine k_dt (by omega) ?_
        walk_at "ss"
        refine k_n (fun h8 => ?_) (fun h8 => ?_)
        · have hl100 : z.cps.toList.length ≤ 100 := by rw [hc, List.length_cons]; omega
          walk_at "ss"
          refine k_iStr ?_
          walk_at "ss"
          refine ⟨z, rfl, ?_⟩
          intro D nD
          refine k_lcIt walk_str (fun i H' => H' D = some (.lst (((z.cps.toList.take i).map inL).map V.bl)) ∧ Same H H') ⟨upd_same, same_new nD⟩ (fun _ _ _ _ => True.intro) ?_ ?_
          · rintro i x H1 H2 hi ⟨hD, sm⟩ ⟨rfl, d, hd, rfl⟩
            have hd2 : z.cps.toList[i]? = some d := by rw [← Array.getElem?_toList] at hd; exact hd
            walk_at "ss"
            refine ⟨rfl, ?_⟩
            walk_at "ss"
            refine ⟨_, rfl, by decide +kernel, ?_⟩
            walk_at "ss"
            refine ⟨_, rfl, rfl, ?_⟩
            walk_at "ss"
            rw [e97]
            refine k_d (fun h1 => ?_) (fun h1 => ?_)
            · walk_at "ss"
              refine ⟨_, rfl, by decide +kernel, ?_⟩
              walk_at "ss"
              rw [e122]
              exact row_b (f := inL) (inL_hi h1) hd2 hD sm nD hl100
            · exact row_b (f := inL) (inL_lo h1) hd2 hD sm nD hl100
          · rintro H1 ⟨hD, sm1⟩
            rw [← Array.length_toList, List.take_length] at hD
            walk_at "ss"
            refine k_iStr ?_
            walk_at "ss"
            refine ⟨z, rfl, ?_⟩
            intro D2 nD2
            refine k_lcIt walk_str (fun i H' => H' D2 = some (.lst (((z.cps.toList.take i).map inD).map V.bl)) ∧ Same H1 H') ⟨upd_same, same_new nD2⟩ (fun _ _ _ _ => True.intro) ?_ ?_
            · rintro i x H1 H2 hi ⟨hD2, sm⟩ ⟨rfl, d, hd, rfl⟩
              have hd2 : z.cps.toList[i]? = some d := by rw [← Array.getElem?_toList] at hd; exact hd
              walk_at "ss"
              refine ⟨rfl, ?_⟩
              walk_at "ss"
              refine ⟨_, rfl, by decide +kernel, ?_⟩
              walk_at "ss"
              refine ⟨_, rfl, rfl, ?_⟩
              walk_at "ss"
              rw [e48]
              refine k_d (fun h1 => ?_) (fun h1 => ?_)
              · walk_at "ss"
                refine ⟨_, rfl, by decide +kernel, ?_⟩
                walk_at "ss"
                rw [e57]
                exact row_b (f := inD) (inD_hi h1) hd2 hD2 sm nD2 hl100
              · exact row_b (f := inD) (inD_lo h1) hd2 hD2 sm nD2 hl100
            · rintro H2 ⟨hD2, sm2⟩
              rw [← Array.length_toList, List.take_length] at hD2
              have hD' := sm2 _ _ hD
              walk_at "ss"
              refine k_ixL (SqL.of hD') (v := .bl (inL c)) (by rw [hc]; exact atI_nat (j := 0) rfl) ?_
              refine ⟨_, rfl, ?_⟩
              refine k_b (fun hL => ?_) (fun hL => ?_)
              · walk_at "ss"
                refine k_iZip ?_
                walk_at "ss"
                refine ⟨D, D2, _, _, rfl, SqL.of hD', SqL.of hD2, ?_⟩
                intro D3 nD3
                refine k_lcIt (n := z.cps.toList.length) (walk_zip (xs := (z.cps.toList.map inL).map V.bl) (ys := (z.cps.toList.map inD).map V.bl) (by simp)) (fun i H' => H' D3 = some (.lst (((z.cps.toList.take i).map fun d => inL d || inD d).map V.bl)) ∧ Same H2 H') ⟨upd_same, same_new nD3⟩ ?_ ?_ ?_
                · rintro i H' _ ⟨_, sm⟩
                  exact ⟨SqL.of (sm _ _ hD'), SqL.of (sm _ _ hD2)⟩
                · rintro i x H3 H4 hi ⟨hD3, sm⟩ ⟨tp, y1, y2, rfl, nt, rfl, ey1, ey2⟩
                  obtain ⟨d, hd2⟩ : ∃ d, z.cps.toList[i]? = some d := ⟨_, List.getElem?_eq_getElem hi⟩
                  obtain rfl : V.bl (inL d) = y1 := by
                    have : ((z.cps.toList.map inL).map V.bl)[i]? = some (V.bl (inL d)) := by simp [hd2]
                    exact Option.some.inj (this.symm.trans ey1)
                  obtain rfl : V.bl (inD d) = y2 := by
                    have : ((z.cps.toList.map inD).map V.bl)[i]? = some (V.bl (inD d)) := by simp [hd2]
                    exact Option.some.inj (this.symm.trans ey2)
                  have hyt : (upd H3 tp (.tup [V.bl (inL d), V.bl (inD d)])) tp = some (.tup [V.bl (inL d), V.bl (inD d)]) := upd_same
                  have hD4 := same_new (o := .tup [V.bl (inL d), V.bl (inD d)]) nt _ _ hD3
                  have sm4 := sm.trans (same_new (o := .tup [V.bl (inL d), V.bl (inD d)]) nt)
                  walk_at "ss"
                  refine ⟨rfl, ?_⟩
                  walk_at "ss"
                  refine k_b (fun h => ?_) (fun h => ?_)
                  · exact row_b (f := fun d => inL d || inD d) (b := true) (by simp [h]) hd2 hD4 sm4 nD3 hl100
                  · walk_at "ss"
                    exact row_b (f := fun d => inL d || inD d) (b := inD d) (by simp [h]) hd2 hD4 sm4 nD3 hl100
                · rintro H3 ⟨hD3, sm3⟩
                  rw [List.take_length] at hD3
                  walk_at "ss"
                  refine ⟨D3, _, rfl, SqL.of hD3, ?_⟩
                  have e : nameV (.str z) = (z.cps.toList.map fun d => inL d || inD d).all id := by
                    rw [en, hc]
                    show (decide (r.length + 1 ≤ 8) && inL c && ((c :: r).all fun d => inL d || inD d)) = _
                    rw [hL, decide_eq_true (show r.length + 1 ≤ 8 by omega), List.all_map]
                    rfl
                  rw [← e]
                  exact k _ ((sm1.trans sm2).trans sm3)
              · have e : nameV (.str z) = false := by
                  rw [en]
                  show (decide (r.length + 1 ≤ 8) && inL c && _) = false
                  rw [hL, Bool.and_false, Bool.false_and]
                rw [e] at k
                exact k _ (sm1.trans sm2)
        · walk_at "ss"
          have e : nameV (.str z) = false := by
            rw [en]
            show (decide (r.length + 1 ≤ 8) && inL c && _) = false
            rw [decide_eq_false (show ¬ r.length + 1 ≤ 8 by omega), Bool.false_and, Bool.false_and]
          rw [e] at k
          exact k _ (Same.refl _)
    · rw [hz]
      walk_at "ss"
      rw [other hz] at k
      exact k _ (Same.refl _)
def spIs : Sp := fun vs H Q _ => ∃ b : Bool, vs = [.bl b, .bl b] ∧ Q (.bl true) H
theorem ok_is (T : Tx K mg) : FnOk P w K mg base CX0 1 T.a_is T.fd_is P_is spIs := by
  refine T.F_is.ok sc_is (fun vs H Q E h => ?_) (fun cdv A outer s H vs Q E hr h => ?_)
  · obtain ⟨b, rfl, _⟩ := h
    rfl
  · obtain ⟨b, rfl, k⟩ := h
    have nd := sc_is.nd
    refine ⟨_, (pss_one (ps_ret (pe_and (kcB b_isinstance (by decide) (by decide) (kc_isiG K) g_is_isinstance T.n_isinstance (pa_cons (kv (i := 0) v_is_law_told) (pa_cons (kty_bool g_is_bool T.n_bool) pa_nil))) (pe_one (pe_cmpR op_eq (kv (i := 0) v_is_law_told) (kv (i := 1) v_is_law_due) (nomark _)))))), ?_⟩
    walk_at "ss"
    refine k_gBl (T := T) (.bl b) ?_
    refine ⟨_, rfl, ?_⟩
    refine k_t ?_
    walk_at "ss"
    refine k_eq rfl ?_
    rw [decide_eq_true rfl]
    exact k
end

section
variable {w : World} {K : PySem.W.Frag} {mg : Str → Option Value} {base : Heap}
theorem k_dnew {σ : L2.St} {H : Hp} {Q : VK} (h : ∀ p, H p = none → Q (.ref p) (upd H p (.dK []))) : tDNewK σ H Q := h
theorem k_disp1 {tk tv : TE} {σ : L2.St} {H : Hp} {Q : VK} (h : ∀ p, H p = none → tk σ (upd H p (.dK [])) fun x H1 => tv σ H1 fun y H2 => H2 p = some (.dK []) ∧ ∃ kvs : List (Key × V), [(x, y)] = kvs.map (fun kv => (kV kv.1, kv.2)) ∧ kvs.length ≤ 15 ∧ Q (.ref p) (upd H2 p (.dK (mergeK [] kvs)))) : tDisp [(tk, tv)] σ H Q := h
theorem k_ofS {K : PySem.W.Frag} {G0 G : Hp} {b : Addr} {β : HO} {z : Str} {Q : VK} {E : XK} (hb : Bag K G0 G b β) (h0 : 0 < z.length) (h1 : z.length ≤ 1000000) (k : ∀ c β', c ∈ z.cps.toList → Bag K G0 G b β' → Q (.str ⟨#[c]⟩) (upd G b β')) : spOf K [.ref b, .str z] (upd G b β) Q E :=
  ⟨G0, G, b, β, .str z, rfl, rfl, hb, h0, h1, k⟩
theorem k_slS {z : Str} {lo hi : Option Int} {H : Hp} {Q : VK} (h : z.length ≤ sizeLine) (k : Q (.str (cutS z lo hi)) H) : rSlS (.str z) lo hi H Q := ⟨z, rfl, h, k⟩
theorem cutS_len (a : Str) (lo hi : Option Int) : (cutS a lo hi).length ≤ a.length := by
  rw [str_len, str_len]
  unfold cutS
  simp
  omega
theorem len0 : (("" : Str)).length = 0 := by decide +kernel
theorem str_app (a c : Str) : (a ++ c).length = a.length + c.length := Array.size_append
theorem sum_le {B : Nat} : ∀ {ys : List Str}, (∀ y ∈ ys, y.length ≤ B) → (ys.map (·.length)).sum ≤ ys.length * B
  | [], _ => Nat.zero_le _
  | y :: ys, h => by
    have h1 := h y List.mem_cons_self
    have h2 := sum_le (ys := ys) fun z hz => h z (List.mem_cons_of_mem _ hz)
    simp only [List.map_cons, List.sum_cons, List.length_cons, Nat.add_mul]
    omega
theorem Bag.exnD {K : PySem.W.Frag} {G0 G G' : Hp} {b : Addr} {β : HO} (hb : Bag K G0 G b β) {t : Addr} {φ : Heap → Prop} (h : upd G' b β t = some (.ext φ)) : G' t = some (.ext φ) := by
  obtain ⟨l, ns, i, r, s, c, rfl, _⟩ := hb.ex
  by_cases e : t = b
  · subst e
    rw [upd_same] at h
    cases h
  · rw [upd_ne e] at h
    exact h
theorem txtJoin_len (a : Str) (ys : List Str) : (Txt.join a ys).length ≤ (ys.map (·.length)).sum + ys.length * a.length := by
  show (Builtin.Str.glued a ys).length ≤ _
  rw [StrLaws.glued_eq_join]
  exact StrLaws.join_length_le a ys
def spOdd (T : Tx K mg) : Sp := fun vs H Q _ => ∃ (G0 G : Hp) (b : Addr) (β : HO), vs = [.ref b] ∧ H = upd G b β ∧ Bag K G0 G b β ∧ ∀ (v : V) (G' : Hp) (β' : HO), Same G G' → Bag K G0 G' b β' → Gv T G' v → Q v (upd G' b β')
theorem ok_odd (T : Tx K mg) : FnOk P w K mg base CX0 3 T.a_odd T.fd_odd P_odd (spOdd T) := by
  refine T.F_odd.ok sc_odd (fun vs H Q E h => ?_) (fun cdv A outer s H vs Q E hr h => ?_)
  · obtain ⟨G0, G, b, β, rfl, _⟩ := h
    rfl
  · obtain ⟨G0, G, b, β, rfl, rfl, hb, k⟩ := h
    have nd := sc_odd.nd
    refine ⟨_, (pss_cons (ks_setL (i := 1) nd l_odd_law_pick (pe_call (ok_draw T) (hr.mono (by first | decide | omega)) g_odd_law_draw T.m_draw T.k_draw T.b_draw .nil pass0 (pa_cons (kv (i := 0) v_odd_law_bag_here) (pa_cons pe_int pa_nil))))
      (pss_cons (ps_if (pt_cmpR op_eq (kv (i := 1) v_odd_law_pick) pe_int (nomark _)) (pss_one (ps_ret (pe_call (ok_of T) (hr.mono (by first | decide | omega)) g_odd_law_of T.m_of T.k_of T.b_of .nil pass0 (pa_cons (kv (i := 0) v_odd_law_bag_here) (pa_cons (pe_lst (pa_cons pe_non (pa_cons pe_bl (pa_cons pe_bl pa_nil)))) pa_nil))))) pss_nil)
      (pss_cons (ps_if (pt_cmpR op_eq (kv (i := 1) v_odd_law_pick) pe_int (nomark _)) (pss_one (ps_ret (pe_call (ok_of T) (hr.mono (by first | decide | omega)) g_odd_law_of T.m_of T.k_of T.b_of .nil pass0 (pa_cons (kv (i := 0) v_odd_law_bag_here) (pa_cons (pe_lst (pa_cons pe_int (pa_cons pe_int (pa_cons (pe_un un_neg pe_int) (pa_cons pe_int (pa_cons pe_int (pa_cons pe_int (pa_cons pe_int (pa_cons (pe_un un_neg pe_int) pa_nil))))))))) pa_nil))))) pss_nil)
      (pss_cons (ps_if (pt_cmpR op_eq (kv (i := 1) v_odd_law_pick) pe_int (nomark _)) (pss_one (ps_ret (pe_call (ok_of T) (hr.mono (by first | decide | omega)) g_odd_law_of T.m_of T.k_of T.b_of .nil pass0 (pa_cons (kv (i := 0) v_odd_law_bag_here) (pa_cons (pe_lst (pa_cons pe_str (pa_cons pe_str (pa_cons pe_str (pa_cons pe_str (pa_cons pe_str (pa_cons pe_str (pa_cons pe_str (pa_cons pe_str pa_nil))))))))) pa_nil))))) pss_nil)
      (pss_cons (ps_if (pt_cmpR op_eq (kv (i := 1) v_odd_law_pick) pe_int (nomark _)) (pss_one (ps_ret (kcT b_tuple (by decide) (by decide) (kc_tuple K) g_odd_tuple T.n_tuple (pa_cons (pe_lc (own := [("_law_k", 2)]) rfl nd (pi_range1 g_odd_range T.n_range (pa_cons (pe_call (ok_draw T) (hr.mono (by first | decide | omega)) g_odd_law_draw T.m_draw T.k_draw T.b_draw .nil pass0 (pa_cons (kv (i := 0) v_odd_law_bag_here) (pa_cons pe_int pa_nil))) pa_nil)) ok_cs_odd_2 (fun _ _ _ _ _ => (kgL (i := 2) nd l_odd_2_law_k)) (fun _ _ _ _ _ => pts_nil) (fun _ _ _ _ _ => (pe_call (ok_of T) (hr.mono (by first | decide | omega)) g_odd_2_law_of T.m_of T.k_of T.b_of .nil pass0 (pa_cons (kv (i := 0) v_odd_2_law_bag_here) (pa_cons (pe_lst (pa_cons pe_int (pa_cons pe_str (pa_cons pe_non (pa_cons pe_bl (pa_cons pe_int pa_nil)))))) pa_nil))))) pa_nil)))) pss_nil)
      (pss_cons (ps_if (pt_cmpR op_eq (kv (i := 1) v_odd_law_pick) pe_int (nomark _)) (pss_one (ps_ret (pe_lc (own := [("_law_k", 2)]) rfl nd (pi_range1 g_odd_range T.n_range (pa_cons (pe_call (ok_draw T) (hr.mono (by first | decide | omega)) g_odd_law_draw T.m_draw T.k_draw T.b_draw .nil pass0 (pa_cons (kv (i := 0) v_odd_law_bag_here) (pa_cons pe_int pa_nil))) pa_nil)) ok_cs_odd_1 (fun _ _ _ _ _ => (kgL (i := 2) nd l_odd_1_law_k)) (fun _ _ _ _ _ => pts_nil) (fun _ _ _ _ _ => (pe_call (ok_of T) (hr.mono (by first | decide | omega)) g_odd_1_law_of T.m_of T.k_of T.b_of .nil pass0 (pa_cons (kv (i := 0) v_odd_1_law_bag_here) (pa_cons (pe_lst (pa_cons pe_int (pa_cons pe_str (pa_cons pe_non (pa_cons pe_bl (pa_cons (pe_tup (pa_cons pe_int (pa_cons pe_int pa_nil))) pa_nil)))))) pa_nil))))))) pss_nil)
      (pss_one (ps_ret (pe_call (ok_of T) (hr.mono (by first | decide | omega)) g_odd_law_of T.m_of T.k_of T.b_of .nil pass0 (pa_cons (kv (i := 0) v_odd_law_bag_here) (pa_cons (pe_lst (pa_cons pe_dnewK (pa_cons (pe_disp (pps_cons pe_str pe_int pps_nil) (by rfl) (by rfl) (fun z => by cases z) (by decide)) (pa_cons (pe_disp (pps_cons pe_int (pe_lst (pa_cons pe_int pa_nil)) pps_nil) (by rfl) (by rfl) (fun z => by cases z) (by decide)) (pa_cons (pe_disp (pps_cons pe_str (pe_disp (pps_cons pe_str (pe_tup (pa_cons pe_int (pa_cons pe_non pa_nil))) pps_nil) (by rfl) (by rfl) (fun z => by cases z) (by decide)) pps_nil) (by rfl) (by rfl) (fun z => by cases z) (by decide)) pa_nil))))) pa_nil))))))))))), ?_⟩
    walk_at "ss"
    refine k_draw hb (by decide) (by decide) fun pick β1 e0 e1 hb1 => ?_
    walk_at "ss"
    refine k_d (fun _ => ?_) (fun _ => ?_)
    · walk_at "ss"
      intro l nt_l
      rw [upd_swap (up_none nt_l).2]
      generalize eG_l : upd _ l _ = G1
      obtain ⟨nb1, sm1, hl, nt_l, nG_l⟩ := new_facts hb1.nb nt_l eG_l
      clear eG_l
      have hb2 := hb1.up sm1 nb1
      walk_at "ss"
      refine k_of hb2 (SqL.of hl) (by simp) (by simp) fun v β3 hv hb3 => ?_
      refine k v G1 β3 sm1 hb3 ?_
      simp only [List.mem_cons, List.not_mem_nil, or_false] at hv
      rcases hv with rfl | rfl | rfl
      · exact .non
      · exact .bl _
      · exact .bl _
    walk_at "ss"
    refine k_d (fun _ => ?_) (fun _ => ?_)
    · walk_at "ss"
      intro l nt_l
      rw [upd_swap (up_none nt_l).2]
      generalize eG_l : upd _ l _ = G1
      obtain ⟨nb1, sm1, hl, nt_l, nG_l⟩ := new_facts hb1.nb nt_l eG_l
      clear eG_l
      have hb2 := hb1.up sm1 nb1
      walk_at "ss"
      refine k_of hb2 (SqL.of hl) (by simp) (by simp) fun v β3 hv hb3 => ?_
      refine k v G1 β3 sm1 hb3 ?_
      simp only [List.mem_cons, List.not_mem_nil, or_false] at hv
      rcases hv with rfl | rfl | rfl | rfl | rfl | rfl | rfl | rfl <;> exact .int _
    walk_at "ss"
    refine k_d (fun _ => ?_) (fun _ => ?_)
    · walk_at "ss"
      intro l nt_l
      rw [upd_swap (up_none nt_l).2]
      generalize eG_l : upd _ l _ = G1
      obtain ⟨nb1, sm1, hl, nt_l, nG_l⟩ := new_facts hb1.nb nt_l eG_l
      clear eG_l
      have hb2 := hb1.up sm1 nb1
      walk_at "ss"
      refine k_of hb2 (SqL.of hl) (by simp) (by simp) fun v β3 hv hb3 => ?_
      refine k v G1 β3 sm1 hb3 ?_
      simp only [List.mem_cons, List.not_mem_nil, or_false] at hv
      rcases hv with rfl | rfl | rfl | rfl | rfl | rfl | rfl | rfl <;> exact .str _ (by decide +kernel)
    walk_at "ss"
    refine k_d (fun _ => ?_) (fun _ => ?_)
    · walk_at "ss"
      refine k_draw hb1 (by decide) (by decide) fun n β2 n0 n1 hb2 => ?_
      walk_at "ss"
      refine k_r1 ⟨by omega, by omega⟩ ?_
      intro D nD
      obtain ⟨nD1, nDb⟩ := up_none nD
      refine k_lcRange (n := n.toNat) (fun i H' => ∃ (xs : List V) (G' : Hp) (β' : HO), H' = upd G' b β' ∧ Bag K G0 G' b β' ∧ Same G G' ∧ G' D = some (.lst xs) ∧ xs.length = i)
        ⟨[], _, β2, upd_swap nDb, hb2.up (same_new nD1) (by rw [upd_ne (Ne.symm nDb)]; exact hb2.nb), same_new nD1, upd_same, rfl⟩ ?_ ?_
      · rintro i H' hi ⟨xs, G1, β3, rfl, hb3, sm1, hD, hlen⟩
        refine k_gName ?_
        refine ⟨rfl, ?_⟩
        walk_at "ss"
        intro l nt_l
        rw [upd_swap (up_none nt_l).2]
        generalize eG_l : upd _ l _ = G2
        obtain ⟨nb2, sm2, hl, nt_l, nG_l⟩ := new_facts hb3.nb nt_l eG_l
        clear eG_l
        have hb4 := hb3.up sm2 nb2
        walk_at "ss"
        refine k_of hb4 (SqL.of hl) (by simp) (by simp) fun v β5 hv hb5 => ?_
        exact ⟨_, up_get hb5.nb (sm2 _ _ hD), small_lt (by omega), xs ++ [v], upd G2 D (.lst (xs ++ [v])), β5, upd_swap nDb, hb5.up0 (same_put hb5.sm (g_none hb.sm nD1)) (by rw [upd_ne (Ne.symm nDb)]; exact nb2), same_put (sm1.trans sm2) nD1, upd_same, by simp [hlen]⟩
      · rintro H' ⟨xs, G1, β3, rfl, hb3, sm1, hD, hlen⟩
        walk_at "ss"
        refine k_tupleL (SqL.of (up_get hb3.nb hD)) ?_
        intro t nt_t
        rw [upd_swap (up_none nt_t).2]
        generalize eG_t : upd _ t _ = G2
        obtain ⟨nb2, sm2, ht, nt_t, nG_t⟩ := new_facts hb3.nb nt_t eG_t
        clear eG_t
        exact k _ G2 β3 (sm1.trans sm2) (hb3.up sm2 nb2) (.tup ht)
    walk_at "ss"
    refine k_d (fun _ => ?_) (fun _ => ?_)
    · walk_at "ss"
      refine k_draw hb1 (by decide) (by decide) fun n β2 n0 n1 hb2 => ?_
      walk_at "ss"
      refine k_r1 ⟨by omega, by omega⟩ ?_
      intro D nD
      obtain ⟨nD1, nDb⟩ := up_none nD
      refine k_lcRange (n := n.toNat) (fun i H' => ∃ (xs : List V) (G' : Hp) (β' : HO), H' = upd G' b β' ∧ Bag K G0 G' b β' ∧ Same G G' ∧ G' D = some (.lst xs) ∧ xs.length = i)
        ⟨[], _, β2, upd_swap nDb, hb2.up (same_new nD1) (by rw [upd_ne (Ne.symm nDb)]; exact hb2.nb), same_new nD1, upd_same, rfl⟩ ?_ ?_
      · rintro i H' hi ⟨xs, G1, β3, rfl, hb3, sm1, hD, hlen⟩
        refine k_gName ?_
        refine ⟨rfl, ?_⟩
        walk_at "ss"
        intro t nt_t
        rw [upd_swap (up_none nt_t).2]
        generalize eG_t : upd _ t _ = G2
        obtain ⟨nb2, sm2, ht, nt_t, nG_t⟩ := new_facts hb3.nb nt_t eG_t
        clear eG_t
        walk_at "ss"
        intro l nt_l
        rw [upd_swap (up_none nt_l).2]
        generalize eG_l : upd _ l _ = G3
        obtain ⟨nb3, sm3, hl, nt_l, nG_l⟩ := new_facts nb2 nt_l eG_l
        clear eG_l
        have hb4 := hb3.up (sm2.trans sm3) nb3
        walk_at "ss"
        refine k_of hb4 (SqL.of hl) (by simp) (by simp) fun v β5 hv hb5 => ?_
        exact ⟨_, up_get hb5.nb (sm3 _ _ (sm2 _ _ hD)), small_lt (by omega), xs ++ [v], upd G3 D (.lst (xs ++ [v])), β5, upd_swap nDb, hb5.up0 (same_put hb5.sm (g_none hb.sm nD1)) (by rw [upd_ne (Ne.symm nDb)]; exact nb3), same_put ((sm1.trans sm2).trans sm3) nD1, upd_same, by simp [hlen]⟩
      · rintro H' ⟨xs, G1, β3, rfl, hb3, sm1, hD, hlen⟩
        walk_at "ss"
        exact k _ G1 β3 sm1 hb3 (.lst hD)
    walk_at "ss"
    refine k_dnew ?_
    intro q1 nt_q1
    rw [upd_swap (up_none nt_q1).2]
    generalize eG_q1 : upd _ q1 _ = G1
    obtain ⟨nb1, sm1, hq1, nt_q1, nG_q1⟩ := new_facts hb1.nb nt_q1 eG_q1
    clear eG_q1
    walk_at "ss"
    refine k_disp1 ?_
    intro q2 nt_q2
    rw [upd_swap (up_none nt_q2).2]
    generalize eG_q2 : upd _ q2 _ = G2
    obtain ⟨nb2, sm2, hq2, nt_q2, nG_q2⟩ := new_facts nb1 nt_q2 eG_q2
    clear eG_q2
    walk_at "ss"
    refine ⟨(up_get nb2 hq2), [(.inr "a", _)], rfl, Nat.le_of_ble_eq_true rfl, ?_⟩
    rw [upd_swap nt_q2]
    generalize eG : upd G2 q2 _ = G3
    have s13 : Same G1 G3 := eG ▸ same_put sm2 nG_q2
    have hq2 := upd_at eG
    have nb3 : G3 b = none := by rw [← eG, upd_ne (Ne.symm nt_q2)]; exact nb2
    clear eG
    walk_at "ss"
    refine k_disp1 ?_
    intro q3 nt_q3
    rw [upd_swap (up_none nt_q3).2]
    generalize eG_q3 : upd _ q3 _ = G4
    obtain ⟨nb4, sm4, hq3, nt_q3, nG_q3⟩ := new_facts nb3 nt_q3 eG_q3
    clear eG_q3
    walk_at "ss"
    intro l5 nt_l5
    rw [upd_swap (up_none nt_l5).2]
    generalize eG_l5 : upd _ l5 _ = G5
    obtain ⟨nb5, sm5, hl5, nt_l5, nG_l5⟩ := new_facts nb4 nt_l5 eG_l5
    clear eG_l5
    refine ⟨(up_get nb5 (sm5 _ _ hq3)), [(.inl 1, _)], rfl, Nat.le_of_ble_eq_true rfl, ?_⟩
    rw [upd_swap nt_q3]
    generalize eG : upd G5 q3 _ = G6
    have s36 : Same G3 G6 := eG ▸ same_put (sm4.trans sm5) nG_q3
    have hq3 := upd_at eG
    have nb6 : G6 b = none := by rw [← eG, upd_ne (Ne.symm nt_q3)]; exact nb5
    clear eG
    walk_at "ss"
    refine k_disp1 ?_
    intro q4 nt_q4
    rw [upd_swap (up_none nt_q4).2]
    generalize eG_q4 : upd _ q4 _ = G7
    obtain ⟨nb7, sm7, hq4, nt_q4, nG_q4⟩ := new_facts nb6 nt_q4 eG_q4
    clear eG_q4
    walk_at "ss"
    refine k_disp1 ?_
    intro q5 nt_q5
    rw [upd_swap (up_none nt_q5).2]
    generalize eG_q5 : upd _ q5 _ = G8
    obtain ⟨nb8, sm8, hq5, nt_q5, nG_q5⟩ := new_facts nb7 nt_q5 eG_q5
    clear eG_q5
    walk_at "ss"
    intro t9 nt_t9
    rw [upd_swap (up_none nt_t9).2]
    generalize eG_t9 : upd _ t9 _ = G9
    obtain ⟨nb9, sm9, ht9, nt_t9, nG_t9⟩ := new_facts nb8 nt_t9 eG_t9
    clear eG_t9
    refine ⟨(up_get nb9 (sm9 _ _ hq5)), [(.inr "b", _)], rfl, Nat.le_of_ble_eq_true rfl, ?_⟩
    rw [upd_swap nt_q5]
    generalize eG : upd G9 q5 _ = GA
    have s7A : Same G7 GA := eG ▸ same_put (sm8.trans sm9) nG_q5
    have nbA : GA b = none := by rw [← eG, upd_ne (Ne.symm nt_q5)]; exact nb9
    clear eG
    refine ⟨(up_get nbA (s7A _ _ hq4)), [(.inr "a", _)], rfl, Nat.le_of_ble_eq_true rfl, ?_⟩
    rw [upd_swap nt_q4]
    generalize eG : upd GA q4 _ = GB
    have s6B : Same G6 GB := eG ▸ same_put (sm7.trans s7A) nG_q4
    have hq4 := upd_at eG
    have nbB : GB b = none := by rw [← eG, upd_ne (Ne.symm nt_q4)]; exact nbA
    clear eG
    walk_at "ss"
    intro l nt_l
    rw [upd_swap (up_none nt_l).2]
    generalize eG_l : upd _ l _ = GC
    obtain ⟨nbC, smC, hl, nt_l, nG_l⟩ := new_facts nbB nt_l eG_l
    clear eG_l
    have s3C := (s36.trans s6B).trans smC
    have s0C := (sm1.trans s13).trans s3C
    have hbC := hb1.up s0C nbC
    walk_at "ss"
    refine k_of hbC (SqL.of hl) (by simp) (by simp) fun v β3 hv hb3 => ?_
    refine k v GC β3 s0C hb3 ?_
    simp only [List.mem_cons, List.not_mem_nil, or_false] at hv
    rcases hv with rfl | rfl | rfl | rfl
    · exact .dic ((s13.trans s3C) _ _ hq1)
    · exact .dic (s3C _ _ hq2)
    · exact .dic ((s6B.trans smC) _ _ hq3)
    · exact .dic (smC _ _ hq4)
def signs : Str := " !\"#$&'()*+,-./0123456789:;<=>?@ABCDEFGHIJKLMNOPQRSTUVWXYZ[\\]^_`abcdefghijklmnopqrstuvwxyz{|}~"
def spSigns : Sp := fun vs H Q _ => vs = [] ∧ Q (.str signs) H
theorem ok_signs (T : Tx K mg) : FnOk P w K mg base CX0 1 T.a_signs T.fd_signs P_signs spSigns := by
  refine T.F_signs.ok sc_signs (fun vs H Q E h => ?_) (fun cdv A outer s H vs Q E hr h => ?_)
  · obtain ⟨rfl, _⟩ := h
    rfl
  · obtain ⟨rfl, k⟩ := h
    have nd := sc_signs.nd
    refine ⟨_, (pss_one (ps_ret pe_str)), ?_⟩
    walk_at "ss"
    exact k
def spWord (K : PySem.W.Frag) : Sp := fun vs H Q _ => ∃ (G0 G : Hp) (b : Addr) (β : HO), vs = [.ref b] ∧ H = upd G b β ∧ Bag K G0 G b β ∧ ∀ (z : Str) (G' : Hp) (β' : HO), Same G G' → Bag K G0 G' b β' → z.length ≤ 100 → Q (.str z) (upd G' b β')
theorem ok_word (T : Tx K mg) : FnOk P w K mg base CX0 3 T.a_word T.fd_word P_word (spWord K) := by
  refine T.F_word.ok sc_word (fun vs H Q E h => ?_) (fun cdv A outer s H vs Q E hr h => ?_)
  · obtain ⟨G0, G, b, β, rfl, _⟩ := h
    rfl
  · obtain ⟨G0, G, b, β, rfl, rfl, hb, k⟩ := h
    have nd := sc_word.nd
    refine ⟨_, (pss_cons (ps_asg (pe_tup (pa_cons pe_str (pa_cons pe_str pa_nil))) (kpg_tup K 2 rfl (pgs_cons (kgL (i := 1) nd l_word_law_letters) (pgs_cons (kgC (i := 2) nd c_word_law_tail) pgs_nil))))
      (pss_cons (ks_setL (i := 3) nd l_word_law_size (pe_call (ok_of T) (hr.mono (by first | decide | omega)) g_word_law_of T.m_of T.k_of T.b_of .nil pass0 (pa_cons (kv (i := 0) v_word_law_bag_here) (pa_cons (pe_lst (pa_cons pe_int (pa_cons pe_int (pa_cons pe_int (pa_cons pe_int (pa_cons pe_int (pa_cons pe_int (pa_cons pe_int (pa_cons pe_int (pa_cons pe_int (pa_cons pe_int pa_nil))))))))))) pa_nil))))
      (pss_cons (ks_setL (i := 4) nd l_word_law_word_here (pe_op kop_add (pe_call (ok_of T) (hr.mono (by first | decide | omega)) g_word_law_of T.m_of T.k_of T.b_of .nil pass0 (pa_cons (kv (i := 0) v_word_law_bag_here) (pa_cons (kv (i := 1) v_word_law_letters) pa_nil))) (kpe_join K pe_str (pe_lc (own := [("_law_k", 7)]) rfl nd (pi_range1 g_word_range T.n_range (pa_cons (pe_op op_sub (kv (i := 3) v_word_law_size) pe_int) pa_nil)) ok_cs_word_1 (fun _ _ _ _ _ => (kgL (i := 7) nd l_word_1_law_k)) (fun _ _ _ _ _ => pts_nil) (fun _ _ _ _ _ => (pe_call (ok_of T) (hr.mono (by first | decide | omega)) g_word_1_law_of T.m_of T.k_of T.b_of .nil pass0 (pa_cons (kv (i := 0) v_word_1_law_bag_here) (pa_cons (kv (i := 2) v_word_1_law_tail) pa_nil))))))))
      (pss_cons (ks_setL (i := 5) nd l_word_law_pick (pe_call (ok_draw T) (hr.mono (by first | decide | omega)) g_word_law_draw T.m_draw T.k_draw T.b_draw .nil pass0 (pa_cons (kv (i := 0) v_word_law_bag_here) (pa_cons pe_int pa_nil))))
      (pss_cons (ps_if (pt_cmpR op_eq (kv (i := 5) v_word_law_pick) pe_int (nomark _)) (pss_cons (ks_setL (i := 6) nd l_word_law_at (pe_call (ok_draw T) (hr.mono (by first | decide | omega)) g_word_law_draw T.m_draw T.k_draw T.b_draw .nil pass0 (pa_cons (kv (i := 0) v_word_law_bag_here) (pa_cons (kv (i := 3) v_word_law_size) pa_nil))))
      (pss_one (ps_ret (pe_op kop_add (pe_op kop_add (pe_slice sl_str (kv (i := 4) v_word_law_word_here) po_none (po_some (kv (i := 6) v_word_law_at))) (pe_call (ok_of T) (hr.mono (by first | decide | omega)) g_word_law_of T.m_of T.k_of T.b_of .nil pass0 (pa_cons (kv (i := 0) v_word_law_bag_here) (pa_cons (pe_call0 (ok_signs T) (hr.mono (by first | decide | omega)) g_word_law_signs T.m_signs T.k_signs T.b_signs .nil pass0) pa_nil)))) (pe_slice sl_str (kv (i := 4) v_word_law_word_here) (po_some (pe_op kop_add (kv (i := 6) v_word_law_at) pe_int)) po_none))))) pss_nil)
      (pss_cons (ps_if (pt_cmpR op_eq (kv (i := 5) v_word_law_pick) pe_int (nomark _)) (pss_cons (ks_setL (i := 6) nd l_word_law_at (pe_call (ok_draw T) (hr.mono (by first | decide | omega)) g_word_law_draw T.m_draw T.k_draw T.b_draw .nil pass0 (pa_cons (kv (i := 0) v_word_law_bag_here) (pa_cons (pe_op kop_add (kv (i := 3) v_word_law_size) pe_int) pa_nil))))
      (pss_one (ps_ret (pe_op kop_add (pe_op kop_add (pe_slice sl_str (kv (i := 4) v_word_law_word_here) po_none (po_some (kv (i := 6) v_word_law_at))) (pe_call (ok_of T) (hr.mono (by first | decide | omega)) g_word_law_of T.m_of T.k_of T.b_of .nil pass0 (pa_cons (kv (i := 0) v_word_law_bag_here) (pa_cons pe_str pa_nil)))) (pe_slice sl_str (kv (i := 4) v_word_law_word_here) (po_some (kv (i := 6) v_word_law_at)) po_none))))) pss_nil)
      (pss_one (ps_ret (kv (i := 4) v_word_law_word_here))))))))), ?_⟩
    walk_at "ss"
    intro t1 nt_t1
    rw [upd_swap (up_none nt_t1).2]
    generalize eG_t1 : upd _ t1 _ = G1
    obtain ⟨nb1, sm1, ht1, nt_t1, nG_t1⟩ := new_facts hb.nb nt_t1 eG_t1
    clear eG_t1
    have hb1 := hb.up sm1 nb1
    have ht1 := up_get (β := β) nb1 ht1
    walk_at "ss"
    intro l2 nt_l2
    rw [upd_swap (up_none nt_l2).2]
    generalize eG_l2 : upd _ l2 _ = G2
    obtain ⟨nb2, sm2, hl2, nt_l2, nG_l2⟩ := new_facts nb1 nt_l2 eG_l2
    clear eG_l2
    have hb2 := hb1.up sm2 nb2
    walk_at "ss"
    refine k_of hb2 (SqL.of hl2) (by simp) (by simp) fun v β3 hv hb3 => ?_
    obtain ⟨n, rfl, hn0, hn1⟩ : ∃ n : Int, v = V.int n ∧ 1 ≤ n ∧ n ≤ 12 := by
      simp only [List.mem_cons, List.not_mem_nil, or_false] at hv
      rcases hv with rfl | rfl | rfl | rfl | rfl | rfl | rfl | rfl | rfl | rfl <;> exact ⟨_, rfl, by decide, by decide⟩
    walk_at "ss"
    refine k_ofS hb3 (by decide +kernel) (by decide +kernel) fun c β4 hc hb4 => ?_
    walk_at "ss"
    refine k_r1 ⟨by omega, by omega⟩ ?_
    intro D nD
    obtain ⟨nD1, nDb⟩ := up_none nD
    refine k_lcRange (n := (n - 1).toNat) (fun i H' => ∃ (ys : List Str) (β' : HO), H' = upd (upd G2 D (.lst (ys.map V.str))) b β' ∧ Bag K G0 (upd G2 D (.lst (ys.map V.str))) b β' ∧ ys.length = i ∧ ∀ y ∈ ys, y.length ≤ 1)
      ⟨[], β4, upd_swap nDb, hb4.up (same_new nD1) (by rw [upd_ne (Ne.symm nDb)]; exact hb4.nb), rfl, fun y hy => (by cases hy)⟩ ?_ ?_
    · rintro i H' hi ⟨ys, β5, rfl, hb5, hlen, hone⟩
      refine k_gName ?_
      refine ⟨rfl, ?_⟩
      walk_at "ss"
      refine k_ofS hb5 (by decide +kernel) (by decide +kernel) fun c β6 hc hb6 => ?_
      refine ⟨_, up_get hb6.nb upd_same, small_lt (by rw [List.length_map]; omega), ys ++ [⟨#[c]⟩], β6, ?_, ?_, by simp [hlen], ?_⟩
      · rw [upd_swap nDb, upd_upd, List.map_append]
        rfl
      · exact hb6.up0 (same_put hb3.sm (g_none hb2.sm nD1)) (by rw [upd_ne (Ne.symm nDb)]; exact hb3.nb)
      · intro y hy
        rcases List.mem_append.mp hy with hy | hy
        · exact hone y hy
        · rw [List.mem_singleton.mp hy]
          exact Nat.le_refl 1
    · rintro H' ⟨ys, β5, rfl, hb5, hlen, hone⟩
      walk_at "ss"
      have hsum := sum_le hone
      refine k_joinL (SqL.of (up_get hb5.nb upd_same)) (by rw [len0]; omega) fun out hout => ?_
      have hout2 : out.length ≤ 20 := by
        have lj := txtJoin_len "" ys
        rw [← hout, len0] at lj
        omega
      clear hout
      refine k_addS (show (⟨#[c]⟩ : Str).length + out.length ≤ 1000000 by show 1 + out.length ≤ _; omega) ?_
      have hw : ((⟨#[c]⟩ : Str) ++ out).length ≤ 30 := by
        rw [str_app]
        show 1 + out.length ≤ 30
        omega
      generalize (⟨#[c]⟩ : Str) ++ out = wd at hw
      have smD : Same G (upd G2 D (.lst (ys.map V.str))) := same_put (sm1.trans sm2) (g_none (sm1.trans sm2) nD1)
      generalize upd G2 D (.lst (ys.map V.str)) = G3 at hb5 smD
      walk_at "ss"
      refine k_draw hb5 (by decide) (by decide) fun pick β6 d0 d1 hb6 => ?_
      walk_at "ss"
      refine k_d (fun _ => ?_) (fun _ => ?_)
      · walk_at "ss"
        refine k_draw hb6 (by omega) (by omega) fun at_ β7 a0 a1 hb7 => ?_
        walk_at "ss"
        refine k_slS (small_size (by omega)) ?_
        walk_at "ss"
        refine ⟨rfl, ?_⟩
        walk_at "ss"
        refine k_ofS hb7 (by decide +kernel) (by decide +kernel) fun c β8 hc hb8 => ?_
        have l1 := cutS_len wd none (some at_)
        have l2 := cutS_len wd (some (at_ + 1)) none
        refine k_addS (show _ + 1 ≤ 1000000 by omega) ?_
        walk_at "ss"
        refine k_slS (small_size (by omega)) ?_
        have l3 : (cutS wd none (some at_) ++ (⟨#[c]⟩ : Str)).length = (cutS wd none (some at_)).length + 1 := str_app _ _
        refine k_addS (by omega) ?_
        exact k _ G3 β8 smD hb8 (by rw [str_app]; omega)
      walk_at "ss"
      refine k_d (fun _ => ?_) (fun _ => ?_)
      · walk_at "ss"
        refine k_draw hb6 (by omega) (by omega) fun at_ β7 a0 a1 hb7 => ?_
        walk_at "ss"
        refine k_slS (small_size (by omega)) ?_
        walk_at "ss"
        refine k_ofS hb7 (by decide +kernel) (by decide +kernel) fun c β8 hc hb8 => ?_
        have l1 := cutS_len wd none (some at_)
        have l2 := cutS_len wd (some at_) none
        refine k_addS (show _ + 1 ≤ 1000000 by omega) ?_
        walk_at "ss"
        refine k_slS (small_size (by omega)) ?_
        have l3 : (cutS wd none (some at_) ++ (⟨#[c]⟩ : Str)).length = (cutS wd none (some at_)).length + 1 := str_app _ _
        refine k_addS (by omega) ?_
        exact k _ G3 β8 smD hb8 (by rw [str_app]; omega)
      · walk_at "ss"
        exact k _ G3 β6 smD hb6 (by omega)
theorem ok_value (T : Tx K mg) : FnOk P w K mg base CX0 4 T.a_value T.fd_value P_value (spOdd T) := by
  refine T.F_value.ok sc_value (fun vs H Q E h => ?_) (fun cdv A outer s H vs Q E hr h => ?_)
  · obtain ⟨G0, G, b, β, rfl, _⟩ := h
    rfl
  · obtain ⟨G0, G, b, β, rfl, rfl, hb, k⟩ := h
    have nd := sc_value.nd
    refine ⟨_, (pss_cons (ks_setL (i := 1) nd l_value_law_pick (pe_call (ok_draw T) (hr.mono (by first | decide | omega)) g_value_law_draw T.m_draw T.k_draw T.b_draw .nil pass0 (pa_cons (kv (i := 0) v_value_law_bag_here) (pa_cons pe_int pa_nil))))
      (pss_cons (ps_if (pt_cmpR op_eq (kv (i := 1) v_value_law_pick) pe_int (nomark _)) (pss_one (ps_ret (pe_call (ok_odd T) (hr.mono (by first | decide | omega)) g_value_law_odd T.m_odd T.k_odd T.b_odd .nil pass0 (pa_cons (kv (i := 0) v_value_law_bag_here) pa_nil)))) pss_nil)
      (pss_cons (ps_if (pt_cmpR op_eq (kv (i := 1) v_value_law_pick) pe_int (nomark _)) (pss_one (ps_ret (pe_call (ok_of T) (hr.mono (by first | decide | omega)) g_value_law_of T.m_of T.k_of T.b_of .nil pass0 (pa_cons (kv (i := 0) v_value_law_bag_here) (pa_cons (pe_lst (pa_cons (pe_lst (pa_cons pe_str pa_nil)) (pa_cons (pe_tup (pa_cons pe_str pa_nil)) (pa_cons pe_str (pa_cons pe_str (pa_cons pe_str (pa_cons pe_str (pa_cons (pe_disp (pps_cons pe_str pe_str pps_nil) (by rfl) (by rfl) (fun z => by cases z) (by decide)) (pa_cons (pe_oexV T.oex_InvalidNumber T.ii_InvalidNumber T.ti_InvalidNumber (ok_InvalidNumber_init T) (hr.mono (by first | decide | omega)) T.b_InvalidNumber_init .nil pass0 g_value_InvalidNumber T.m_InvalidNumber (pa_cons pe_str pa_nil)) pa_nil))))))))) pa_nil))))) pss_nil)
      (pss_one (ps_ret (pe_call (ok_word T) (hr.mono (by first | decide | omega)) g_value_law_word T.m_word T.k_word T.b_word .nil pass0 (pa_cons (kv (i := 0) v_value_law_bag_here) pa_nil))))))), ?_⟩
    walk_at "ss"
    refine k_draw hb (by decide) (by decide) fun pick β1 e0 e1 hb1 => ?_
    walk_at "ss"
    refine k_d (fun _ => ?_) (fun _ => ?_)
    · walk_at "ss"
      exact ⟨G0, G, b, β1, rfl, rfl, hb1, k⟩
    walk_at "ss"
    refine k_d (fun _ => ?_) (fun _ => ?_)
    · walk_at "ss"
      intro l1 nt_l1
      rw [upd_swap (up_none nt_l1).2]
      generalize eG_l1 : upd _ l1 _ = G1
      obtain ⟨nb1, sm1, hl1, nt_l1, nG_l1⟩ := new_facts hb1.nb nt_l1 eG_l1
      clear eG_l1
      walk_at "ss"
      intro t2 nt_t2
      rw [upd_swap (up_none nt_t2).2]
      generalize eG_t2 : upd _ t2 _ = G2
      obtain ⟨nb2, sm2, ht2, nt_t2, nG_t2⟩ := new_facts nb1 nt_t2 eG_t2
      clear eG_t2
      walk_at "ss"
      refine k_disp1 ?_
      intro q3 nt_q3
      rw [upd_swap (up_none nt_q3).2]
      generalize eG_q3 : upd _ q3 _ = G3
      obtain ⟨nb3, sm3, hq3, nt_q3, nG_q3⟩ := new_facts nb2 nt_q3 eG_q3
      clear eG_q3
      walk_at "ss"
      refine ⟨(up_get nb3 hq3), [(.inr "a", _)], rfl, Nat.le_of_ble_eq_true rfl, ?_⟩
      rw [upd_swap nt_q3]
      generalize eG : upd G3 q3 _ = G4
      have s24 : Same G2 G4 := eG ▸ same_put sm3 nG_q3
      have hq3 := upd_at eG
      have nb4 : G4 b = none := by rw [← eG, upd_ne (Ne.symm nt_q3)]; exact nb3
      clear eG
      have s04 := (sm1.trans sm2).trans s24
      have hb4 := hb1.up s04 nb4
      walk_at "ss"
      refine k_mkV ?_
      walk_at "ss"
      refine ⟨by simp, fun x nx => ?_⟩
      refine ⟨x, _, rfl, upd_same, fun HX d fs nd1 ndx sb hx hd => ⟨rfl, ?_⟩⟩
      have smx : Same (upd G4 b β1) HX := fun z o hz => sb _ _ (ne_of_none hz nx) ((upd_ne (ne_of_none hz nx)).trans hz)
      obtain ⟨G5, nb5, sm5, rfl⟩ := split_up nb4 smx
      have hx := hb4.exnD hx
      have hd := hb4.exnD hd
      walk_at "ss"
      intro l nt_l
      rw [upd_swap (up_none nt_l).2]
      generalize eG_l : upd _ l _ = GC
      obtain ⟨nbC, smC, hl, nt_l, nG_l⟩ := new_facts nb5 nt_l eG_l
      clear eG_l
      have s4C := sm5.trans smC
      have s0C := s04.trans s4C
      have hbC := hb1.up s0C nbC
      walk_at "ss"
      refine k_of hbC (SqL.of hl) (by simp) (by simp) fun v β3 hv hb3 => ?_
      refine k v GC β3 s0C hb3 ?_
      simp only [List.mem_cons, List.not_mem_nil, or_false] at hv
      rcases hv with rfl | rfl | rfl | rfl | rfl | rfl | rfl | rfl
      · exact .lst (((sm2.trans s24).trans s4C) _ _ hl1)
      · exact .tup ((s24.trans s4C) _ _ ht2)
      · exact .str _ (by decide +kernel)
      · exact .str _ (by decide +kernel)
      · exact .str _ (by decide +kernel)
      · exact .str _ (by decide +kernel)
      · exact .dic (s4C _ _ hq3)
      · exact .exn (smC _ _ hx) (smC _ _ hd)
    · walk_at "ss"
      refine ⟨G0, G, b, β1, rfl, rfl, hb1, fun z G' β' sm hb2 hz => ?_⟩
      exact k _ G' β' sm hb2 (.str z hz)
def spNear (T : Tx K mg) : Sp := fun vs H Q _ => ∃ (G0 G : Hp) (b : Addr) (β : HO) (lo hi : Int), vs = [.ref b, .int lo, .int hi] ∧ H = upd G b β ∧ Bag K G0 G b β ∧ -1000000 ≤ lo ∧ lo ≤ 1000000 ∧ -1000000 ≤ hi ∧ hi ≤ 1000000 ∧ ∀ (v : V) (G' : Hp) (β' : HO), Same G G' → Bag K G0 G' b β' → Gv T G' v → Q v (upd G' b β')
theorem ok_near (T : Tx K mg) : FnOk P w K mg base CX0 4 T.a_near T.fd_near P_near (spNear T) := by
  refine T.F_near.ok sc_near (fun vs H Q E h => ?_) (fun cdv A outer s H vs Q E hr h => ?_)
  · obtain ⟨G0, G, b, β, lo, hi, rfl, _⟩ := h
    rfl
  · obtain ⟨G0, G, b, β, lo, hi, rfl, rfl, hb, hl0, hl1, hh0, hh1, k⟩ := h
    have nd := sc_near.nd
    refine ⟨_, (pss_cons (ks_setL (i := 3) nd l_near_law_pick (pe_call (ok_draw T) (hr.mono (by first | decide | omega)) g_near_law_draw T.m_draw T.k_draw T.b_draw .nil pass0 (pa_cons (kv (i := 0) v_near_law_bag_here) (pa_cons pe_int pa_nil))))
      (pss_cons (ps_if (pt_cmpR op_eq (kv (i := 3) v_near_law_pick) pe_int (nomark _)) (pss_one (ps_ret (pe_call (ok_odd T) (hr.mono (by first | decide | omega)) g_near_law_odd T.m_odd T.k_odd T.b_odd .nil pass0 (pa_cons (kv (i := 0) v_near_law_bag_here) pa_nil)))) pss_nil)
      (pss_cons (ps_if (pt_cmpR op_eq (kv (i := 3) v_near_law_pick) pe_int (nomark _)) (pss_one (ps_ret (pe_call (ok_of T) (hr.mono (by first | decide | omega)) g_near_law_of T.m_of T.k_of T.b_of .nil pass0 (pa_cons (kv (i := 0) v_near_law_bag_here) (pa_cons (pe_lst (pa_cons pe_bl (pa_cons pe_bl (pa_cons pe_non (pa_cons (kcT b_str (by decide) (by decide) kc_str g_near_str T.n_str (pa_cons (kv (i := 1) v_near_law_low) pa_nil)) (pa_cons (pe_tup (pa_cons (kv (i := 1) v_near_law_low) pa_nil)) (pa_cons (pe_lst (pa_cons (kv (i := 2) v_near_law_high) pa_nil)) (pa_cons (pe_oexV T.oex_InvalidNumber T.ii_InvalidNumber T.ti_InvalidNumber (ok_InvalidNumber_init T) (hr.mono (by first | decide | omega)) T.b_InvalidNumber_init .nil pass0 g_near_InvalidNumber T.m_InvalidNumber (pa_cons (kv (i := 1) v_near_law_low) pa_nil)) pa_nil)))))))) pa_nil))))) pss_nil)
      (pss_cons (ps_if (pt_cmpR op_lt (kv (i := 3) v_near_law_pick) pe_int (nomark _)) (pss_one (ps_ret (pe_op op_sub (pe_op kop_add (pe_call (ok_of T) (hr.mono (by first | decide | omega)) g_near_law_of T.m_of T.k_of T.b_of .nil pass0 (pa_cons (kv (i := 0) v_near_law_bag_here) (pa_cons (pe_lst (pa_cons (kv (i := 1) v_near_law_low) (pa_cons (kv (i := 2) v_near_law_high) pa_nil))) pa_nil))) (pe_call (ok_draw T) (hr.mono (by first | decide | omega)) g_near_law_draw T.m_draw T.k_draw T.b_draw .nil pass0 (pa_cons (kv (i := 0) v_near_law_bag_here) (pa_cons pe_int pa_nil)))) pe_int))) pss_nil)
      (pss_cons (ps_if (pt_cmpR op_eq (kv (i := 3) v_near_law_pick) pe_int (nomark _)) (pss_one (ps_ret (pe_op op_mul (pe_call (ok_draw T) (hr.mono (by first | decide | omega)) g_near_law_draw T.m_draw T.k_draw T.b_draw .nil pass0 (pa_cons (kv (i := 0) v_near_law_bag_here) (pa_cons pe_int pa_nil))) (pe_call (ok_of T) (hr.mono (by first | decide | omega)) g_near_law_of T.m_of T.k_of T.b_of .nil pass0 (pa_cons (kv (i := 0) v_near_law_bag_here) (pa_cons (pe_lst (pa_cons pe_int (pa_cons (pe_un un_neg pe_int) pa_nil))) pa_nil)))))) pss_nil)
      (pss_one (ps_ret (pe_op kop_add (kcB b_min (by decide) (by decide) (kc_min2 rfl) g_near_min T.n_min (pa_cons (kv (i := 1) v_near_law_low) (pa_cons (kv (i := 2) v_near_law_high) pa_nil))) (pe_call (ok_draw T) (hr.mono (by first | decide | omega)) g_near_law_draw T.m_draw T.k_draw T.b_draw .nil pass0 (pa_cons (kv (i := 0) v_near_law_bag_here) (pa_cons (pe_op kop_add (kcB b_abs (by decide) (by decide) call_abs g_near_abs T.n_abs (pa_cons (pe_op op_sub (kv (i := 2) v_near_law_high) (kv (i := 1) v_near_law_low)) pa_nil)) pe_int) pa_nil))))))))))), ?_⟩
    walk_at "ss"
    refine k_draw hb (by decide) (by decide) fun pick β1 e0 e1 hb1 => ?_
    walk_at "ss"
    refine k_d (fun _ => ?_) (fun _ => ?_)
    · walk_at "ss"
      exact ⟨G0, G, b, β1, rfl, rfl, hb1, k⟩
    walk_at "ss"
    refine k_d (fun _ => ?_) (fun _ => ?_)
    · walk_at "ss"
      have hs : (Str.ofString (toString lo)).length ≤ 100 := Nat.le_trans (len_text (k := 8) (by decide) (by omega)) (by decide)
      refine k_str1 (by omega) ?_
      walk_at "ss"
      intro t1 nt_t1
      rw [upd_swap (up_none nt_t1).2]
      generalize eG_t1 : upd _ t1 _ = G1
      obtain ⟨nb1, sm1, ht1, nt_t1, nG_t1⟩ := new_facts hb1.nb nt_t1 eG_t1
      clear eG_t1
      walk_at "ss"
      intro l2 nt_l2
      rw [upd_swap (up_none nt_l2).2]
      generalize eG_l2 : upd _ l2 _ = G2
      obtain ⟨nb2, sm2, hl2, nt_l2, nG_l2⟩ := new_facts nb1 nt_l2 eG_l2
      clear eG_l2
      have s02 := sm1.trans sm2
      have hb4 := hb1.up s02 nb2
      walk_at "ss"
      refine k_mkV ?_
      walk_at "ss"
      refine ⟨by simp, fun x nx => ?_⟩
      refine ⟨x, _, rfl, upd_same, fun HX d fs nd1 ndx sb hx hd => ⟨rfl, ?_⟩⟩
      have smx : Same (upd G2 b β1) HX := fun z o hz => sb _ _ (ne_of_none hz nx) ((upd_ne (ne_of_none hz nx)).trans hz)
      obtain ⟨G5, nb5, sm5, rfl⟩ := split_up nb2 smx
      have hx := hb4.exnD hx
      have hd := hb4.exnD hd
      walk_at "ss"
      intro l nt_l
      rw [upd_swap (up_none nt_l).2]
      generalize eG_l : upd _ l _ = GC
      obtain ⟨nbC, smC, hl, nt_l, nG_l⟩ := new_facts nb5 nt_l eG_l
      clear eG_l
      have s2C := sm5.trans smC
      have s0C := s02.trans s2C
      have hbC := hb1.up s0C nbC
      walk_at "ss"
      refine k_of hbC (SqL.of hl) (by simp) (by simp) fun v β3 hv hb3 => ?_
      refine k v GC β3 s0C hb3 ?_
      simp only [List.mem_cons, List.not_mem_nil, or_false] at hv
      rcases hv with rfl | rfl | rfl | rfl | rfl | rfl | rfl
      · exact .bl _
      · exact .bl _
      · exact .non
      · exact .str _ hs
      · exact .tup ((sm2.trans s2C) _ _ ht1)
      · exact .lst (s2C _ _ hl2)
      · exact .exn (smC _ _ hx) (smC _ _ hd)
    walk_at "ss"
    refine k_d (fun _ => ?_) (fun _ => ?_)
    · walk_at "ss"
      intro l nt_l
      rw [upd_swap (up_none nt_l).2]
      generalize eG_l : upd _ l _ = G1
      obtain ⟨nb1, sm1, hl, nt_l, nG_l⟩ := new_facts hb1.nb nt_l eG_l
      clear eG_l
      have hb2 := hb1.up sm1 nb1
      walk_at "ss"
      refine k_of hb2 (SqL.of hl) (by simp) (by simp) fun v β3 hv hb3 => ?_
      obtain ⟨n, rfl⟩ : ∃ n : Int, v = V.int n := by
        simp only [List.mem_cons, List.not_mem_nil, or_false] at hv
        rcases hv with rfl | rfl <;> exact ⟨_, rfl⟩
      walk_at "ss"
      refine k_draw hb3 (by decide) (by decide) fun e β4 f0 f1 hb4 => ?_
      walk_at "ss"
      exact k _ G1 β4 sm1 hb4 (.int _)
    walk_at "ss"
    refine k_d (fun _ => ?_) (fun _ => ?_)
    · walk_at "ss"
      refine k_draw hb1 (by decide) (by decide) fun e β4 f0 f1 hb4 => ?_
      walk_at "ss"
      intro l nt_l
      rw [upd_swap (up_none nt_l).2]
      generalize eG_l : upd _ l _ = G1
      obtain ⟨nb1, sm1, hl, nt_l, nG_l⟩ := new_facts hb4.nb nt_l eG_l
      clear eG_l
      have hb2 := hb4.up sm1 nb1
      walk_at "ss"
      refine k_of hb2 (SqL.of hl) (by simp) (by simp) fun v β3 hv hb3 => ?_
      obtain ⟨n, rfl⟩ : ∃ n : Int, v = V.int n := by
        simp only [List.mem_cons, List.not_mem_nil, or_false] at hv
        rcases hv with rfl | rfl <;> exact ⟨_, rfl⟩
      walk_at "ss"
      exact k _ G1 β3 sm1 hb3 (.int _)
    · walk_at "ss"
      refine ⟨_, rfl, ?_⟩
      have ha : 0 ≤ (if hi - lo < 0 then -(hi - lo) else hi - lo) ∧ (if hi - lo < 0 then -(hi - lo) else hi - lo) ≤ 2000000 := by split <;> omega
      generalize (if hi - lo < 0 then -(hi - lo) else hi - lo) = wd at ha
      walk_at "ss"
      refine k_draw hb1 (by omega) (by omega) fun e β4 f0 f1 hb4 => ?_
      walk_at "ss"
      exact k _ G β4 (Same.refl _) hb4 (.int _)
def spBounds (K : PySem.W.Frag) : Sp := fun vs H Q _ => ∃ (G0 G : Hp) (b : Addr) (β : HO), vs = [.ref b] ∧ H = upd G b β ∧ Bag K G0 G b β ∧ ∀ (t : Addr) (lo hi : Int) (G' : Hp) (β' : HO), Same G G' → Bag K G0 G' b β' → G' t = some (.tup [.int lo, .int hi]) → -1000000 ≤ lo → lo ≤ 1000000 → -1000000 ≤ hi → hi ≤ 1000000 → Q (.ref t) (upd G' b β')
theorem ok_bounds (T : Tx K mg) : FnOk P w K mg base CX0 3 T.a_bounds T.fd_bounds P_bounds (spBounds K) := by
  refine T.F_bounds.ok sc_bounds (fun vs H Q E h => ?_) (fun cdv A outer s H vs Q E hr h => ?_)
  · obtain ⟨G0, G, b, β, rfl, _⟩ := h
    rfl
  · obtain ⟨G0, G, b, β, rfl, rfl, hb, k⟩ := h
    have nd := sc_bounds.nd
    refine ⟨_, (pss_cons (ks_setL (i := 1) nd l_bounds_law_pick (pe_call (ok_draw T) (hr.mono (by first | decide | omega)) g_bounds_law_draw T.m_draw T.k_draw T.b_draw .nil pass0 (pa_cons (kv (i := 0) v_bounds_law_bag_here) (pa_cons pe_int pa_nil))))
      (pss_cons (ps_if (pt_cmpR op_eq (kv (i := 1) v_bounds_law_pick) pe_int (nomark _)) (pss_one (ps_ret (pe_call (ok_of T) (hr.mono (by first | decide | omega)) g_bounds_law_of T.m_of T.k_of T.b_of .nil pass0 (pa_cons (kv (i := 0) v_bounds_law_bag_here) (pa_cons (pe_lst (pa_cons (pe_tup (pa_cons pe_int (pa_cons pe_int pa_nil))) (pa_cons (pe_tup (pa_cons pe_int (pa_cons pe_int pa_nil))) (pa_cons (pe_tup (pa_cons pe_int (pa_cons pe_int pa_nil))) (pa_cons (pe_tup (pa_cons pe_int (pa_cons pe_int pa_nil))) (pa_cons (pe_tup (pa_cons (pe_un un_neg pe_int) (pa_cons pe_int pa_nil))) pa_nil)))))) pa_nil))))) pss_nil)
      (pss_cons (ks_setL (i := 2) nd l_bounds_law_wide (pe_call (ok_of T) (hr.mono (by first | decide | omega)) g_bounds_law_of T.m_of T.k_of T.b_of .nil pass0 (pa_cons (kv (i := 0) v_bounds_law_bag_here) (pa_cons (pe_lst (pa_cons pe_int (pa_cons pe_int (pa_cons pe_int (pa_cons pe_int pa_nil))))) pa_nil))))
      (pss_cons (ps_par (i := 3) (j := 4) rfl nd rfl rfl (by decide) (locB_ok l_bounds_law_low) (locB_ok l_bounds_law_high) (pa_cons (pe_op op_sub (pe_call (ok_draw T) (hr.mono (by first | decide | omega)) g_bounds_law_draw T.m_draw T.k_draw T.b_draw .nil pass0 (pa_cons (kv (i := 0) v_bounds_law_bag_here) (pa_cons (kv (i := 2) v_bounds_law_wide) pa_nil))) (pe_op op_fdiv (kv (i := 2) v_bounds_law_wide) pe_int)) (pa_cons (pe_call (ok_draw T) (hr.mono (by first | decide | omega)) g_bounds_law_draw T.m_draw T.k_draw T.b_draw .nil pass0 (pa_cons (kv (i := 0) v_bounds_law_bag_here) (pa_cons (kv (i := 2) v_bounds_law_wide) pa_nil))) pa_nil)) (by rfl))
      (pss_one (ps_ret (pe_ifExp (pt_cmpR op_lt (kv (i := 1) v_bounds_law_pick) pe_int (nomark _)) (pe_tup (pa_cons (kv (i := 3) v_bounds_law_low) (pa_cons (kv (i := 4) v_bounds_law_high) pa_nil))) (pe_tup (pa_cons (kcB b_min (by decide) (by decide) (kc_min2 rfl) g_bounds_min T.n_min (pa_cons (kv (i := 3) v_bounds_law_low) (pa_cons (kv (i := 4) v_bounds_law_high) pa_nil))) (pa_cons (kcB b_max (by decide) (by decide) (kc_max2 rfl) g_bounds_max T.n_max (pa_cons (kv (i := 3) v_bounds_law_low) (pa_cons (kv (i := 4) v_bounds_law_high) pa_nil))) pa_nil)))))))))), ?_⟩
    walk_at "ss"
    refine k_draw hb (by decide) (by decide) fun pick β1 e0 e1 hb1 => ?_
    walk_at "ss"
    refine k_d (fun _ => ?_) (fun _ => ?_)
    · walk_at "ss"
      intro t1 nt_t1
      rw [upd_swap (up_none nt_t1).2]
      generalize eG_t1 : upd _ t1 _ = G1
      obtain ⟨nb1, sm1, ht1, nt_t1, nG_t1⟩ := new_facts hb1.nb nt_t1 eG_t1
      clear eG_t1
      walk_at "ss"
      intro t2 nt_t2
      rw [upd_swap (up_none nt_t2).2]
      generalize eG_t2 : upd _ t2 _ = G2
      obtain ⟨nb2, sm2, ht2, nt_t2, nG_t2⟩ := new_facts nb1 nt_t2 eG_t2
      clear eG_t2
      walk_at "ss"
      intro t3 nt_t3
      rw [upd_swap (up_none nt_t3).2]
      generalize eG_t3 : upd _ t3 _ = G3
      obtain ⟨nb3, sm3, ht3, nt_t3, nG_t3⟩ := new_facts nb2 nt_t3 eG_t3
      clear eG_t3
      walk_at "ss"
      intro t4 nt_t4
      rw [upd_swap (up_none nt_t4).2]
      generalize eG_t4 : upd _ t4 _ = G4
      obtain ⟨nb4, sm4, ht4, nt_t4, nG_t4⟩ := new_facts nb3 nt_t4 eG_t4
      clear eG_t4
      walk_at "ss"
      intro t5 nt_t5
      rw [upd_swap (up_none nt_t5).2]
      generalize eG_t5 : upd _ t5 _ = G5
      obtain ⟨nb5, sm5, ht5, nt_t5, nG_t5⟩ := new_facts nb4 nt_t5 eG_t5
      clear eG_t5
      walk_at "ss"
      intro l nt_l
      rw [upd_swap (up_none nt_l).2]
      generalize eG_l : upd _ l _ = G6
      obtain ⟨nb6, sm6, hl, nt_l, nG_l⟩ := new_facts nb5 nt_l eG_l
      clear eG_l
      have s5 := sm5.trans sm6
      have s4 := sm4.trans s5
      have s3 := sm3.trans s4
      have s2 := sm2.trans s3
      have hb6 := hb1.up (sm1.trans s2) nb6
      walk_at "ss"
      refine k_of hb6 (SqL.of hl) (by simp) (by simp) fun v β3 hv hb3 => ?_
      simp only [List.mem_cons, List.not_mem_nil, or_false] at hv
      rcases hv with rfl | rfl | rfl | rfl | rfl
      · exact k _ _ _ G6 β3 (sm1.trans s2) hb3 (s2 _ _ ht1) (by decide) (by decide) (by decide) (by decide)
      · exact k _ _ _ G6 β3 (sm1.trans s2) hb3 (s3 _ _ ht2) (by decide) (by decide) (by decide) (by decide)
      · exact k _ _ _ G6 β3 (sm1.trans s2) hb3 (s4 _ _ ht3) (by decide) (by decide) (by decide) (by decide)
      · exact k _ _ _ G6 β3 (sm1.trans s2) hb3 (s5 _ _ ht4) (by decide) (by decide) (by decide) (by decide)
      · exact k _ _ _ G6 β3 (sm1.trans s2) hb3 (sm6 _ _ ht5) (by decide) (by decide) (by decide) (by decide)
    walk_at "ss"
    intro l nt_l
    rw [upd_swap (up_none nt_l).2]
    generalize eG_l : upd _ l _ = G1
    obtain ⟨nb1, sm1, hl, nt_l, nG_l⟩ := new_facts hb1.nb nt_l eG_l
    clear eG_l
    have hb2 := hb1.up sm1 nb1
    walk_at "ss"
    refine k_of hb2 (SqL.of hl) (by simp) (by simp) fun v β3 hv hb3 => ?_
    obtain ⟨wd, rfl, hw0, hw1⟩ : ∃ n : Int, v = V.int n ∧ 3 ≤ n ∧ n ≤ 1000000 := by
      simp only [List.mem_cons, List.not_mem_nil, or_false] at hv
      rcases hv with rfl | rfl | rfl | rfl <;> exact ⟨_, rfl, by decide, by decide⟩
    walk_at "ss"
    refine k_draw hb3 (by omega) (by omega) fun e β4 f0 f1 hb4 => ?_
    walk_at "ss"
    refine k_draw hb4 (by omega) (by omega) fun f β5 g0 g1 hb5 => ?_
    walk_at "ss"
    refine k_d (fun _ => ?_) (fun _ => ?_)
    · walk_at "ss"
      intro t nt_t
      rw [upd_swap (up_none nt_t).2]
      generalize eG_t : upd _ t _ = G2
      obtain ⟨nb2, sm2, ht, nt_t, nG_t⟩ := new_facts hb5.nb nt_t eG_t
      clear eG_t
      exact k t _ _ G2 β5 (sm1.trans sm2) (hb5.up sm2 nb2) ht (by omega) (by omega) (by omega) (by omega)
    · walk_at "ss"
      intro t nt_t
      rw [upd_swap (up_none nt_t).2]
      generalize eG_t : upd _ t _ = G2
      obtain ⟨nb2, sm2, ht, nt_t, nG_t⟩ := new_facts hb5.nb nt_t eG_t
      clear eG_t
      exact k t _ _ G2 β5 (sm1.trans sm2) (hb5.up sm2 nb2) ht (by split <;> omega) (by split <;> omega) (by split <;> omega) (by split <;> omega)
end

section
variable {w : World} {K : PySem.W.Frag} {mg : Str → Option Value} {base : Heap}
def Ask (T : Tx K mg) (H : Hp) (t : Addr) : Prop := (∃ v lo hi, H t = some (.tup [v, .int lo, .int hi, .bl (numV v lo hi)]) ∧ Gv T H v) ∨ ∃ v, H t = some (.tup [v, .non, .non, .bl (nameV v)]) ∧ Gv T H v
theorem Ask.up {T : Tx K mg} {H H' : Hp} {t : Addr} (h : Ask T H t) (e : Same H H') : Ask T H' t :=
  h.imp (fun ⟨v, lo, hi, h1, h2⟩ => ⟨v, lo, hi, e _ _ h1, h2.up e⟩) (fun ⟨v, h1, h2⟩ => ⟨v, e _ _ h1, h2.up e⟩)
theorem Ask.put {T : Tx K mg} {H : Hp} {t L : Addr} {xs ys : List V} (h : Ask T H t) (hL : H L = some (.lst xs)) : Ask T (upd H L (.lst ys)) t := by
  rcases h with ⟨v, lo, hi, h1, h2⟩ | ⟨v, h1, h2⟩
  · exact .inl ⟨v, lo, hi, by rw [upd_ne (ne_of h1 hL (by intro q; cases q))]; exact h1, h2.put hL⟩
  · exact .inr ⟨v, by rw [upd_ne (ne_of h1 hL (by intro q; cases q))]; exact h1, h2.put hL⟩
def spLaw (K : PySem.W.Frag) : Sp := fun vs H Q _ => ∃ (a : Addr) (ns : List Int), vs = [.ref a] ∧ SqL K H a (ns.map V.int) ∧ ns.length ≤ 63 ∧ ∀ H', Q (.bl true) H'
theorem ok_law (T : Tx K mg) : FnOk P w K mg base CX0 20 T.a_law T.fd_law P_law (spLaw K) := by
  refine T.F_law.ok sc_law (fun vs H Q E h => ?_) (fun cdv A outer s H vs Q E hr h => ?_)
  · obtain ⟨a, ns, rfl, _⟩ := h
    rfl
  · obtain ⟨a, ns, rfl, hl, hn, k⟩ := h
    have nd := sc_law.nd
    refine ⟨_, (pss_cons (ks_setL (i := 1) nd l_law_law_bag_here (pe_call (ok_bag T) (hr.mono (by first | decide | omega)) g_law_law_bag T.m_bag T.k_bag T.b_bag .nil pass0 (pa_cons (kv (i := 0) v_law_law_script) pa_nil)))
      (pss_cons (ks_setL (i := 2) nd l_law_law_asked (pe_lst pa_nil))
      (pss_cons (ps_for PassesOwn.never rfl (pi_range1 g_law_range T.n_range (pa_cons pe_int pa_nil)) (kgL (i := 3) nd l_law_law_k) (pss_cons (ps_asg (pe_call (ok_bounds T) (hr.mono (by first | decide | omega)) g_law_law_bounds T.m_bounds T.k_bounds T.b_bounds .nil pass0 (pa_cons (kv (i := 1) v_law_law_bag_here) pa_nil)) (kpg_tup K 2 rfl (pgs_cons (kgL (i := 4) nd l_law_law_low) (pgs_cons (kgL (i := 5) nd l_law_law_high) pgs_nil))))
      (pss_cons (ks_setL (i := 6) nd l_law_law_thing (pe_call (ok_near T) (hr.mono (by first | decide | omega)) g_law_law_near T.m_near T.k_near T.b_near .nil pass0 (pa_cons (kv (i := 1) v_law_law_bag_here) (pa_cons (kv (i := 4) v_law_law_low) (pa_cons (kv (i := 5) v_law_law_high) pa_nil)))))
      (pss_cons (ks_setL (i := 7) nd l_law_law_due (pe_call (ok_numbered T) (hr.mono (by first | decide | omega)) g_law_law_numbered T.m_numbered T.k_numbered T.b_numbered .nil pass0 (pa_cons (kv (i := 6) v_law_law_thing) (pa_cons (kv (i := 4) v_law_law_low) (pa_cons (kv (i := 5) v_law_law_high) pa_nil)))))
      (kss_meet (ks_setL (i := 8) nd l_law_law_told (pe_ifExp (pt_cmpR op_eq (pe_call (ok_draw T) (hr.mono (by first | decide | omega)) g_law_law_draw T.m_draw T.k_draw T.b_draw .nil pass0 (pa_cons (kv (i := 1) v_law_law_bag_here) (pa_cons pe_int pa_nil))) pe_int (nomark _)) (pe_callKS (E := fun _ => E0) (ok_is_number T) (hr.mono (by first | decide | omega)) g_law_is_number T.m_is_number T.k_is_number T.kb_is_number_value_most_least pass0At (pk_cons (kv (i := 6) v_law_law_thing) (pk_cons (kv (i := 5) v_law_law_high) (pk_cons (kv (i := 4) v_law_law_low) pk_nil)))) (pe_call (ok_is_number T) (hr.mono (by first | decide | omega)) g_law_is_number T.m_is_number T.k_is_number T.b_is_number .nil pass0 (pa_cons (kv (i := 6) v_law_law_thing) (pa_cons (kv (i := 4) v_law_law_low) (pa_cons (kv (i := 5) v_law_law_high) pa_nil))))))
      (pss_cons (ps_if (pt_not (pt_val (pe_call (ok_is T) (hr.mono (by first | decide | omega)) g_law_law_is T.m_is T.k_is T.b_is .nil pass0 (pa_cons (kv (i := 8) v_law_law_told) (pa_cons (kv (i := 7) v_law_law_due) pa_nil))))) (pss_one (ps_ret pe_bl)) pss_nil)
      (pss_cons (ps_expr (pe_bm PySem.F.plainAttrs_list PySem.F.slot_list_append PySem.F.type_list_append mt_append (kv (i := 2) v_law_law_asked) (pa_cons (pe_tup (pa_cons (kv (i := 6) v_law_law_thing) (pa_cons (kv (i := 4) v_law_law_low) (pa_cons (kv (i := 5) v_law_law_high) (pa_cons (kv (i := 7) v_law_law_due) pa_nil))))) pa_nil)))
      (pss_cons (ks_setL (i := 9) nd l_law_law_word_here (pe_call (ok_value T) (hr.mono (by first | decide | omega)) g_law_law_value T.m_value T.k_value T.b_value .nil pass0 (pa_cons (kv (i := 1) v_law_law_bag_here) pa_nil)))
      (pss_cons (ks_setL (i := 7) nd l_law_law_due (pe_call (ok_named T) (hr.mono (by first | decide | omega)) g_law_law_named T.m_named T.k_named T.b_named .nil pass0 (pa_cons (kv (i := 9) v_law_law_word_here) pa_nil)))
      (kss_meet (ps_if (pt_not (pt_val (pe_call (ok_is T) (hr.mono (by first | decide | omega)) g_law_law_is T.m_is T.k_is T.b_is .nil pass0 (pa_cons (pe_ifExp (pt_cmpR op_eq (pe_call (ok_draw T) (hr.mono (by first | decide | omega)) g_law_law_draw T.m_draw T.k_draw T.b_draw .nil pass0 (pa_cons (kv (i := 1) v_law_law_bag_here) (pa_cons pe_int pa_nil))) pe_int (nomark _)) (pe_callKS (E := fun _ => E0) (ok_is_name T) (hr.mono (by first | decide | omega)) g_law_is_name T.m_is_name T.k_is_name T.kb_is_name_value pass0At (pk_cons (kv (i := 9) v_law_law_word_here) pk_nil)) (pe_call (ok_is_name T) (hr.mono (by first | decide | omega)) g_law_is_name T.m_is_name T.k_is_name T.b_is_name .nil pass0 (pa_cons (kv (i := 9) v_law_law_word_here) pa_nil))) (pa_cons (kv (i := 7) v_law_law_due) pa_nil))))) (pss_one (ps_ret pe_bl)) pss_nil)
      (pss_one (ps_expr (pe_bm PySem.F.plainAttrs_list PySem.F.slot_list_append PySem.F.type_list_append mt_append (kv (i := 2) v_law_law_asked) (pa_cons (pe_tup (pa_cons (kv (i := 9) v_law_law_word_here) (pa_cons pe_non (pa_cons pe_non (pa_cons (kv (i := 7) v_law_law_due) pa_nil))))) pa_nil))))))))))))))
      (pss_cons (ps_for PassesOwn.never rfl (kpi_list K (kv (i := 2) v_law_law_asked)) (kpg_tup K 4 rfl (pgs_cons (kgL (i := 6) nd l_law_law_thing) (pgs_cons (kgL (i := 4) nd l_law_law_low) (pgs_cons (kgL (i := 5) nd l_law_law_high) (pgs_cons (kgL (i := 7) nd l_law_law_due) pgs_nil))))) (pss_one (ps_if (pt_cmpR op_isN (kv (i := 4) v_law_law_low) pe_non (nomark _)) (pss_one (ps_if (pt_not (pt_val (pe_call (ok_is T) (hr.mono (by first | decide | omega)) g_law_law_is T.m_is T.k_is T.b_is .nil pass0 (pa_cons (pe_call (ok_is_name T) (hr.mono (by first | decide | omega)) g_law_is_name T.m_is_name T.k_is_name T.b_is_name .nil pass0 (pa_cons (kv (i := 6) v_law_law_thing) pa_nil)) (pa_cons (kv (i := 7) v_law_law_due) pa_nil))))) (pss_one (ps_ret pe_bl)) pss_nil)) (pss_one (ps_if (pt_not (pt_val (pe_call (ok_is T) (hr.mono (by first | decide | omega)) g_law_law_is T.m_is T.k_is T.b_is .nil pass0 (pa_cons (pe_call (ok_is_number T) (hr.mono (by first | decide | omega)) g_law_is_number T.m_is_number T.k_is_number T.b_is_number .nil pass0 (pa_cons (kv (i := 6) v_law_law_thing) (pa_cons (kv (i := 4) v_law_law_low) (pa_cons (kv (i := 5) v_law_law_high) pa_nil)))) (pa_cons (kv (i := 7) v_law_law_due) pa_nil))))) (pss_one (ps_ret pe_bl)) pss_nil)))))
      (pss_one (ps_ret pe_bl)))))), ?_⟩
    walk_at "ss"
    refine ⟨a, ns, rfl, hl, fun b G0 β sm hb => ?_⟩
    walk_at "ss"
    intro L nt_L
    rw [upd_swap (up_none nt_L).2]
    generalize eG_L : upd _ L _ = G1
    obtain ⟨nb1, sm1, hL, nt_L, nG_L⟩ := new_facts hb.nb nt_L eG_L
    clear eG_L
    have hb1 := hb.up sm1 nb1
    walk_at "ss"
    refine k_r1 ⟨by omega, by omega⟩ ?_
    refine k_forRange (fun i σ H' => ∃ (ts : List Addr) (G' : Hp) (β' : HO) (v3 v4 v5 v6 v7 v8 v9 : Option V), σ = [some (.ref a), some (.ref b), some (.ref L), v3, v4, v5, v6, v7, v8, v9] ∧ H' = upd G' b β' ∧ Bag K G0 G' b β' ∧ G' L = some (.lst (ts.map V.ref)) ∧ ts.length = 2 * i ∧ ∀ t ∈ ts, Ask T G' t)
      ⟨[], G1, β, none, none, none, none, none, none, none, rfl, rfl, hb1, hL, rfl, fun t ht => (by cases ht)⟩ ?_ ?_
    · rintro i σ H' hi ⟨ts, G2, β2, v3, v4, v5, v6, v7, v8, v9, rfl, rfl, hb2, hL2, hlen, hall⟩
      walk_at "ss"
      refine ⟨G0, G2, b, β2, rfl, rfl, hb2, fun t lo hi G3 β3 sm3 hb3 ht3 l0 l1 h0 h1 => ?_⟩
      have hu3 := up_get (β := β3) hb3.nb ht3
      walk_at "ss"
      refine ⟨G0, G3, b, β3, lo, hi, rfl, rfl, hb3, l0, l1, h0, h1, fun v G4 β4 sm4 hb4 hv => ?_⟩
      have sm24 := sm3.trans sm4
      have hL4 := sm24 _ _ hL2
      have hall4 : ∀ t ∈ ts, Ask T G4 t := fun t ht => (hall t ht).up sm24
      walk_at "ss"
      refine ⟨v, lo, hi, rfl, hv.up (up_same hb4.nb), ?_⟩
      walk_at "ss"
      refine k_meet (fun σ H' => ∃ β', σ = [some (.ref a), some (.ref b), some (.ref L), some (.int (0 + (i : Nat))), some (.int lo), some (.int hi), some v, some (.bl (numV v lo hi)), some (.bl (numV v lo hi)), v9] ∧ H' = upd G4 b β' ∧ Bag K G0 G4 b β') ?_ ?_
      · walk_at "ss"
        refine k_draw hb4 (by decide) (by decide) fun e β5 e0 e1 hb5 => ?_
        walk_at "ss"
        have hv5 := hv.up (up_same (β := β5) hb5.nb)
        refine k_d (fun _ => ?_) (fun _ => ?_)
        · refine k_callKS ?_
          walk_at "ss"
          refine ⟨v, lo, hi, rfl, hv5, ?_⟩
          walk_at "ss"
          exact ⟨β5, rfl, rfl, hb5⟩
        · walk_at "ss"
          refine ⟨v, lo, hi, rfl, hv5, ?_⟩
          walk_at "ss"
          exact ⟨β5, rfl, rfl, hb5⟩
      · rintro σ H' ⟨β5, rfl, rfl, hb5⟩
        walk_at "ss"
        refine ⟨_, rfl, ?_⟩
        walk_at "ss"
        refine k_bm ?_
        walk_at "ss"
        refine ⟨.inl ⟨rfl, _, SqL.of (up_get hb5.nb hL4)⟩, ?_⟩
        walk_at "ss"
        intro u1 nt_u1
        rw [upd_swap (up_none nt_u1).2]
        generalize eG_u1 : upd _ u1 _ = G4a
        obtain ⟨nbu1, smu1, hu1, nt_u1, nG_u1⟩ := new_facts hb5.nb nt_u1 eG_u1
        clear eG_u1
        have hbu1 := hb5.up smu1 nbu1
        have hLu1 := smu1 _ _ hL4
        walk_at "ss"
        refine k_app (up_get nbu1 hLu1) (by rw [List.length_map]; omega) ?_
        rw [upd_swap nt_L]
        have esu1 : ts.map V.ref ++ [V.ref u1] = (ts ++ [u1]).map V.ref := by
          rw [List.map_append]
          rfl
        rw [esu1]
        have hb6 := hbu1.up0 (same_put (o := .lst ((ts ++ [u1]).map V.ref)) hbu1.sm nG_L) (by rw [upd_ne (Ne.symm nt_L)]; exact nbu1)
        have ask6 : ∀ t ∈ ts ++ [u1], Ask T (upd G4a L (.lst ((ts ++ [u1]).map V.ref))) t := fun t ht => by
          rcases List.mem_append.mp ht with ht | ht
          · exact ((hall4 t ht).up smu1).put hLu1
          · rw [List.mem_singleton.mp ht]
            exact Ask.put (.inl ⟨v, lo, hi, hu1, hv.up smu1⟩) hLu1
        have hL6 : upd G4a L (.lst ((ts ++ [u1]).map V.ref)) L = some (.lst ((ts ++ [u1]).map V.ref)) := upd_same
        generalize upd G4a L (.lst ((ts ++ [u1]).map V.ref)) = G5 at hb6 ask6 hL6 ⊢
        walk_at "ss"
        refine ⟨G0, G5, b, β5, rfl, rfl, hb6, fun y G6 β6 sm6 hb7 hy => ?_⟩
        walk_at "ss"
        refine ⟨y, rfl, hy.up (up_same hb7.nb), fun H7 smx => ?_⟩
        obtain ⟨G7, nb7, sm7, rfl⟩ := split_up hb7.nb smx
        have hb8 := hb7.up sm7 nb7
        have hy7 := hy.up sm7
        have sm57 := sm6.trans sm7
        walk_at "ss"
        refine k_meet (fun σ H' => ∃ (G' : Hp) (β' : HO), σ = [some (.ref a), some (.ref b), some (.ref L), some (.int (0 + (i : Nat))), some (.int lo), some (.int hi), some v, some (.bl (nameV y)), some (.bl (numV v lo hi)), some y] ∧ H' = upd G' b β' ∧ Bag K G0 G' b β' ∧ Same G7 G') ?_ ?_
        · walk_at "ss"
          refine k_draw hb8 (by decide) (by decide) fun e β9 e0 e1 hb9 => ?_
          walk_at "ss"
          have hy9 := hy7.up (up_same (β := β9) hb9.nb)
          refine k_d (fun _ => ?_) (fun _ => ?_)
          · refine k_callKS ?_
            walk_at "ss"
            refine ⟨y, rfl, hy9, fun H8 smx => ?_⟩
            obtain ⟨G8, nb8, sm8, rfl⟩ := split_up hb9.nb smx
            walk_at "ss"
            refine ⟨_, rfl, ?_⟩
            walk_at "ss"
            exact ⟨G8, β9, rfl, rfl, hb9.up sm8 nb8, sm8⟩
          · walk_at "ss"
            refine ⟨y, rfl, hy9, fun H8 smx => ?_⟩
            obtain ⟨G8, nb8, sm8, rfl⟩ := split_up hb9.nb smx
            walk_at "ss"
            refine ⟨_, rfl, ?_⟩
            walk_at "ss"
            exact ⟨G8, β9, rfl, rfl, hb9.up sm8 nb8, sm8⟩
        · rintro σ H' ⟨G8, β9, rfl, rfl, hb9, sm8⟩
          have sm58 := sm57.trans sm8
          have hL8 := sm58 _ _ hL6
          have hall8 : ∀ t ∈ ts ++ [u1], Ask T G8 t := fun t ht => (ask6 t ht).up sm58
          have hlen8 : (ts ++ [u1]).length ≤ 40 ∧ (ts ++ [u1]).length = 2 * i + 1 := by simp; omega
          generalize ts ++ [u1] = tt at hL8 hall8 hlen8
          walk_at "ss"
          refine k_bm ?_
          walk_at "ss"
          refine ⟨.inl ⟨rfl, _, SqL.of (up_get hb9.nb hL8)⟩, ?_⟩
          walk_at "ss"
          intro u2 nt_u2
          rw [upd_swap (up_none nt_u2).2]
          generalize eG_u2 : upd _ u2 _ = G8a
          obtain ⟨nbu2, smu2, hu2, nt_u2, nG_u2⟩ := new_facts hb9.nb nt_u2 eG_u2
          clear eG_u2
          have hbu2 := hb9.up smu2 nbu2
          have hLu2 := smu2 _ _ hL8
          walk_at "ss"
          refine k_app (up_get nbu2 hLu2) (by rw [List.length_map]; omega) ?_
          rw [upd_swap nt_L]
          have esu2 : tt.map V.ref ++ [V.ref u2] = (tt ++ [u2]).map V.ref := by
            rw [List.map_append]
            rfl
          rw [esu2]
          have hbX := hbu2.up0 (same_put (o := .lst ((tt ++ [u2]).map V.ref)) hbu2.sm nG_L) (by rw [upd_ne (Ne.symm nt_L)]; exact nbu2)
          have askX : ∀ t ∈ tt ++ [u2], Ask T (upd G8a L (.lst ((tt ++ [u2]).map V.ref))) t := fun t ht => by
            rcases List.mem_append.mp ht with ht | ht
            · exact ((hall8 t ht).up smu2).put hLu2
            · rw [List.mem_singleton.mp ht]
              exact Ask.put (.inr ⟨y, hu2, (hy7.up sm8).up smu2⟩) hLu2
          have hLX : upd G8a L (.lst ((tt ++ [u2]).map V.ref)) L = some (.lst ((tt ++ [u2]).map V.ref)) := upd_same
          generalize upd G8a L (.lst ((tt ++ [u2]).map V.ref)) = GX at hbX askX hLX ⊢
          exact ⟨_, GX, β9, _, _, _, _, _, _, _, rfl, rfl, hbX, hLX, by simp; omega, askX⟩
    · rintro σ H' ⟨ts, G2, β2, v3, v4, v5, v6, v7, v8, v9, rfl, rfl, hb2, hL2, hlen, hall⟩
      walk_at "ss"
      refine k_iL (SqL.of (up_get hb2.nb hL2)) ?_
      refine k_forList (ts.map V.ref) (fun i σ H' => ∃ (G' : Hp) (v3 v4 v5 v6 v7 v8 v9 : Option V), σ = [some (.ref a), some (.ref b), some (.ref L), v3, v4, v5, v6, v7, v8, v9] ∧ H' = upd G' b β2 ∧ G' b = none ∧ Same G2 G') ⟨G2, v3, v4, v5, v6, v7, v8, v9, rfl, rfl, hb2.nb, Same.refl _⟩ ?_ ?_ ?_
      · rintro i σ H' _ ⟨G3, v3, v4, v5, v6, v7, v8, v9, rfl, rfl, nb3, sm3⟩
        exact SqL.of (up_get nb3 (sm3 _ _ hL2))
      · rintro i x σ H' hx ⟨G3, v3, v4, v5, v6, v7, v8, v9, rfl, rfl, nb3, sm3⟩
        obtain ⟨t, ht, rfl⟩ := List.mem_map.mp (List.mem_of_getElem? hx)
        rcases ((hall t ht).up sm3).up (up_same (β := β2) nb3) with ⟨v, lo, hi, hu, hv⟩ | ⟨v, hu, hv⟩
        · walk_at "ss"
          refine ⟨rfl, ?_⟩
          walk_at "ss"
          refine k_df (fun e => by cases e) ?_
          walk_at "ss"
          refine ⟨v, lo, hi, rfl, hv, ?_⟩
          walk_at "ss"
          refine ⟨_, rfl, ?_⟩
          walk_at "ss"
          exact ⟨G3, _, _, _, _, _, _, _, rfl, rfl, nb3, sm3⟩
        · walk_at "ss"
          refine ⟨rfl, ?_⟩
          walk_at "ss"
          refine k_dt rfl ?_
          walk_at "ss"
          refine ⟨v, rfl, hv, fun H8 smx => ?_⟩
          obtain ⟨G8, nb8, sm8, rfl⟩ := split_up nb3 smx
          walk_at "ss"
          refine ⟨_, rfl, ?_⟩
          walk_at "ss"
          exact ⟨G8, _, _, _, _, _, _, _, rfl, rfl, nb8, sm3.trans sm8⟩
      · rintro σ H' ⟨G3, v3, v4, v5, v6, v7, v8, v9, rfl, rfl, nb3, sm3⟩
        walk_at "ss"
        exact k _
end

def tx_mk {K : PySem.W.Frag} {h : Heap} {mg : Str → Option Value} (X : K.In h) (G : h.Ns mainGlobals mg) {C_SureletError : Addr} {C_InvalidNumber : Addr} {A_is_number : Addr} {oc_is_number kV_is_number doc_is_number pm_is_number ct_is_number : Value} {od_is_number an_is_number : Option Addr} {sl_is_number : Array (Option Value)} {cdv_is_number : Value} {A_is_name : Addr} {oc_is_name kV_is_name doc_is_name pm_is_name ct_is_name : Value} {od_is_name an_is_name : Option Addr} {sl_is_name : Array (Option Value)} {cdv_is_name : Value} {A_InvalidNumber_init : Addr} {oc_InvalidNumber_init kV_InvalidNumber_init doc_InvalidNumber_init pm_InvalidNumber_init ct_InvalidNumber_init : Value} {od_InvalidNumber_init an_InvalidNumber_init : Option Addr} {sl_InvalidNumber_init : Array (Option Value)} {cc_InvalidNumber_init cda_InvalidNumber_init : Addr} {cl_InvalidNumber_init ccl_InvalidNumber_init : Value} {cld_InvalidNumber_init cdd_InvalidNumber_init : Option Addr} {csl_InvalidNumber_init ccs_InvalidNumber_init : Array (Option Value)} {vs_InvalidNumber_init : Array Value} {file_InvalidNumber_init : Str} {tf_InvalidNumber_init : Tok} {cd_InvalidNumber_init : PySem.ClassData} {A_bag : Addr} {oc_bag kV_bag doc_bag pm_bag ct_bag : Value} {od_bag an_bag : Option Addr} {sl_bag : Array (Option Value)} {cdv_bag : Value} {A_draw : Addr} {oc_draw kV_draw doc_draw pm_draw ct_draw : Value} {od_draw an_draw : Option Addr} {sl_draw : Array (Option Value)} {cdv_draw : Value} {A_of : Addr} {oc_of kV_of doc_of pm_of ct_of : Value} {od_of an_of : Option Addr} {sl_of : Array (Option Value)} {cdv_of : Value} {A_odd : Addr} {oc_odd kV_odd doc_odd pm_odd ct_odd : Value} {od_odd an_odd : Option Addr} {sl_odd : Array (Option Value)} {cdv_odd : Value} {A_signs : Addr} {oc_signs kV_signs doc_signs pm_signs ct_signs : Value} {od_signs an_signs : Option Addr} {sl_signs : Array (Option Value)} {cdv_signs : Value} {A_word : Addr} {oc_word kV_word doc_word pm_word ct_word : Value} {od_word an_word : Option Addr} {sl_word : Array (Option Value)} {cdv_word : Value} {A_value : Addr} {oc_value kV_value doc_value pm_value ct_value : Value} {od_value an_value : Option Addr} {sl_value : Array (Option Value)} {cdv_value : Value} {A_named : Addr} {oc_named kV_named doc_named pm_named ct_named : Value} {od_named an_named : Option Addr} {sl_named : Array (Option Value)} {cdv_named : Value} {A_near : Addr} {oc_near kV_near doc_near pm_near ct_near : Value} {od_near an_near : Option Addr} {sl_near : Array (Option Value)} {cdv_near : Value} {A_numbered : Addr} {oc_numbered kV_numbered doc_numbered pm_numbered ct_numbered : Value} {od_numbered an_numbered : Option Addr} {sl_numbered : Array (Option Value)} {cdv_numbered : Value} {A_bounds : Addr} {oc_bounds kV_bounds doc_bounds pm_bounds ct_bounds : Value} {od_bounds an_bounds : Option Addr} {sl_bounds : Array (Option Value)} {cdv_bounds : Value} {A_is : Addr} {oc_is kV_is doc_is pm_is ct_is : Value} {od_is an_is : Option Addr} {sl_is : Array (Option Value)} {cdv_is : Value} {A_law : Addr} {oc_law kV_law doc_law pm_law ct_law : Value} {od_law an_law : Option Addr} {sl_law : Array (Option Value)} {cdv_law : Value} {t_LETTERS : Tok} {t_DIGITS : Tok} {nm_InvalidNumber q_InvalidNumber : Str} {N_InvalidNumber : Addr} {bs_InvalidNumber : List Value} {sn_InvalidNumber : List Str} {sb_InvalidNumber : List Value} {ab_InvalidNumber : Bool} {co_InvalidNumber : Option Bool} {dd_InvalidNumber : Option Addr} {e0_InvalidNumber e1_InvalidNumber e2_InvalidNumber e3_InvalidNumber e5_InvalidNumber : Option Value}
    (aC_SureletError : PySem.W.nsIn K mainGlobals "SureletError" = some (some (.ref C_SureletError))) (aC_InvalidNumber : PySem.W.nsIn K mainGlobals "InvalidNumber" = some (some (.ref C_InvalidNumber))) (a_is_number : PySem.W.nsIn K mainGlobals "is_number" = some (some (.ref A_is_number))) (l_is_number : K.lookup A_is_number = some ⟨oc_is_number, od_is_number, .func (PySem.W.fnOf "is_number" "is_number" (defArgs s_is_number) (defBody s_is_number) (defScope s_is_number) .none kV_is_number doc_is_number pm_is_number an_is_number cdv_is_number ct_is_number), sl_is_number⟩) (c_is_number : PySem.W.codeIn K cdv_is_number "is_number" = true) (k_is_number : PySem.W.keepIn K (.ref A_is_number) = true) (a_is_name : PySem.W.nsIn K mainGlobals "is_name" = some (some (.ref A_is_name))) (l_is_name : K.lookup A_is_name = some ⟨oc_is_name, od_is_name, .func (PySem.W.fnOf "is_name" "is_name" (defArgs s_is_name) (defBody s_is_name) (defScope s_is_name) .none kV_is_name doc_is_name pm_is_name an_is_name cdv_is_name ct_is_name), sl_is_name⟩) (c_is_name : PySem.W.codeIn K cdv_is_name "is_name" = true) (k_is_name : PySem.W.keepIn K (.ref A_is_name) = true) (a_InvalidNumber_init : PySem.W.findIn K (.ref C_InvalidNumber) "__init__" = some (some (.ref A_InvalidNumber_init))) (i_InvalidNumber_init : PySem.W.isFn K (.ref A_InvalidNumber_init) = true) (l_InvalidNumber_init : K.lookup A_InvalidNumber_init = some ⟨oc_InvalidNumber_init, od_InvalidNumber_init, .func (PySem.W.fnX "__init__" "InvalidNumber.__init__" (defArgs s_InvalidNumber_init) (defBody s_InvalidNumber_init) (defScope s_InvalidNumber_init) [("__class__", cc_InvalidNumber_init)] .none kV_InvalidNumber_init doc_InvalidNumber_init pm_InvalidNumber_init an_InvalidNumber_init (.ref cda_InvalidNumber_init) ct_InvalidNumber_init), sl_InvalidNumber_init⟩) (c_InvalidNumber_init : PySem.W.codeIn K (.ref cda_InvalidNumber_init) "InvalidNumber.__init__" = true) (k_InvalidNumber_init : PySem.W.keepIn K (.ref A_InvalidNumber_init) = true) (cell_InvalidNumber_init : K.lookup cc_InvalidNumber_init = some ⟨cl_InvalidNumber_init, cld_InvalidNumber_init, .cell (some (.ref C_InvalidNumber)), csl_InvalidNumber_init⟩) (code_InvalidNumber_init : K.lookup cda_InvalidNumber_init = some ⟨ccl_InvalidNumber_init, cdd_InvalidNumber_init, .fields vs_InvalidNumber_init, ccs_InvalidNumber_init⟩) (vs_InvalidNumber_init : vs_InvalidNumber_init[2]? = some (.str file_InvalidNumber_init tf_InvalidNumber_init)) (fl_InvalidNumber_init : ((P.main.file : Str) == file_InvalidNumber_init) = true) (cd_InvalidNumber_init : PySem.W.clsIn K C_InvalidNumber = some cd_InvalidNumber_init) (a_bag : PySem.W.nsIn K mainGlobals "_law_bag" = some (some (.ref A_bag))) (l_bag : K.lookup A_bag = some ⟨oc_bag, od_bag, .func (PySem.W.fnOf "_law_bag" "_law_bag" (defArgs s_bag) (defBody s_bag) (defScope s_bag) .none kV_bag doc_bag pm_bag an_bag cdv_bag ct_bag), sl_bag⟩) (c_bag : PySem.W.codeIn K cdv_bag "_law_bag" = true) (k_bag : PySem.W.keepIn K (.ref A_bag) = true) (a_draw : PySem.W.nsIn K mainGlobals "_law_draw" = some (some (.ref A_draw))) (l_draw : K.lookup A_draw = some ⟨oc_draw, od_draw, .func (PySem.W.fnOf "_law_draw" "_law_draw" (defArgs s_draw) (defBody s_draw) (defScope s_draw) .none kV_draw doc_draw pm_draw an_draw cdv_draw ct_draw), sl_draw⟩) (c_draw : PySem.W.codeIn K cdv_draw "_law_draw" = true) (k_draw : PySem.W.keepIn K (.ref A_draw) = true) (a_of : PySem.W.nsIn K mainGlobals "_law_of" = some (some (.ref A_of))) (l_of : K.lookup A_of = some ⟨oc_of, od_of, .func (PySem.W.fnOf "_law_of" "_law_of" (defArgs s_of) (defBody s_of) (defScope s_of) .none kV_of doc_of pm_of an_of cdv_of ct_of), sl_of⟩) (c_of : PySem.W.codeIn K cdv_of "_law_of" = true) (k_of : PySem.W.keepIn K (.ref A_of) = true) (a_odd : PySem.W.nsIn K mainGlobals "_law_odd" = some (some (.ref A_odd))) (l_odd : K.lookup A_odd = some ⟨oc_odd, od_odd, .func (PySem.W.fnOf "_law_odd" "_law_odd" (defArgs s_odd) (defBody s_odd) (defScope s_odd) .none kV_odd doc_odd pm_odd an_odd cdv_odd ct_odd), sl_odd⟩) (c_odd : PySem.W.codeIn K cdv_odd "_law_odd" = true) (k_odd : PySem.W.keepIn K (.ref A_odd) = true) (a_signs : PySem.W.nsIn K mainGlobals "_law_signs" = some (some (.ref A_signs))) (l_signs : K.lookup A_signs = some ⟨oc_signs, od_signs, .func (PySem.W.fnOf "_law_signs" "_law_signs" (defArgs s_signs) (defBody s_signs) (defScope s_signs) .none kV_signs doc_signs pm_signs an_signs cdv_signs ct_signs), sl_signs⟩) (c_signs : PySem.W.codeIn K cdv_signs "_law_signs" = true) (k_signs : PySem.W.keepIn K (.ref A_signs) = true) (a_word : PySem.W.nsIn K mainGlobals "_law_word" = some (some (.ref A_word))) (l_word : K.lookup A_word = some ⟨oc_word, od_word, .func (PySem.W.fnOf "_law_word" "_law_word" (defArgs s_word) (defBody s_word) (defScope s_word) .none kV_word doc_word pm_word an_word cdv_word ct_word), sl_word⟩) (c_word : PySem.W.codeIn K cdv_word "_law_word" = true) (k_word : PySem.W.keepIn K (.ref A_word) = true) (a_value : PySem.W.nsIn K mainGlobals "_law_value" = some (some (.ref A_value))) (l_value : K.lookup A_value = some ⟨oc_value, od_value, .func (PySem.W.fnOf "_law_value" "_law_value" (defArgs s_value) (defBody s_value) (defScope s_value) .none kV_value doc_value pm_value an_value cdv_value ct_value), sl_value⟩) (c_value : PySem.W.codeIn K cdv_value "_law_value" = true) (k_value : PySem.W.keepIn K (.ref A_value) = true) (a_named : PySem.W.nsIn K mainGlobals "_law_named" = some (some (.ref A_named))) (l_named : K.lookup A_named = some ⟨oc_named, od_named, .func (PySem.W.fnOf "_law_named" "_law_named" (defArgs s_named) (defBody s_named) (defScope s_named) .none kV_named doc_named pm_named an_named cdv_named ct_named), sl_named⟩) (c_named : PySem.W.codeIn K cdv_named "_law_named" = true) (k_named : PySem.W.keepIn K (.ref A_named) = true) (a_near : PySem.W.nsIn K mainGlobals "_law_near" = some (some (.ref A_near))) (l_near : K.lookup A_near = some ⟨oc_near, od_near, .func (PySem.W.fnOf "_law_near" "_law_near" (defArgs s_near) (defBody s_near) (defScope s_near) .none kV_near doc_near pm_near an_near cdv_near ct_near), sl_near⟩) (c_near : PySem.W.codeIn K cdv_near "_law_near" = true) (k_near : PySem.W.keepIn K (.ref A_near) = true) (a_numbered : PySem.W.nsIn K mainGlobals "_law_numbered" = some (some (.ref A_numbered))) (l_numbered : K.lookup A_numbered = some ⟨oc_numbered, od_numbered, .func (PySem.W.fnOf "_law_numbered" "_law_numbered" (defArgs s_numbered) (defBody s_numbered) (defScope s_numbered) .none kV_numbered doc_numbered pm_numbered an_numbered cdv_numbered ct_numbered), sl_numbered⟩) (c_numbered : PySem.W.codeIn K cdv_numbered "_law_numbered" = true) (k_numbered : PySem.W.keepIn K (.ref A_numbered) = true) (a_bounds : PySem.W.nsIn K mainGlobals "_law_bounds" = some (some (.ref A_bounds))) (l_bounds : K.lookup A_bounds = some ⟨oc_bounds, od_bounds, .func (PySem.W.fnOf "_law_bounds" "_law_bounds" (defArgs s_bounds) (defBody s_bounds) (defScope s_bounds) .none kV_bounds doc_bounds pm_bounds an_bounds cdv_bounds ct_bounds), sl_bounds⟩) (c_bounds : PySem.W.codeIn K cdv_bounds "_law_bounds" = true) (k_bounds : PySem.W.keepIn K (.ref A_bounds) = true) (a_is : PySem.W.nsIn K mainGlobals "_law_is" = some (some (.ref A_is))) (l_is : K.lookup A_is = some ⟨oc_is, od_is, .func (PySem.W.fnOf "_law_is" "_law_is" (defArgs s_is) (defBody s_is) (defScope s_is) .none kV_is doc_is pm_is an_is cdv_is ct_is), sl_is⟩) (c_is : PySem.W.codeIn K cdv_is "_law_is" = true) (k_is : PySem.W.keepIn K (.ref A_is) = true) (a_law : PySem.W.nsIn K mainGlobals "law" = some (some (.ref A_law))) (l_law : K.lookup A_law = some ⟨oc_law, od_law, .func (PySem.W.fnOf "law" "law" (defArgs s_law) (defBody s_law) (defScope s_law) .none kV_law doc_law pm_law an_law cdv_law ct_law), sl_law⟩) (c_law : PySem.W.codeIn K cdv_law "law" = true) (k_law : PySem.W.keepIn K (.ref A_law) = true) (top_super : (P.main.scope.names.lookup ("super" : Str)).isSome = false) (st_thirdparty : PySem.W.nsIn K cStatics "thirdparty.any" = some none) (z_int : PySem.W.nsIn K mainGlobals "int" = some none) (z_len : PySem.W.nsIn K mainGlobals "len" = some none) (z_list : PySem.W.nsIn K mainGlobals "list" = some none) (z_isinstance : PySem.W.nsIn K mainGlobals "isinstance" = some none) (z_bool : PySem.W.nsIn K mainGlobals "bool" = some none) (z_str : PySem.W.nsIn K mainGlobals "str" = some none) (z_all : PySem.W.nsIn K mainGlobals "all" = some none) (z_zip : PySem.W.nsIn K mainGlobals "zip" = some none) (z_ord : PySem.W.nsIn K mainGlobals "ord" = some none) (z_range : PySem.W.nsIn K mainGlobals "range" = some none) (z_tuple : PySem.W.nsIn K mainGlobals "tuple" = some none) (z_min : PySem.W.nsIn K mainGlobals "min" = some none) (z_abs : PySem.W.nsIn K mainGlobals "abs" = some none) (z_max : PySem.W.nsIn K mainGlobals "max" = some none) (z_super : PySem.W.nsIn K mainGlobals "super" = some none) (ac_LETTERS : PySem.W.nsIn K mainGlobals "LETTERS" = some (some (.str "abcdefghijklmnopqrstuvwxyz" t_LETTERS))) (ac_DIGITS : PySem.W.nsIn K mainGlobals "DIGITS" = some (some (.str "0123456789" t_DIGITS))) (el_InvalidNumber : K.lookup C_InvalidNumber = some (excClassObj nm_InvalidNumber q_InvalidNumber C_InvalidNumber N_InvalidNumber bs_InvalidNumber [.ref C_SureletError, .type "ValueError", .type "Exception", .type "BaseException", .type "object"] true sn_InvalidNumber sb_InvalidNumber ab_InvalidNumber co_InvalidNumber dd_InvalidNumber e0_InvalidNumber e1_InvalidNumber e2_InvalidNumber e3_InvalidNumber e5_InvalidNumber "ValueError.__new__")) (es_InvalidNumber : PySem.W.findIn K (.ref C_InvalidNumber) "__setattr__" = some (some (.builtin "object.__setattr__"))) (eb_InvalidNumber : PySem.W.subIn K (.ref C_InvalidNumber) (.type "BaseException") = some true) (et_InvalidNumber : PySem.W.typeIn K (.ref C_InvalidNumber) = some (.type "type")) (ek_InvalidNumber : PySem.W.keepIn K (.ref C_InvalidNumber) = true) (em_InvalidNumber : PySem.W.mroIn K C_InvalidNumber (.ref C_InvalidNumber) = some true) (eu_InvalidNumber : PySem.W.ks_superIn K C_InvalidNumber C_InvalidNumber "__init__" = some (some (.builtin "ValueError.__init__"))) (ev_InvalidNumber : PySem.W.subIn K (.ref C_InvalidNumber) (.type "ValueError") = some true) (ega_InvalidNumber : PySem.W.findIn K (.ref C_InvalidNumber) "__getattribute__" = some (some (.builtin "BaseException.__getattribute__"))) (egg_InvalidNumber : PySem.W.findIn K (.ref C_InvalidNumber) "__getattr__" = some none) (ehd_InvalidNumber : PySem.W.hasDictIn K C_InvalidNumber = true) (eti_InvalidNumber : PySem.W.typeIn K (.ref A_InvalidNumber_init) = some (.type "function")) (no_InvalidNumber_value : PySem.W.findIn K (.ref C_InvalidNumber) "value" = some none) (no_InvalidNumber_code : PySem.W.findIn K (.ref C_InvalidNumber) "code" = some none) (iy_InvalidNumber : PySem.W.isClsIn K C_InvalidNumber = true) (ih_InvalidNumber : PySem.W.findIn K (.ref C_InvalidNumber) "__class__" = some (some (.builtin "object.__class__"))) (in_InvalidNumber : PySem.W.specialIn K (.builtin "object.__class__") "__get__" = some (some (.builtin "getset_descriptor.__get__"))) (ik_InvalidNumber : PySem.W.takesIn K (.builtin "object.__class__") = some true) (im_InvalidNumber : PySem.W.mroIn K C_InvalidNumber (.type "object") = some true) (ikt_InvalidNumber_int : PySem.W.kitOne K (.ref C_InvalidNumber) (.type "int") = some false) (ikt_InvalidNumber_bool : PySem.W.kitOne K (.ref C_InvalidNumber) (.type "bool") = some false) (ikt_InvalidNumber_str : PySem.W.kitOne K (.ref C_InvalidNumber) (.type "str") = some false) : Tx K mg where
  C_SureletError := C_SureletError
  m_SureletError := PySem.W.mg_of X G aC_SureletError
  C_InvalidNumber := C_InvalidNumber
  m_InvalidNumber := PySem.W.mg_of X G aC_InvalidNumber
  a_is_number := A_is_number
  fd_is_number := PySem.W.fnOf "is_number" "is_number" (defArgs s_is_number) (defBody s_is_number) (defScope s_is_number) .none kV_is_number doc_is_number pm_is_number an_is_number cdv_is_number ct_is_number
  F_is_number := fun_mk (st := s_is_number) l_is_number c_is_number k_is_number
  b_is_number := (fun_mk (st := s_is_number) l_is_number c_is_number k_is_number).binds (ps := P_is_number) fun _ _ _ _ _ _ us hl => match us, hl with | [_, _, _], _ => rfl
  k_is_number := k_is_number
  m_is_number := PySem.W.mg_of X G a_is_number
  a_is_name := A_is_name
  fd_is_name := PySem.W.fnOf "is_name" "is_name" (defArgs s_is_name) (defBody s_is_name) (defScope s_is_name) .none kV_is_name doc_is_name pm_is_name an_is_name cdv_is_name ct_is_name
  F_is_name := fun_mk (st := s_is_name) l_is_name c_is_name k_is_name
  b_is_name := (fun_mk (st := s_is_name) l_is_name c_is_name k_is_name).binds (ps := P_is_name) fun _ _ _ _ _ _ us hl => match us, hl with | [_], _ => rfl
  k_is_name := k_is_name
  m_is_name := PySem.W.mg_of X G a_is_name
  a_InvalidNumber_init := A_InvalidNumber_init
  cc_InvalidNumber_init := cc_InvalidNumber_init
  cda_InvalidNumber_init := cda_InvalidNumber_init
  fd_InvalidNumber_init := PySem.W.fnX "__init__" "InvalidNumber.__init__" (defArgs s_InvalidNumber_init) (defBody s_InvalidNumber_init) (defScope s_InvalidNumber_init) [("__class__", cc_InvalidNumber_init)] .none kV_InvalidNumber_init doc_InvalidNumber_init pm_InvalidNumber_init an_InvalidNumber_init (.ref cda_InvalidNumber_init) ct_InvalidNumber_init
  F_InvalidNumber_init := funS_mk l_InvalidNumber_init c_InvalidNumber_init k_InvalidNumber_init
  b_InvalidNumber_init := (funS_mk l_InvalidNumber_init c_InvalidNumber_init k_InvalidNumber_init).binds (st := s_InvalidNumber_init) (ps := P_InvalidNumber_init) fun _ _ _ _ _ us hl => match us, hl with | [_, _], _ => rfl
  ce_InvalidNumber_init := ⟨_, _, _, cell_InvalidNumber_init⟩
  sd_InvalidNumber_init := ⟨⟨_, _, _, _, _, l_InvalidNumber_init, rfl, rfl⟩, ⟨_, _, _, _, _, _, code_InvalidNumber_init, vs_InvalidNumber_init, fl_InvalidNumber_init⟩, ⟨_, _, _, cell_InvalidNumber_init⟩, ⟨_, cd_InvalidNumber_init⟩, PySem.W.mg_none_of X G z_super, top_super, st_thirdparty⟩
  k_InvalidNumber_init := k_InvalidNumber_init
  a_bag := A_bag
  fd_bag := PySem.W.fnOf "_law_bag" "_law_bag" (defArgs s_bag) (defBody s_bag) (defScope s_bag) .none kV_bag doc_bag pm_bag an_bag cdv_bag ct_bag
  F_bag := fun_mk (st := s_bag) l_bag c_bag k_bag
  b_bag := (fun_mk (st := s_bag) l_bag c_bag k_bag).binds (ps := P_bag) fun _ _ _ _ _ _ us hl => match us, hl with | [_], _ => rfl
  k_bag := k_bag
  m_bag := PySem.W.mg_of X G a_bag
  a_draw := A_draw
  fd_draw := PySem.W.fnOf "_law_draw" "_law_draw" (defArgs s_draw) (defBody s_draw) (defScope s_draw) .none kV_draw doc_draw pm_draw an_draw cdv_draw ct_draw
  F_draw := fun_mk (st := s_draw) l_draw c_draw k_draw
  b_draw := (fun_mk (st := s_draw) l_draw c_draw k_draw).binds (ps := P_draw) fun _ _ _ _ _ _ us hl => match us, hl with | [_, _], _ => rfl
  k_draw := k_draw
  m_draw := PySem.W.mg_of X G a_draw
  a_of := A_of
  fd_of := PySem.W.fnOf "_law_of" "_law_of" (defArgs s_of) (defBody s_of) (defScope s_of) .none kV_of doc_of pm_of an_of cdv_of ct_of
  F_of := fun_mk (st := s_of) l_of c_of k_of
  b_of := (fun_mk (st := s_of) l_of c_of k_of).binds (ps := P_of) fun _ _ _ _ _ _ us hl => match us, hl with | [_, _], _ => rfl
  k_of := k_of
  m_of := PySem.W.mg_of X G a_of
  a_odd := A_odd
  fd_odd := PySem.W.fnOf "_law_odd" "_law_odd" (defArgs s_odd) (defBody s_odd) (defScope s_odd) .none kV_odd doc_odd pm_odd an_odd cdv_odd ct_odd
  F_odd := fun_mk (st := s_odd) l_odd c_odd k_odd
  b_odd := (fun_mk (st := s_odd) l_odd c_odd k_odd).binds (ps := P_odd) fun _ _ _ _ _ _ us hl => match us, hl with | [_], _ => rfl
  k_odd := k_odd
  m_odd := PySem.W.mg_of X G a_odd
  a_signs := A_signs
  fd_signs := PySem.W.fnOf "_law_signs" "_law_signs" (defArgs s_signs) (defBody s_signs) (defScope s_signs) .none kV_signs doc_signs pm_signs an_signs cdv_signs ct_signs
  F_signs := fun_mk (st := s_signs) l_signs c_signs k_signs
  b_signs := (fun_mk (st := s_signs) l_signs c_signs k_signs).binds (ps := P_signs) fun _ _ _ _ _ _ us hl => match us, hl with | [], _ => rfl
  k_signs := k_signs
  m_signs := PySem.W.mg_of X G a_signs
  a_word := A_word
  fd_word := PySem.W.fnOf "_law_word" "_law_word" (defArgs s_word) (defBody s_word) (defScope s_word) .none kV_word doc_word pm_word an_word cdv_word ct_word
  F_word := fun_mk (st := s_word) l_word c_word k_word
  b_word := (fun_mk (st := s_word) l_word c_word k_word).binds (ps := P_word) fun _ _ _ _ _ _ us hl => match us, hl with | [_], _ => rfl
  k_word := k_word
  m_word := PySem.W.mg_of X G a_word
  a_value := A_value
  fd_value := PySem.W.fnOf "_law_value" "_law_value" (defArgs s_value) (defBody s_value) (defScope s_value) .none kV_value doc_value pm_value an_value cdv_value ct_value
  F_value := fun_mk (st := s_value) l_value c_value k_value
  b_value := (fun_mk (st := s_value) l_value c_value k_value).binds (ps := P_value) fun _ _ _ _ _ _ us hl => match us, hl with | [_], _ => rfl
  k_value := k_value
  m_value := PySem.W.mg_of X G a_value
  a_named := A_named
  fd_named := PySem.W.fnOf "_law_named" "_law_named" (defArgs s_named) (defBody s_named) (defScope s_named) .none kV_named doc_named pm_named an_named cdv_named ct_named
  F_named := fun_mk (st := s_named) l_named c_named k_named
  b_named := (fun_mk (st := s_named) l_named c_named k_named).binds (ps := P_named) fun _ _ _ _ _ _ us hl => match us, hl with | [_], _ => rfl
  k_named := k_named
  m_named := PySem.W.mg_of X G a_named
  a_near := A_near
  fd_near := PySem.W.fnOf "_law_near" "_law_near" (defArgs s_near) (defBody s_near) (defScope s_near) .none kV_near doc_near pm_near an_near cdv_near ct_near
  F_near := fun_mk (st := s_near) l_near c_near k_near
  b_near := (fun_mk (st := s_near) l_near c_near k_near).binds (ps := P_near) fun _ _ _ _ _ _ us hl => match us, hl with | [_, _, _], _ => rfl
  k_near := k_near
  m_near := PySem.W.mg_of X G a_near
  a_numbered := A_numbered
  fd_numbered := PySem.W.fnOf "_law_numbered" "_law_numbered" (defArgs s_numbered) (defBody s_numbered) (defScope s_numbered) .none kV_numbered doc_numbered pm_numbered an_numbered cdv_numbered ct_numbered
  F_numbered := fun_mk (st := s_numbered) l_numbered c_numbered k_numbered
  b_numbered := (fun_mk (st := s_numbered) l_numbered c_numbered k_numbered).binds (ps := P_numbered) fun _ _ _ _ _ _ us hl => match us, hl with | [_, _, _], _ => rfl
  k_numbered := k_numbered
  m_numbered := PySem.W.mg_of X G a_numbered
  a_bounds := A_bounds
  fd_bounds := PySem.W.fnOf "_law_bounds" "_law_bounds" (defArgs s_bounds) (defBody s_bounds) (defScope s_bounds) .none kV_bounds doc_bounds pm_bounds an_bounds cdv_bounds ct_bounds
  F_bounds := fun_mk (st := s_bounds) l_bounds c_bounds k_bounds
  b_bounds := (fun_mk (st := s_bounds) l_bounds c_bounds k_bounds).binds (ps := P_bounds) fun _ _ _ _ _ _ us hl => match us, hl with | [_], _ => rfl
  k_bounds := k_bounds
  m_bounds := PySem.W.mg_of X G a_bounds
  a_is := A_is
  fd_is := PySem.W.fnOf "_law_is" "_law_is" (defArgs s_is) (defBody s_is) (defScope s_is) .none kV_is doc_is pm_is an_is cdv_is ct_is
  F_is := fun_mk (st := s_is) l_is c_is k_is
  b_is := (fun_mk (st := s_is) l_is c_is k_is).binds (ps := P_is) fun _ _ _ _ _ _ us hl => match us, hl with | [_, _], _ => rfl
  k_is := k_is
  m_is := PySem.W.mg_of X G a_is
  a_law := A_law
  fd_law := PySem.W.fnOf "law" "law" (defArgs s_law) (defBody s_law) (defScope s_law) .none kV_law doc_law pm_law an_law cdv_law ct_law
  F_law := fun_mk (st := s_law) l_law c_law k_law
  b_law := (fun_mk (st := s_law) l_law c_law k_law).binds (ps := P_law) fun _ _ _ _ _ _ us hl => match us, hl with | [_], _ => rfl
  k_law := k_law
  m_law := PySem.W.mg_of X G a_law
  n_int := PySem.W.mg_none_of X G z_int
  n_len := PySem.W.mg_none_of X G z_len
  n_list := PySem.W.mg_none_of X G z_list
  n_isinstance := PySem.W.mg_none_of X G z_isinstance
  n_bool := PySem.W.mg_none_of X G z_bool
  n_str := PySem.W.mg_none_of X G z_str
  n_all := PySem.W.mg_none_of X G z_all
  n_zip := PySem.W.mg_none_of X G z_zip
  n_ord := PySem.W.mg_none_of X G z_ord
  n_range := PySem.W.mg_none_of X G z_range
  n_tuple := PySem.W.mg_none_of X G z_tuple
  n_min := PySem.W.mg_none_of X G z_min
  n_abs := PySem.W.mg_none_of X G z_abs
  n_max := PySem.W.mg_none_of X G z_max
  n_super := PySem.W.mg_none_of X G z_super
  t_LETTERS := t_LETTERS
  m_LETTERS := PySem.W.mg_of X G ac_LETTERS
  r_LETTERS := ⟨_, rfl⟩
  t_DIGITS := t_DIGITS
  m_DIGITS := PySem.W.mg_of X G ac_DIGITS
  r_DIGITS := ⟨_, rfl⟩
  kb_is_name_value := ⟨fun s us ws _ h => by (rcases us with _ | ⟨u, us⟩ <;> rcases ws with _ | ⟨w0, _ | ⟨z, ws⟩⟩ <;> first | exact .of_eq rfl | exact absurd h (fun z => Nat.noConfusion (show (0 : Nat) = Nat.succ _ from z))), fun r1 r2 => by (cases r1 with | nil => (cases r2 with | nil => exact .nil | cons h0 r2 => (cases r2 with | nil => exact (.cons h0 .nil) | cons _ _ => exact .nil)) | cons _ _ => exact .nil)⟩
  kb_is_number_value_most_least := ⟨fun s us ws _ h => by (rcases us with _ | ⟨u, us⟩ <;> rcases ws with _ | ⟨w0, _ | ⟨w1, _ | ⟨w2, _ | ⟨z, ws⟩⟩⟩⟩ <;> first | exact .of_eq rfl | exact absurd h (fun z => Nat.noConfusion (show (0 : Nat) = Nat.succ _ from z))), fun r1 r2 => by (cases r1 with | nil => (cases r2 with | nil => exact .nil | cons h0 r2 => (cases r2 with | nil => exact .nil | cons h1 r2 => (cases r2 with | nil => exact .nil | cons h2 r2 => (cases r2 with | nil => exact (.cons h0 (.cons h2 (.cons h1 .nil))) | cons _ _ => exact .nil)))) | cons _ _ => exact .nil)⟩
  oex_InvalidNumber := ⟨⟨_, _, _, _, _, _, _, _, _, _, _, _, _, _, _, el_InvalidNumber, rfl⟩, es_InvalidNumber, eb_InvalidNumber, et_InvalidNumber, ek_InvalidNumber⟩
  se_InvalidNumber := ⟨⟨⟨_, _, _, _, _, _, _, _, _, _, _, _, _, _, _, el_InvalidNumber, rfl⟩, es_InvalidNumber, eb_InvalidNumber, et_InvalidNumber, ek_InvalidNumber⟩, em_InvalidNumber, eu_InvalidNumber, ev_InvalidNumber⟩
  xf_InvalidNumber := ⟨ega_InvalidNumber, egg_InvalidNumber, eb_InvalidNumber, ehd_InvalidNumber⟩
  ii_InvalidNumber := a_InvalidNumber_init
  ti_InvalidNumber := eti_InvalidNumber
  no_InvalidNumber_value := no_InvalidNumber_value
  no_InvalidNumber_code := no_InvalidNumber_code
  isx_InvalidNumber := ⟨iy_InvalidNumber, ega_InvalidNumber, egg_InvalidNumber, eb_InvalidNumber, ih_InvalidNumber, in_InvalidNumber, ik_InvalidNumber, im_InvalidNumber⟩
  ikt_InvalidNumber_int := ikt_InvalidNumber_int
  ikt_InvalidNumber_bool := ikt_InvalidNumber_bool
  ikt_InvalidNumber_str := ikt_InvalidNumber_str
theorem all_mk {w : World} {K : PySem.W.Frag} {h : Heap} {mg : Str → Option Value} {fa : Addr} (X : K.In h) (G : h.Ns mainGlobals mg) (hfa : mg "law" = some (.ref fa)) {C_SureletError : Addr} {C_InvalidNumber : Addr} {A_is_number : Addr} {oc_is_number kV_is_number doc_is_number pm_is_number ct_is_number : Value} {od_is_number an_is_number : Option Addr} {sl_is_number : Array (Option Value)} {cdv_is_number : Value} {A_is_name : Addr} {oc_is_name kV_is_name doc_is_name pm_is_name ct_is_name : Value} {od_is_name an_is_name : Option Addr} {sl_is_name : Array (Option Value)} {cdv_is_name : Value} {A_InvalidNumber_init : Addr} {oc_InvalidNumber_init kV_InvalidNumber_init doc_InvalidNumber_init pm_InvalidNumber_init ct_InvalidNumber_init : Value} {od_InvalidNumber_init an_InvalidNumber_init : Option Addr} {sl_InvalidNumber_init : Array (Option Value)} {cc_InvalidNumber_init cda_InvalidNumber_init : Addr} {cl_InvalidNumber_init ccl_InvalidNumber_init : Value} {cld_InvalidNumber_init cdd_InvalidNumber_init : Option Addr} {csl_InvalidNumber_init ccs_InvalidNumber_init : Array (Option Value)} {vs_InvalidNumber_init : Array Value} {file_InvalidNumber_init : Str} {tf_InvalidNumber_init : Tok} {cd_InvalidNumber_init : PySem.ClassData} {A_bag : Addr} {oc_bag kV_bag doc_bag pm_bag ct_bag : Value} {od_bag an_bag : Option Addr} {sl_bag : Array (Option Value)} {cdv_bag : Value} {A_draw : Addr} {oc_draw kV_draw doc_draw pm_draw ct_draw : Value} {od_draw an_draw : Option Addr} {sl_draw : Array (Option Value)} {cdv_draw : Value} {A_of : Addr} {oc_of kV_of doc_of pm_of ct_of : Value} {od_of an_of : Option Addr} {sl_of : Array (Option Value)} {cdv_of : Value} {A_odd : Addr} {oc_odd kV_odd doc_odd pm_odd ct_odd : Value} {od_odd an_odd : Option Addr} {sl_odd : Array (Option Value)} {cdv_odd : Value} {A_signs : Addr} {oc_signs kV_signs doc_signs pm_signs ct_signs : Value} {od_signs an_signs : Option Addr} {sl_signs : Array (Option Value)} {cdv_signs : Value} {A_word : Addr} {oc_word kV_word doc_word pm_word ct_word : Value} {od_word an_word : Option Addr} {sl_word : Array (Option Value)} {cdv_word : Value} {A_value : Addr} {oc_value kV_value doc_value pm_value ct_value : Value} {od_value an_value : Option Addr} {sl_value : Array (Option Value)} {cdv_value : Value} {A_named : Addr} {oc_named kV_named doc_named pm_named ct_named : Value} {od_named an_named : Option Addr} {sl_named : Array (Option Value)} {cdv_named : Value} {A_near : Addr} {oc_near kV_near doc_near pm_near ct_near : Value} {od_near an_near : Option Addr} {sl_near : Array (Option Value)} {cdv_near : Value} {A_numbered : Addr} {oc_numbered kV_numbered doc_numbered pm_numbered ct_numbered : Value} {od_numbered an_numbered : Option Addr} {sl_numbered : Array (Option Value)} {cdv_numbered : Value} {A_bounds : Addr} {oc_bounds kV_bounds doc_bounds pm_bounds ct_bounds : Value} {od_bounds an_bounds : Option Addr} {sl_bounds : Array (Option Value)} {cdv_bounds : Value} {A_is : Addr} {oc_is kV_is doc_is pm_is ct_is : Value} {od_is an_is : Option Addr} {sl_is : Array (Option Value)} {cdv_is : Value} {A_law : Addr} {oc_law kV_law doc_law pm_law ct_law : Value} {od_law an_law : Option Addr} {sl_law : Array (Option Value)} {cdv_law : Value} {t_LETTERS : Tok} {t_DIGITS : Tok} {nm_InvalidNumber q_InvalidNumber : Str} {N_InvalidNumber : Addr} {bs_InvalidNumber : List Value} {sn_InvalidNumber : List Str} {sb_InvalidNumber : List Value} {ab_InvalidNumber : Bool} {co_InvalidNumber : Option Bool} {dd_InvalidNumber : Option Addr} {e0_InvalidNumber e1_InvalidNumber e2_InvalidNumber e3_InvalidNumber e5_InvalidNumber : Option Value}
    (aC_SureletError : PySem.W.nsIn K mainGlobals "SureletError" = some (some (.ref C_SureletError))) (aC_InvalidNumber : PySem.W.nsIn K mainGlobals "InvalidNumber" = some (some (.ref C_InvalidNumber))) (a_is_number : PySem.W.nsIn K mainGlobals "is_number" = some (some (.ref A_is_number))) (l_is_number : K.lookup A_is_number = some ⟨oc_is_number, od_is_number, .func (PySem.W.fnOf "is_number" "is_number" (defArgs s_is_number) (defBody s_is_number) (defScope s_is_number) .none kV_is_number doc_is_number pm_is_number an_is_number cdv_is_number ct_is_number), sl_is_number⟩) (c_is_number : PySem.W.codeIn K cdv_is_number "is_number" = true) (k_is_number : PySem.W.keepIn K (.ref A_is_number) = true) (a_is_name : PySem.W.nsIn K mainGlobals "is_name" = some (some (.ref A_is_name))) (l_is_name : K.lookup A_is_name = some ⟨oc_is_name, od_is_name, .func (PySem.W.fnOf "is_name" "is_name" (defArgs s_is_name) (defBody s_is_name) (defScope s_is_name) .none kV_is_name doc_is_name pm_is_name an_is_name cdv_is_name ct_is_name), sl_is_name⟩) (c_is_name : PySem.W.codeIn K cdv_is_name "is_name" = true) (k_is_name : PySem.W.keepIn K (.ref A_is_name) = true) (a_InvalidNumber_init : PySem.W.findIn K (.ref C_InvalidNumber) "__init__" = some (some (.ref A_InvalidNumber_init))) (i_InvalidNumber_init : PySem.W.isFn K (.ref A_InvalidNumber_init) = true) (l_InvalidNumber_init : K.lookup A_InvalidNumber_init = some ⟨oc_InvalidNumber_init, od_InvalidNumber_init, .func (PySem.W.fnX "__init__" "InvalidNumber.__init__" (defArgs s_InvalidNumber_init) (defBody s_InvalidNumber_init) (defScope s_InvalidNumber_init) [("__class__", cc_InvalidNumber_init)] .none kV_InvalidNumber_init doc_InvalidNumber_init pm_InvalidNumber_init an_InvalidNumber_init (.ref cda_InvalidNumber_init) ct_InvalidNumber_init), sl_InvalidNumber_init⟩) (c_InvalidNumber_init : PySem.W.codeIn K (.ref cda_InvalidNumber_init) "InvalidNumber.__init__" = true) (k_InvalidNumber_init : PySem.W.keepIn K (.ref A_InvalidNumber_init) = true) (cell_InvalidNumber_init : K.lookup cc_InvalidNumber_init = some ⟨cl_InvalidNumber_init, cld_InvalidNumber_init, .cell (some (.ref C_InvalidNumber)), csl_InvalidNumber_init⟩) (code_InvalidNumber_init : K.lookup cda_InvalidNumber_init = some ⟨ccl_InvalidNumber_init, cdd_InvalidNumber_init, .fields vs_InvalidNumber_init, ccs_InvalidNumber_init⟩) (vs_InvalidNumber_init : vs_InvalidNumber_init[2]? = some (.str file_InvalidNumber_init tf_InvalidNumber_init)) (fl_InvalidNumber_init : ((P.main.file : Str) == file_InvalidNumber_init) = true) (cd_InvalidNumber_init : PySem.W.clsIn K C_InvalidNumber = some cd_InvalidNumber_init) (a_bag : PySem.W.nsIn K mainGlobals "_law_bag" = some (some (.ref A_bag))) (l_bag : K.lookup A_bag = some ⟨oc_bag, od_bag, .func (PySem.W.fnOf "_law_bag" "_law_bag" (defArgs s_bag) (defBody s_bag) (defScope s_bag) .none kV_bag doc_bag pm_bag an_bag cdv_bag ct_bag), sl_bag⟩) (c_bag : PySem.W.codeIn K cdv_bag "_law_bag" = true) (k_bag : PySem.W.keepIn K (.ref A_bag) = true) (a_draw : PySem.W.nsIn K mainGlobals "_law_draw" = some (some (.ref A_draw))) (l_draw : K.lookup A_draw = some ⟨oc_draw, od_draw, .func (PySem.W.fnOf "_law_draw" "_law_draw" (defArgs s_draw) (defBody s_draw) (defScope s_draw) .none kV_draw doc_draw pm_draw an_draw cdv_draw ct_draw), sl_draw⟩) (c_draw : PySem.W.codeIn K cdv_draw "_law_draw" = true) (k_draw : PySem.W.keepIn K (.ref A_draw) = true) (a_of : PySem.W.nsIn K mainGlobals "_law_of" = some (some (.ref A_of))) (l_of : K.lookup A_of = some ⟨oc_of, od_of, .func (PySem.W.fnOf "_law_of" "_law_of" (defArgs s_of) (defBody s_of) (defScope s_of) .none kV_of doc_of pm_of an_of cdv_of ct_of), sl_of⟩) (c_of : PySem.W.codeIn K cdv_of "_law_of" = true) (k_of : PySem.W.keepIn K (.ref A_of) = true) (a_odd : PySem.W.nsIn K mainGlobals "_law_odd" = some (some (.ref A_odd))) (l_odd : K.lookup A_odd = some ⟨oc_odd, od_odd, .func (PySem.W.fnOf "_law_odd" "_law_odd" (defArgs s_odd) (defBody s_odd) (defScope s_odd) .none kV_odd doc_odd pm_odd an_odd cdv_odd ct_odd), sl_odd⟩) (c_odd : PySem.W.codeIn K cdv_odd "_law_odd" = true) (k_odd : PySem.W.keepIn K (.ref A_odd) = true) (a_signs : PySem.W.nsIn K mainGlobals "_law_signs" = some (some (.ref A_signs))) (l_signs : K.lookup A_signs = some ⟨oc_signs, od_signs, .func (PySem.W.fnOf "_law_signs" "_law_signs" (defArgs s_signs) (defBody s_signs) (defScope s_signs) .none kV_signs doc_signs pm_signs an_signs cdv_signs ct_signs), sl_signs⟩) (c_signs : PySem.W.codeIn K cdv_signs "_law_signs" = true) (k_signs : PySem.W.keepIn K (.ref A_signs) = true) (a_word : PySem.W.nsIn K mainGlobals "_law_word" = some (some (.ref A_word))) (l_word : K.lookup A_word = some ⟨oc_word, od_word, .func (PySem.W.fnOf "_law_word" "_law_word" (defArgs s_word) (defBody s_word) (defScope s_word) .none kV_word doc_word pm_word an_word cdv_word ct_word), sl_word⟩) (c_word : PySem.W.codeIn K cdv_word "_law_word" = true) (k_word : PySem.W.keepIn K (.ref A_word) = true) (a_value : PySem.W.nsIn K mainGlobals "_law_value" = some (some (.ref A_value))) (l_value : K.lookup A_value = some ⟨oc_value, od_value, .func (PySem.W.fnOf "_law_value" "_law_value" (defArgs s_value) (defBody s_value) (defScope s_value) .none kV_value doc_value pm_value an_value cdv_value ct_value), sl_value⟩) (c_value : PySem.W.codeIn K cdv_value "_law_value" = true) (k_value : PySem.W.keepIn K (.ref A_value) = true) (a_named : PySem.W.nsIn K mainGlobals "_law_named" = some (some (.ref A_named))) (l_named : K.lookup A_named = some ⟨oc_named, od_named, .func (PySem.W.fnOf "_law_named" "_law_named" (defArgs s_named) (defBody s_named) (defScope s_named) .none kV_named doc_named pm_named an_named cdv_named ct_named), sl_named⟩) (c_named : PySem.W.codeIn K cdv_named "_law_named" = true) (k_named : PySem.W.keepIn K (.ref A_named) = true) (a_near : PySem.W.nsIn K mainGlobals "_law_near" = some (some (.ref A_near))) (l_near : K.lookup A_near = some ⟨oc_near, od_near, .func (PySem.W.fnOf "_law_near" "_law_near" (defArgs s_near) (defBody s_near) (defScope s_near) .none kV_near doc_near pm_near an_near cdv_near ct_near), sl_near⟩) (c_near : PySem.W.codeIn K cdv_near "_law_near" = true) (k_near : PySem.W.keepIn K (.ref A_near) = true) (a_numbered : PySem.W.nsIn K mainGlobals "_law_numbered" = some (some (.ref A_numbered))) (l_numbered : K.lookup A_numbered = some ⟨oc_numbered, od_numbered, .func (PySem.W.fnOf "_law_numbered" "_law_numbered" (defArgs s_numbered) (defBody s_numbered) (defScope s_numbered) .none kV_numbered doc_numbered pm_numbered an_numbered cdv_numbered ct_numbered), sl_numbered⟩) (c_numbered : PySem.W.codeIn K cdv_numbered "_law_numbered" = true) (k_numbered : PySem.W.keepIn K (.ref A_numbered) = true) (a_bounds : PySem.W.nsIn K mainGlobals "_law_bounds" = some (some (.ref A_bounds))) (l_bounds : K.lookup A_bounds = some ⟨oc_bounds, od_bounds, .func (PySem.W.fnOf "_law_bounds" "_law_bounds" (defArgs s_bounds) (defBody s_bounds) (defScope s_bounds) .none kV_bounds doc_bounds pm_bounds an_bounds cdv_bounds ct_bounds), sl_bounds⟩) (c_bounds : PySem.W.codeIn K cdv_bounds "_law_bounds" = true) (k_bounds : PySem.W.keepIn K (.ref A_bounds) = true) (a_is : PySem.W.nsIn K mainGlobals "_law_is" = some (some (.ref A_is))) (l_is : K.lookup A_is = some ⟨oc_is, od_is, .func (PySem.W.fnOf "_law_is" "_law_is" (defArgs s_is) (defBody s_is) (defScope s_is) .none kV_is doc_is pm_is an_is cdv_is ct_is), sl_is⟩) (c_is : PySem.W.codeIn K cdv_is "_law_is" = true) (k_is : PySem.W.keepIn K (.ref A_is) = true) (a_law : PySem.W.nsIn K mainGlobals "law" = some (some (.ref A_law))) (l_law : K.lookup A_law = some ⟨oc_law, od_law, .func (PySem.W.fnOf "law" "law" (defArgs s_law) (defBody s_law) (defScope s_law) .none kV_law doc_law pm_law an_law cdv_law ct_law), sl_law⟩) (c_law : PySem.W.codeIn K cdv_law "law" = true) (k_law : PySem.W.keepIn K (.ref A_law) = true) (top_super : (P.main.scope.names.lookup ("super" : Str)).isSome = false) (st_thirdparty : PySem.W.nsIn K cStatics "thirdparty.any" = some none) (z_int : PySem.W.nsIn K mainGlobals "int" = some none) (z_len : PySem.W.nsIn K mainGlobals "len" = some none) (z_list : PySem.W.nsIn K mainGlobals "list" = some none) (z_isinstance : PySem.W.nsIn K mainGlobals "isinstance" = some none) (z_bool : PySem.W.nsIn K mainGlobals "bool" = some none) (z_str : PySem.W.nsIn K mainGlobals "str" = some none) (z_all : PySem.W.nsIn K mainGlobals "all" = some none) (z_zip : PySem.W.nsIn K mainGlobals "zip" = some none) (z_ord : PySem.W.nsIn K mainGlobals "ord" = some none) (z_range : PySem.W.nsIn K mainGlobals "range" = some none) (z_tuple : PySem.W.nsIn K mainGlobals "tuple" = some none) (z_min : PySem.W.nsIn K mainGlobals "min" = some none) (z_abs : PySem.W.nsIn K mainGlobals "abs" = some none) (z_max : PySem.W.nsIn K mainGlobals "max" = some none) (z_super : PySem.W.nsIn K mainGlobals "super" = some none) (ac_LETTERS : PySem.W.nsIn K mainGlobals "LETTERS" = some (some (.str "abcdefghijklmnopqrstuvwxyz" t_LETTERS))) (ac_DIGITS : PySem.W.nsIn K mainGlobals "DIGITS" = some (some (.str "0123456789" t_DIGITS))) (el_InvalidNumber : K.lookup C_InvalidNumber = some (excClassObj nm_InvalidNumber q_InvalidNumber C_InvalidNumber N_InvalidNumber bs_InvalidNumber [.ref C_SureletError, .type "ValueError", .type "Exception", .type "BaseException", .type "object"] true sn_InvalidNumber sb_InvalidNumber ab_InvalidNumber co_InvalidNumber dd_InvalidNumber e0_InvalidNumber e1_InvalidNumber e2_InvalidNumber e3_InvalidNumber e5_InvalidNumber "ValueError.__new__")) (es_InvalidNumber : PySem.W.findIn K (.ref C_InvalidNumber) "__setattr__" = some (some (.builtin "object.__setattr__"))) (eb_InvalidNumber : PySem.W.subIn K (.ref C_InvalidNumber) (.type "BaseException") = some true) (et_InvalidNumber : PySem.W.typeIn K (.ref C_InvalidNumber) = some (.type "type")) (ek_InvalidNumber : PySem.W.keepIn K (.ref C_InvalidNumber) = true) (em_InvalidNumber : PySem.W.mroIn K C_InvalidNumber (.ref C_InvalidNumber) = some true) (eu_InvalidNumber : PySem.W.ks_superIn K C_InvalidNumber C_InvalidNumber "__init__" = some (some (.builtin "ValueError.__init__"))) (ev_InvalidNumber : PySem.W.subIn K (.ref C_InvalidNumber) (.type "ValueError") = some true) (ega_InvalidNumber : PySem.W.findIn K (.ref C_InvalidNumber) "__getattribute__" = some (some (.builtin "BaseException.__getattribute__"))) (egg_InvalidNumber : PySem.W.findIn K (.ref C_InvalidNumber) "__getattr__" = some none) (ehd_InvalidNumber : PySem.W.hasDictIn K C_InvalidNumber = true) (eti_InvalidNumber : PySem.W.typeIn K (.ref A_InvalidNumber_init) = some (.type "function")) (no_InvalidNumber_value : PySem.W.findIn K (.ref C_InvalidNumber) "value" = some none) (no_InvalidNumber_code : PySem.W.findIn K (.ref C_InvalidNumber) "code" = some none) (iy_InvalidNumber : PySem.W.isClsIn K C_InvalidNumber = true) (ih_InvalidNumber : PySem.W.findIn K (.ref C_InvalidNumber) "__class__" = some (some (.builtin "object.__class__"))) (in_InvalidNumber : PySem.W.specialIn K (.builtin "object.__class__") "__get__" = some (some (.builtin "getset_descriptor.__get__"))) (ik_InvalidNumber : PySem.W.takesIn K (.builtin "object.__class__") = some true) (im_InvalidNumber : PySem.W.mroIn K C_InvalidNumber (.type "object") = some true) (ikt_InvalidNumber_int : PySem.W.kitOne K (.ref C_InvalidNumber) (.type "int") = some false) (ikt_InvalidNumber_bool : PySem.W.kitOne K (.ref C_InvalidNumber) (.type "bool") = some false) (ikt_InvalidNumber_str : PySem.W.kitOne K (.ref C_InvalidNumber) (.type "str") = some false) :
    ∃ fd : FuncData, (∀ (s : Shared) (v : Value), BindsTo s fd ⟨[v], []⟩ [("_law_script", v)]) ∧ ∀ base : Heap, K.In base → base.Ns mainGlobals mg → FnOk P w K mg base CX0 20 fa fd ["_law_script"] (spLaw K) := by
  have e := hfa.symm.trans (PySem.W.mg_of X G a_law)
  cases e
  exact ⟨_, fun s v => .of_eq rfl, fun base _ _ => ok_law (tx_mk X G aC_SureletError aC_InvalidNumber a_is_number l_is_number c_is_number k_is_number a_is_name l_is_name c_is_name k_is_name a_InvalidNumber_init i_InvalidNumber_init l_InvalidNumber_init c_InvalidNumber_init k_InvalidNumber_init cell_InvalidNumber_init code_InvalidNumber_init vs_InvalidNumber_init fl_InvalidNumber_init cd_InvalidNumber_init a_bag l_bag c_bag k_bag a_draw l_draw c_draw k_draw a_of l_of c_of k_of a_odd l_odd c_odd k_odd a_signs l_signs c_signs k_signs a_word l_word c_word k_word a_value l_value c_value k_value a_named l_named c_named k_named a_near l_near c_near k_near a_numbered l_numbered c_numbered k_numbered a_bounds l_bounds c_bounds k_bounds a_is l_is c_is k_is a_law l_law c_law k_law top_super st_thirdparty z_int z_len z_list z_isinstance z_bool z_str z_all z_zip z_ord z_range z_tuple z_min z_abs z_max z_super ac_LETTERS ac_DIGITS el_InvalidNumber es_InvalidNumber eb_InvalidNumber et_InvalidNumber ek_InvalidNumber em_InvalidNumber eu_InvalidNumber ev_InvalidNumber ega_InvalidNumber egg_InvalidNumber ehd_InvalidNumber eti_InvalidNumber no_InvalidNumber_value no_InvalidNumber_code iy_InvalidNumber ih_InvalidNumber in_InvalidNumber ik_InvalidNumber im_InvalidNumber ikt_InvalidNumber_int ikt_InvalidNumber_bool ikt_InvalidNumber_str)⟩
theorem walk {q : Program} {loose : List Str} {XP : (Str → Option Value) → Heap → Prop} {YP : World → Heap → Prop} {d : DefRec} {K : Params → PySem.W.Frag} (hn : PySem.Challenge.rw_surelet_k01_words_judged.most = some 63) (hdf : d.params.defaults = [])
    (hY : ∀ (w : World) (h : Heap), YP w h → (K w.params).In h)
    (F : ∀ (w : World) (mg : Str → Option Value) (fa : Addr) (h : Heap), (K w.params).In h → h.Ns mainGlobals mg → mg d.name = some (.ref fa) →
      ∃ fd : FuncData, (∀ (s : Shared) (u : Value), BindsTo s fd ⟨[u], []⟩ [("_law_script", u)]) ∧ ∀ base : Heap, (K w.params).In base → base.Ns mainGlobals mg → FnOk P w (K w.params) mg base CX0 20 fa fd ["_law_script"] (spLaw (K w.params))) :
    PySem.W.WalkO q loose XP YP PySem.Challenge.rw_surelet_k01_words_judged.row.toRowW d [] (fun f vs => PySem.call f vs) :=
  L2.walk_of (l := PySem.Challenge.rw_surelet_k01_words_judged) (n := 63) (k := 20) (x := "_law_script") (CX := fun _ => CX0) (sp := fun w => spLaw (K w.params)) hn (by decide) hdf ⟨rfl, by decide, by decide⟩ hY F (fun _ _ a ns hl _ hS => ⟨a, ns, rfl, hS, hl, fun _ => rfl⟩) fun _ _ _ _ _ z => z
end Law

open PySem PySem.W PyProof.Rows in
set_option maxRecDepth 100000 in
set_option maxHeartbeats 0 in
theorem PySem.Challenge.cw_surelet_k01_words_judged_holds : PySem.Challenge.rw_surelet_k01_words_judged.Holds := by
  w_on; o_law; k_head; (case hw => w_witness2)
  k_fill
  refine Law.walk rfl rfl (fun w h Y => PySem.W.kIn_of Y) ?F
  case F =>
    intro w mg fa h KX G hmg
    refine' Law.all_mk KX G hmg ?aC_SureletError ?aC_InvalidNumber ?a_is_number ?l_is_number ?c_is_number ?k_is_number ?a_is_name ?l_is_name ?c_is_name ?k_is_name ?a_InvalidNumber_init ?i_InvalidNumber_init ?l_InvalidNumber_init ?c_InvalidNumber_init ?k_InvalidNumber_init ?cell_InvalidNumber_init ?code_InvalidNumber_init ?vs_InvalidNumber_init ?fl_InvalidNumber_init ?cd_InvalidNumber_init ?a_bag ?l_bag ?c_bag ?k_bag ?a_draw ?l_draw ?c_draw ?k_draw ?a_of ?l_of ?c_of ?k_of ?a_odd ?l_odd ?c_odd ?k_odd ?a_signs ?l_signs ?c_signs ?k_signs ?a_word ?l_word ?c_word ?k_word ?a_value ?l_value ?c_value ?k_value ?a_named ?l_named ?c_named ?k_named ?a_near ?l_near ?c_near ?k_near ?a_numbered ?l_numbered ?c_numbered ?k_numbered ?a_bounds ?l_bounds ?c_bounds ?k_bounds ?a_is ?l_is ?c_is ?k_is ?a_law ?l_law ?c_law ?k_law ?top_super ?st_thirdparty ?z_int ?z_len ?z_list ?z_isinstance ?z_bool ?z_str ?z_all ?z_zip ?z_ord ?z_range ?z_tuple ?z_min ?z_abs ?z_max ?z_super ?ac_LETTERS ?ac_DIGITS ?el_InvalidNumber ?es_InvalidNumber ?eb_InvalidNumber ?et_InvalidNumber ?ek_InvalidNumber ?em_InvalidNumber ?eu_InvalidNumber ?ev_InvalidNumber ?ega_InvalidNumber ?egg_InvalidNumber ?ehd_InvalidNumber ?eti_InvalidNumber ?no_InvalidNumber_value ?no_InvalidNumber_code ?iy_InvalidNumber ?ih_InvalidNumber ?in_InvalidNumber ?ik_InvalidNumber ?im_InvalidNumber ?ikt_InvalidNumber_int ?ikt_InvalidNumber_bool ?ikt_InvalidNumber_str
    (case aC_SureletError => k_is)
    (case aC_InvalidNumber => k_is)
    (case a_is_number => k_is)
    (case l_is_number => k_is)
    (case c_is_number => k_is)
    (case k_is_number => k_is)
    (case a_is_name => k_is)
    (case l_is_name => k_is)
    (case c_is_name => k_is)
    (case k_is_name => k_is)
    (case a_InvalidNumber_init => k_is)
    (case i_InvalidNumber_init => k_is)
    (case l_InvalidNumber_init => k_is)
    (case c_InvalidNumber_init => k_is)
    (case k_InvalidNumber_init => k_is)
    (case cell_InvalidNumber_init => k_is)
    (case code_InvalidNumber_init => k_is)
    (case vs_InvalidNumber_init => exact rfl)
    (case fl_InvalidNumber_init => decide +kernel)
    (case cd_InvalidNumber_init => k_is)
    (case a_bag => k_is)
    (case l_bag => k_is)
    (case c_bag => k_is)
    (case k_bag => k_is)
    (case a_draw => k_is)
    (case l_draw => k_is)
    (case c_draw => k_is)
    (case k_draw => k_is)
    (case a_of => k_is)
    (case l_of => k_is)
    (case c_of => k_is)
    (case k_of => k_is)
    (case a_odd => k_is)
    (case l_odd => k_is)
    (case c_odd => k_is)
    (case k_odd => k_is)
    (case a_signs => k_is)
    (case l_signs => k_is)
    (case c_signs => k_is)
    (case k_signs => k_is)
    (case a_word => k_is)
    (case l_word => k_is)
    (case c_word => k_is)
    (case k_word => k_is)
    (case a_value => k_is)
    (case l_value => k_is)
    (case c_value => k_is)
    (case k_value => k_is)
    (case a_named => k_is)
    (case l_named => k_is)
    (case c_named => k_is)
    (case k_named => k_is)
    (case a_near => k_is)
    (case l_near => k_is)
    (case c_near => k_is)
    (case k_near => k_is)
    (case a_numbered => k_is)
    (case l_numbered => k_is)
    (case c_numbered => k_is)
    (case k_numbered => k_is)
    (case a_bounds => k_is)
    (case l_bounds => k_is)
    (case c_bounds => k_is)
    (case k_bounds => k_is)
    (case a_is => k_is)
    (case l_is => k_is)
    (case c_is => k_is)
    (case k_is => k_is)
    (case a_law => k_is)
    (case l_law => k_is)
    (case c_law => k_is)
    (case k_law => k_is)
    (case top_super => decide +kernel)
    (case st_thirdparty => k_is)
    (case z_int => k_is)
    (case z_len => k_is)
    (case z_list => k_is)
    (case z_isinstance => k_is)
    (case z_bool => k_is)
    (case z_str => k_is)
    (case z_all => k_is)
    (case z_zip => k_is)
    (case z_ord => k_is)
    (case z_range => k_is)
    (case z_tuple => k_is)
    (case z_min => k_is)
    (case z_abs => k_is)
    (case z_max => k_is)
    (case z_super => k_is)
    (case ac_LETTERS => k_is)
    (case ac_DIGITS => k_is)
    (case el_InvalidNumber => k_is)
    (case es_InvalidNumber => k_is)
    (case eb_InvalidNumber => k_is)
    (case et_InvalidNumber => k_is)
    (case ek_InvalidNumber => k_is)
    (case em_InvalidNumber => k_is)
    (case eu_InvalidNumber => first | ks_is | k_is)
    (case ev_InvalidNumber => k_is)
    (case ega_InvalidNumber => k_is)
    (case egg_InvalidNumber => k_is)
    (case ehd_InvalidNumber => k_is)
    (case eti_InvalidNumber => k_is)
    (case no_InvalidNumber_value => k_is)
    (case no_InvalidNumber_code => k_is)
    (case iy_InvalidNumber => k_is)
    (case ih_InvalidNumber => k_is)
    (case in_InvalidNumber => k_is)
    (case ik_InvalidNumber => k_is)
    (case im_InvalidNumber => k_is)
    (case ikt_InvalidNumber_int => first | k_is | kernel_rfl)
    (case ikt_InvalidNumber_bool => first | k_is | kernel_rfl)
    (case ikt_InvalidNumber_str => first | k_is | kernel_rfl)

