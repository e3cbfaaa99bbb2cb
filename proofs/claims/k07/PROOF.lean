import PyProof.Rows.All
import Wide.All
import OpenK.AllK
import Wide.FinOn
import HandS.ForMost
import HandS.IsInst
import HandS.FStr
import HandS.Gcd
import HandS.Style
import HandS.Nested
import HandS.Walk
import KE.KSuper
import HandS.Star
import HandS.ExcInit
import HandS.TryMany
import HandS.ExcField
import HandS.ExcOwn
import HandS.WordsExc
import KE.KExcSuper
import HandS.Zip
import HandS.More
import HandS.Small
import HandS.Text
import HandS.Flow
import PySem.Challenge.RW_surelet_k07_whole_fullest_stretches
set_option Elab.async false
set_option linter.all false
set_option maxRecDepth 100000
set_option maxHeartbeats 4000000
/-! Kit: my own layer over the hand layer: names by one check each, operations by values, the steps of a reading, the bag of a law. -/
namespace Kit
open PySem PySem.Spec PyProof.Rows L2

/-! ### names -/
def visB (sc : Scope) (x : Str) : Bool :=
  (match sc.names.lookup x with | some .local => true | some .cell => true | some .free => true | _ => false) && (!(x == ("__debug__" : Str)) && !(x == ("__classdict__" : Str)))
theorem visB_ok {sc : Scope} {x : Str} (h : visB sc x = true) : Vis sc x ∧ (x == ("__debug__" : Str)) = false ∧ (x == ("__classdict__" : Str)) = false := by
  unfold visB at h
  simp only [Bool.and_eq_true, Bool.not_eq_true'] at h
  obtain ⟨h1, h2, h3⟩ := h
  refine ⟨?_, h2, h3⟩
  unfold Vis
  split at h1
  · exact .inl (by assumption)
  · exact .inr (.inl (by assumption))
  · exact .inr (.inr (by assumption))
  · cases h1
def locB (sc : Scope) (x : Str) : Bool := match sc.names.lookup x with | some .local => true | _ => false
def celB (sc : Scope) (x : Str) : Bool := match sc.names.lookup x with | some .cell => true | _ => false
theorem locB_ok {sc : Scope} {x : Str} (h : locB sc x = true) : sc.names.lookup x = some .local := by
  unfold locB at h
  split at h
  · assumption
  · cases h
theorem celB_ok {sc : Scope} {x : Str} (h : celB sc x = true) : sc.names.lookup x = some .cell := by
  unfold celB at h
  split at h
  · assumption
  · cases h
section
variable {X : Cx}
theorem kv {i : Nat} {x : Str} {pos : Pos} (h : visB X.env.scope x = true) (hN : X.N[i]? = some x := by rfl) : PE X (.Name x pos) (tVar i) :=
  let ⟨a, b, c⟩ := visB_ok h
  pe_var hN a b c
theorem kgL {i : Nat} {x : Str} {pos : Pos} (hN : X.N.Nodup) (h : locB X.env.scope x = true) (hi : X.N[i]? = some x := by rfl) : PG X (.Name x pos) (gName i) :=
  pg_name hN hi (.inl (locB_ok h)) (.inr (locB_ok h))
theorem kgC {i : Nat} {x : Str} {pos : Pos} (hN : X.N.Nodup) (h : celB X.env.scope x = true) (hi : X.N[i]? = some x := by rfl) (hf : X.fn x = true := by rfl) : PG X (.Name x pos) (gName i) :=
  pg_name hN hi (.inr (celB_ok h)) (.inl hf)
theorem ks_setL {i : Nat} {x : Str} {e : Expr} {te : TE} {p' pos : Pos} (hN : X.N.Nodup) (h : locB X.env.scope x = true) (he : PE X e te) (hi : X.N[i]? = some x := by rfl) (hs : swapsWith e (some (.Name x p')) pos.line X.env = pure false := by rfl) :
    PS X (.Assign [.Name x p'] e pos) (tAsg te (gName i)) := ps_set hN hi (.inl (locB_ok h)) he hs (.inr (locB_ok h))
theorem ks_setC {i : Nat} {x : Str} {e : Expr} {te : TE} {p' pos : Pos} (hN : X.N.Nodup) (h : celB X.env.scope x = true) (he : PE X e te) (hi : X.N[i]? = some x := by rfl) (hs : swapsWith e (some (.Name x p')) pos.line X.env = pure false := by rfl) (hf : X.fn x = true := by rfl) :
    PS X (.Assign [.Name x p'] e pos) (tAsg te (gName i)) := ps_set hN hi (.inr (celB_ok h)) he hs (.inl hf)

/-! ### built-in names -/
section
variable {e : Expr} {es : List Expr} {t : TA} {p pos : Pos}
theorem kty_int (hg : Gl X "int") (hm : X.mg "int" = none) : PE X (.Name "int" pos) (tC (.ty "int")) := pe_bltn hg hm (u := .type "int") (by decide +kernel) rfl
theorem kty_bool (hg : Gl X "bool") (hm : X.mg "bool" = none) : PE X (.Name "bool" pos) (tC (.ty "bool")) := pe_bltn hg hm (u := .type "bool") (by decide +kernel) rfl
theorem kty_str (hg : Gl X "str") (hm : X.mg "str" = none) : PE X (.Name "str" pos) (tC (.ty "str")) := pe_bltn hg hm (u := .type "str") (by decide +kernel) rfl
theorem kty_list (hg : Gl X "list") (hm : X.mg "list" = none) : PE X (.Name "list" pos) (tC (.ty "list")) := pe_bltn hg hm (u := .type "list") (by decide +kernel) rfl
theorem kty_tuple (hg : Gl X "tuple") (hm : X.mg "tuple" = none) : PE X (.Name "tuple" pos) (tC (.ty "tuple")) := pe_bltn hg hm (u := .type "tuple") (by decide +kernel) rfl
theorem kty_dict (hg : Gl X "dict") (hm : X.mg "dict" = none) : PE X (.Name "dict" pos) (tC (.ty "dict")) := pe_bltn hg hm (u := .type "dict") (by decide +kernel) rfl
theorem kcls {x : Str} {C : Addr} (hg : Gl X x) (hm : X.mg x = some (.ref C)) (hd : (x == ("__debug__" : Str)) = false := by decide) : PE X (.Name x pos) (tC (.ref C)) := pe_glob (v := .ref C) hg hm rfl hd
theorem kcB {x : Str} {id : String} {r : List V → Hp → VK → Prop} (hv : bootBuiltins x = some (.builtin id)) (hn : x ≠ "__name__") (hdb : (x == ("__debug__" : Str)) = false) (hc : CallR X (.builtin id) r) (hg : Gl X x) (hm : X.mg x = none) (ha : PA X (e :: es) t)
    (he : starEach (e :: es) X.env = (false, eval e X.env) :: starEach es X.env := by rfl) (hpl : (backTo pos (starEach es X.env)).any (·.1) = false := by rfl) : PE X (.Call (.Name x p) (e :: es) [] pos) (tCB r t) := pe_callB hc hg hm hv ha hn hdb he hpl
theorem kcT {x : Str} {T : String} {r : List V → Hp → VK → Prop} (hv : bootBuiltins x = some (.type T)) (hn : x ≠ "__name__") (hdb : (x == ("__debug__" : Str)) = false) (hc : CallR X (.type T) r) (hg : Gl X x) (hm : X.mg x = none) (ha : PA X (e :: es) t)
    (he : starEach (e :: es) X.env = (false, eval e X.env) :: starEach es X.env := by rfl) (hpl : (backTo pos (starEach es X.env)).any (·.1) = false := by rfl) : PE X (.Call (.Name x p) (e :: es) [] pos) (tCB r t) := pe_callTy hc hg hm hv ha hn hdb he hpl
theorem b_len : bootBuiltins "len" = some (.builtin "len") := by decide +kernel
theorem b_isinstance : bootBuiltins "isinstance" = some (.builtin "isinstance") := by decide +kernel
theorem b_max : bootBuiltins "max" = some (.builtin "max") := by decide +kernel
theorem b_min : bootBuiltins "min" = some (.builtin "min") := by decide +kernel
theorem b_abs : bootBuiltins "abs" = some (.builtin "abs") := by decide +kernel
theorem b_all : bootBuiltins "all" = some (.builtin "all") := by decide +kernel
theorem b_any : bootBuiltins "any" = some (.builtin "any") := by decide +kernel
theorem b_sum : bootBuiltins "sum" = some (.builtin "sum") := by decide +kernel
theorem b_ord : bootBuiltins "ord" = some (.builtin "ord") := by decide +kernel
theorem b_sorted : bootBuiltins "sorted" = some (.builtin "sorted") := by decide +kernel
theorem b_int : bootBuiltins "int" = some (.type "int") := by decide +kernel
theorem b_str : bootBuiltins "str" = some (.type "str") := by decide +kernel
theorem b_bool : bootBuiltins "bool" = some (.type "bool") := by decide +kernel
theorem b_list : bootBuiltins "list" = some (.type "list") := by decide +kernel
theorem b_tuple : bootBuiltins "tuple" = some (.type "tuple") := by decide +kernel
theorem b_dict : bootBuiltins "dict" = some (.type "dict") := by decide +kernel
end

/-! ### operations by values -/
def rAddU : R2 := fun x y H Q => match x, y with
  | .int i, .int j => Q (.int (i + j)) H
  | .str a, .str b => a.length + b.length ≤ sizeLine ∧ Q (.str (a ++ b)) H
  | .ref a, .ref b => ∃ xs ys, H a = some (.lst xs) ∧ H b = some (.lst ys) ∧ xs.length + ys.length ≤ sizeLine ∧ ∀ p, H p = none → Q (.ref p) (upd H p (.lst (xs ++ ys)))
  | _, _ => False
theorem kop_add : OpR X (binaryOp .Add) rAddU := by
  intro pins s σ H x y v u Q I rx ry h
  cases x <;> cases y <;> first
    | exact h.elim
    | exact op_add pins s σ H _ _ v u Q I rx ry ⟨_, _, rfl, rfl, h⟩
    | exact op_add_str pins s σ H _ _ v u Q I rx ry ⟨_, _, rfl, rfl, h.1, h.2⟩
    | (obtain ⟨xs, ys, h1, h2, h3, h4⟩ := h; exact op_cat pins s σ H _ _ v u Q I rx ry ⟨_, _, xs, ys, rfl, rfl, h1, h2, h3, h4⟩)
/-- math.lcm of two numbers from 0 on, below 2 ^ 32 -/
def rLcm : List V → Hp → VK → Prop := fun vs H Q => ∃ a b : Int, vs = [.int a, .int b] ∧ 0 ≤ a ∧ a < 2 ^ 32 ∧ 0 ≤ b ∧ b < 2 ^ 32 ∧ Q (.int ((Nat.lcm a.natAbs b.natAbs : Nat) : Int)) H
theorem kcr_lcm : CallR X (.builtin "math.lcm") rLcm := by
  intro pins s σ H vs us Q I r h
  obtain ⟨a, b, rfl, ha, ha2, hb, hb2, q⟩ := h
  obtain ⟨t, u, rfl⟩ := Vals.int2 r
  have e : (Nat.lcm 1 a.natAbs).lcm b.natAbs = Nat.lcm a.natAbs b.natAbs := by rw [Nat.lcm_one_left]
  have hle : Nat.lcm a.natAbs b.natAbs < 2 ^ 64 := by
    by_cases h0 : a.natAbs = 0
    · rw [h0, Nat.lcm_zero_left]; decide
    · by_cases h1 : b.natAbs = 0
      · rw [h1, Nat.lcm_zero_right]; decide
      · have q1 : Nat.lcm a.natAbs b.natAbs ≤ a.natAbs * b.natAbs := Nat.le_of_dvd (Nat.mul_pos (by omega) (by omega)) (Nat.lcm_dvd (Nat.dvd_mul_right _ _) (Nat.dvd_mul_left _ _))
        have q2 : a.natAbs * b.natAbs < 2 ^ 32 * 2 ^ 32 := Nat.mul_lt_mul'' (by omega) (by omega)
        omega
  refine PySem.W.mg_lcm (by omega) (by omega) ?_ ?_
  · rw [e, Int.natAbs_natCast]
    by_cases h0 : Nat.lcm a.natAbs b.natAbs = 0
    · rw [h0]; decide
    · have : (Nat.lcm a.natAbs b.natAbs).log2 < 64 := (Nat.log2_lt h0).mpr hle
      exact Nat.lt_of_lt_of_le this (by decide)
  · rw [e]
    exact ⟨.int _, H, I.tok _, ⟨_, rfl⟩, q⟩
end


/-! ### rules with the written part told -/
section
variable {X : Cx}
/-- a statement whose ways meet in W -/
def tMeet (t u : TS) : TS := fun D σ H => ∃ W : L2.St → Hp → Prop, t { D with nx := W } σ H ∧ ∀ σ' H', W σ' H' → u D σ' H'
theorem kss_meet {st : Stmt} {rest : List Stmt} {t u : TS} (h1 : PS X st t) (h2 : PSs X rest u) : PSs X (st :: rest) (tMeet t u) := by
  refine ⟨fun pins s σ H D I h => ?_⟩
  obtain ⟨W, hw, hu⟩ := h
  refine wpAny_execs_cons (thn (h1.run pins s σ H _ I hw) fun f s' hf => ?_)
  cases f with
  | next =>
    obtain ⟨σ', H', I', q⟩ := hf
    exact h2.run pins s' σ' H' D I' (hu σ' H' q)
  | ret u => exact hf
  | brk => exact hf
  | cont => exact hf
theorem kix (K : PySem.W.Frag) (hK : X.K = K := by rfl) : IxR X (rIx K) := by subst hK; exact ix_seq
def rLenU (K : PySem.W.Frag) : List V → Hp → VK → Prop := fun xs H Q => ∃ x n, xs = [x] ∧ LenV K x H n ∧ Q (.int (n : Nat)) H
theorem kc_len (K : PySem.W.Frag) (hK : X.K = K := by rfl) : CallR X (.builtin "len") (rLenU K) := by subst hK; exact call_len
def rInt1 : List V → Hp → VK → Prop := fun xs H Q => match xs with
  | [.int i] => Q (.int i) H
  | [.bl k] => Q (.int (if k then 1 else 0)) H
  | _ => False
theorem kc_int : CallR X (.type "int") rInt1 := by
  intro pins s σ H xs us Q I r h
  match xs, r, h with
  | [.int i], r, h => exact call_int1 pins s σ H _ us Q I r (.inl ⟨i, rfl, h⟩)
  | [.bl k], r, h => exact call_int1 pins s σ H _ us Q I r (.inr ⟨k, rfl, h⟩)
def rBool1 : List V → Hp → VK → Prop := fun xs H Q => match xs with
  | [.int i] => Q (.bl (i != 0)) H
  | [.bl k] => Q (.bl k) H
  | _ => False
theorem kc_bool : CallR X (.type "bool") rBool1 := by
  intro pins s σ H xs us Q I r h
  match xs, r, h with
  | [.int i], r, h => exact call_bool1 pins s σ H _ us Q I r (.inl ⟨i, rfl, h⟩)
  | [.bl k], r, h => exact call_bool1 pins s σ H _ us Q I r (.inr ⟨k, rfl, h⟩)
def rStr1 : List V → Hp → VK → Prop := fun xs H Q => ∃ i : Int, xs = [.int i] ∧ i.natAbs.log2 < 1920 ∧ Q (.str (toString i)) H
theorem kc_str : CallR X (.type "str") rStr1 := call_str_int
def rListU (K : PySem.W.Frag) : List V → Hp → VK → Prop := fun xs H Q => ∃ p ys, xs = [.ref p] ∧ (SqL K H p ys ∨ SqT K H p ys) ∧ ∀ l, H l = none → Q (.ref l) (upd H l (.lst ys))
theorem kc_list (K : PySem.W.Frag) (hK : X.K = K := by rfl) : CallR X (.type "list") (rListU K) := by subst hK; exact call_list_of
def rTupleU (K : PySem.W.Frag) : List V → Hp → VK → Prop := fun xs H Q => ∃ p ys, xs = [.ref p] ∧ ((SqL K H p ys ∧ ∀ l, H l = none → Q (.ref l) (upd H l (.tup ys))) ∨ (SqT K H p ys ∧ Q (.ref p) H))
theorem kc_tuple (K : PySem.W.Frag) (hK : X.K = K := by rfl) : CallR X (.type "tuple") (rTupleU K) := by subst hK; exact call_tuple_of
theorem kc_isi (K : PySem.W.Frag) (hK : X.K = K := by rfl) : CallR X (.builtin "isinstance") (rIsi K) := by subst hK; exact call_isi
theorem kc_isiT (K : PySem.W.Frag) (hK : X.K = K := by rfl) : CallR X (.builtin "isinstance") (rIsiT K) := by subst hK; exact call_isiT
def rMax2 : List V → Hp → VK → Prop := fun xs H Q => match xs with
  | [.int i, .int j] => Q (.int (if j > i then j else i)) H
  | _ => False
theorem kc_max2 (hc : X.calm = true) : CallR X (.builtin "max") rMax2 := by
  intro pins s σ H xs us Q I r h
  match xs, r, h with
  | [.int i, .int j], r, h => exact call_max2 hc pins s σ H _ us Q I r ⟨i, j, rfl, h⟩
def rMin2 : List V → Hp → VK → Prop := fun xs H Q => match xs with
  | [.int i, .int j] => Q (.int (if j < i then j else i)) H
  | _ => False
theorem kc_min2 (hc : X.calm = true) : CallR X (.builtin "min") rMin2 := by
  intro pins s σ H xs us Q I r h
  match xs, r, h with
  | [.int i, .int j], r, h => exact call_min2 hc pins s σ H _ us Q I r ⟨i, j, rfl, h⟩
theorem kc_sum (K : PySem.W.Frag) (hc : X.calm = true) (hK : X.K = K := by rfl) : CallR X (.builtin "sum") (rSum K) := by subst hK; exact cr_sum hc
theorem ksl_list (K : PySem.W.Frag) (hK : X.K = K := by rfl) : SlR X (rSlL K) := by subst hK; exact sl_list
theorem kpi_list (K : PySem.W.Frag) {tg l : Expr} {tl : TE} (hl : PE X l tl) (hK : X.K = K := by rfl) : PI X tg l (iList K tl) := by subst hK; exact pi_list hl
theorem kpi_tup (K : PySem.W.Frag) {tg l : Expr} {tl : TE} (hl : PE X l tl) (hK : X.K = K := by rfl) : PI X tg l (iTup K tl) := by subst hK; exact pi_tup hl
theorem kpe_fld (K : PySem.W.Frag) {e : Expr} {f : Str} {ta : TE} {pos : Pos} (he : PE X e ta) (hK : X.K = K := by rfl) (hb : attributeBase e f X.env (eval e X.env) = eval e X.env := by rfl) : PE X (.Attribute e f pos) (tFld K ta f) := by subst hK; exact pe_fld he hb
theorem kps_fld (K : PySem.W.Frag) {o value : Expr} {f : Str} {ta tv : TE} {pos pos' : Pos} (ha : PE X o ta) (hv : PE X value tv) (hK : X.K = K := by rfl) (hs : swapsWith value (some (.Attribute o f pos')) pos.line X.env = pure false := by rfl) : PS X (.Assign [.Attribute o f pos'] value pos) (sFld K ta tv f) := by subst hK; exact ps_fld ha hv hs
def tTruU (K : PySem.W.Frag) (ta : TE) : TT := fun σ H Q => ta σ H fun x H' => ∃ k, TruV K x H' k ∧ Q k H'
theorem kpt_truth (K : PySem.W.Frag) {a : Expr} {ta : TE} (ha : PE X a ta) (hK : X.K = K := by rfl) (he : ∀ whole, isTrue a X.env whole = (do let v ← whole; standAt a.pos; holding [v] (truthy v)) := by intro _; rfl) : PT X a (tTruU K ta) := by subst hK; exact pt_truth ha he
theorem kop_in (K : PySem.W.Frag) (hK : X.K = K := by rfl) : OpR X (compareOp .In) (rIn K false) := by subst hK; exact op_in_seq
theorem kop_nin (K : PySem.W.Frag) (hK : X.K = K := by rfl) : OpR X (compareOp .NotIn) (rIn K true) := by subst hK; exact op_notIn_seq
theorem kpg_tup (K : PySem.W.Frag) (n : Nat) {es : List Expr} {k : Nat} {t : TGs} {pos : Pos} (hc : X.calm = true) (h : PGs X es t) (hK : X.K = K := by rfl) (hn : (assignEach es X.env).length = n := by rfl) (hst : (assignEach es X.env).findIdx? (·.1) = none := by rfl) : PG X (.Tuple es k pos) (gTup K n t) := by subst hK; exact pg_tup hc h hn hst
end

theorem small_size' {n : Nat} (h : n ≤ 1000000) : n ≤ sizeLine := Nat.le_trans h (by rw [sizeLine_eq]; decide)
/-! ### the steps of a reading -/
section
variable {σ : L2.St} {H : Hp} {Q : VK} {D : Ends} {t u : TS} {te ta tb : TE} {tt tu : TT} {tA tr : TA} {g : TG} {i : Nat} {v x y : V} {r : R2}
theorem k_seq (h : t { D with nx := u D } σ H) : tSeq t u D σ H := h
theorem k_asg (h : te σ H fun x H1 => g x σ H1 D.nx) : tAsg te g D σ H := h
theorem k_gName {Q : L2.St → Hp → Prop} (h : Q (σ.set i (some v)) H) : gName i v σ H Q := h
theorem k_drop (h : te σ H fun _ H1 => D.nx σ H1) : tDrop te D σ H := h
theorem k_ret (h : te σ H D.rt) : tRet te D σ H := h
theorem k_retN (h : D.rt .non H) : tRetN D σ H := h
theorem k_next (h : D.nx σ H) : tNext D σ H := h
theorem k_break (h : D.bk σ H) : tBreak D σ H := h
theorem k_cont (h : D.ct σ H) : tCont D σ H := h
theorem k_ifS (h : tt σ H fun b H1 => if b = true then t D σ H1 else u D σ H1) : tIfS tt t u D σ H := h
theorem k_var (h : σ[i]? = some (some v)) (k : Q v H) : tVar i σ H Q := ⟨v, h, k⟩
theorem k_c (k : Q v H) : tC v σ H Q := k
theorem k_op (h : ta σ H fun x H1 => tb σ H1 fun y H2 => r x y H2 Q) : tOp r ta tb σ H Q := h
theorem k_un {r : V → Hp → VK → Prop} (h : ta σ H fun x H1 => r x H1 Q) : tUn r ta σ H Q := h
theorem k_test {Q : Bool → Hp → Prop} (h : te σ H fun x H' => ∃ k, x = .bl k ∧ Q k H') : tTest te σ H Q := h
theorem k_B {Q : Bool → Hp → Prop} (h : te σ H fun x H' => ∃ k, x = .bl k ∧ Q k H') : tB te σ H Q := h
theorem k_bl {b : Bool} {Q : Bool → Prop} (h : Q b) : ∃ k, V.bl b = .bl k ∧ Q k := ⟨b, rfl, h⟩
theorem k_and {Q : Bool → Hp → Prop} (h : tt σ H fun c H1 => if c = true then tu σ H1 Q else Q false H1) : tAnd tt tu σ H Q := h
theorem k_or {Q : Bool → Hp → Prop} (h : tt σ H fun c H1 => if c = true then Q true H1 else tu σ H1 Q) : tOr tt tu σ H Q := h
theorem k_not {Q : Bool → Hp → Prop} (h : tt σ H fun c H1 => Q (!c) H1) : tNot tt σ H Q := h
theorem k_andV (h : ta σ H fun x H1 => ∃ c, x = .bl c ∧ if c = true then tb σ H1 Q else Q (.bl false) H1) : tAndV ta tb σ H Q := h
theorem k_orV (h : ta σ H fun x H1 => ∃ c, x = .bl c ∧ if c = true then Q (.bl true) H1 else tb σ H1 Q) : tOrV ta tb σ H Q := h
theorem k_notV (h : ta σ H fun x H1 => ∃ c, x = .bl c ∧ Q (.bl (!c)) H1) : tNotV ta σ H Q := h
theorem k_if (h : tt σ H fun c H1 => if c = true then ta σ H1 Q else tb σ H1 Q) : tIf tt ta tb σ H Q := h
theorem k_nil {Q : List V → Hp → Prop} (h : Q [] H) : tNil σ H Q := h
theorem k_cons {Q : List V → Hp → Prop} (h : ta σ H fun x H1 => tr σ H1 fun xs H2 => Q (x :: xs) H2) : tCons ta tr σ H Q := h
theorem k_CB {r : List V → Hp → VK → Prop} (h : tA σ H fun vs H1 => r vs H1 Q) : tCB r tA σ H Q := h
theorem k_call {sp : Sp} {dvs : List V} {E : XK} (h : tA σ H fun vs H1 => sp (vs ++ dvs) H1 Q E) : tCall sp dvs E tA σ H Q := h
theorem k_tup (h : tA σ H fun xs H1 => xs.length ≤ sizeLine ∧ ∀ p, H1 p = none → Q (.ref p) (upd H1 p (.tup xs))) : tTup tA σ H Q := h
theorem k_lst (h : tA σ H fun xs H1 => xs.length ≤ sizeLine ∧ ∀ p, H1 p = none → Q (.ref p) (upd H1 p (.lst xs))) : tLst tA σ H Q := h
theorem k_tru {K : PySem.W.Frag} {Q : Bool → Hp → Prop} (h : ta σ H fun x H' => ∃ k, TruV K x H' k ∧ Q k H') : (fun (σ : L2.St) (H : Hp) (Q : Bool → Hp → Prop) => ta σ H fun x H' => ∃ k, TruV K x H' k ∧ Q k H') σ H Q := h
theorem k_gSub {to ti : TE} {t : TSet} {Q : L2.St → Hp → Prop} (h : to σ H fun o H1 => ti σ H1 fun i H2 => t o i v H2 fun H3 => Q σ H3) : gSub to ti t v σ H Q := h
theorem k_par {i j : Nat} (h : tA σ H fun vs H1 => ∃ v w, vs = [v, w] ∧ D.nx ((σ.set i (some v)).set j (some w)) H1) : tPar i j tA D σ H := h
theorem k_pair {v w : V} {P : V → V → Prop} (h : P v w) : ∃ a b, [v, w] = [a, b] ∧ P a b := ⟨v, w, rfl, h⟩
theorem k_sl {r : V → Option Int → Option Int → Hp → VK → Prop} {tl th : TO} (h : te σ H fun x H1 => tl σ H1 fun l H2 => th σ H2 fun u H3 => r x l u H3 Q) : tSl r te tl th σ H Q := h
theorem k_noPart {Q : Option Int → Hp → Prop} (h : Q none H) : tNoPart σ H Q := h
theorem k_part {Q : Option Int → Hp → Prop} (h : te σ H fun x H1 => ∃ i, x = .int i ∧ Q (some i) H1) : tPart te σ H Q := h
theorem k_int {i : Int} {P : Int → Prop} (h : P i) : ∃ j, V.int i = .int j ∧ P j := ⟨i, rfl, h⟩

/-- values -/
theorem k_addI {i j : Int} (k : Q (.int (i + j)) H) : rAddU (.int i) (.int j) H Q := k
theorem k_I0 {f : Int → Int → V} {i j : Int} (k : Q (f i j) H) : rI0 f (.int i) (.int j) H Q := ⟨i, j, rfl, rfl, k⟩
theorem k_I {C : Int → Int → Prop} {f : Int → Int → V} {i j : Int} (c : C i j) (k : Q (f i j) H) : rI C f (.int i) (.int j) H Q := ⟨i, j, rfl, rfl, c, k⟩
theorem k_U {f : Int → V} {i : Int} (k : Q (f i) H) : rU f (.int i) H Q := ⟨i, rfl, k⟩
theorem k_eq {x y : V} (s : scal x y = true) (k : Q (.bl (decide (x = y))) H) : rEq x y H Q := ⟨s, k⟩
theorem k_ne {x y : V} (s : scal x y = true) (k : Q (.bl (!decide (x = y))) H) : rNe x y H Q := ⟨s, k⟩
theorem k_eqI {i j : Int} (k : Q (.bl (decide (i = j))) H) : rEq (.int i) (.int j) H Q := ⟨rfl, by
  have e : decide (V.int i = V.int j) = decide (i = j) := by simp
  rw [e]; exact k⟩
theorem k_neI {i j : Int} (k : Q (.bl (!decide (i = j))) H) : rNe (.int i) (.int j) H Q := ⟨rfl, by
  have e : decide (V.int i = V.int j) = decide (i = j) := by simp
  rw [e]; exact k⟩
theorem k_ixL {K : PySem.W.Frag} {p : Addr} {xs : List V} {i : Int} (h : SqL K H p xs) (a : atI xs i = some v) (k : Q v H) : rIx K (.ref p) (.int i) H Q := .inl ⟨p, xs, i, v, rfl, rfl, h, a, k⟩
theorem k_ixT {K : PySem.W.Frag} {p : Addr} {xs : List V} {i : Int} (h : SqT K H p xs) (a : atI xs i = some v) (k : Q v H) : rIx K (.ref p) (.int i) H Q := .inr (.inl ⟨p, xs, i, v, rfl, rfl, h, a, k⟩)
theorem k_ixS {K : PySem.W.Frag} {z : Str} {i : Int} {c : Nat} (h : z.length ≤ sizeLine) (a : atI z.cps.toList i = some c) (k : Q (.str ⟨#[c]⟩) H) : rIx K (.str z) (.int i) H Q := .inr (.inr ⟨z, i, c, rfl, rfl, h, a, k⟩)
theorem k_meet {σ : L2.St} {H : Hp} {D : Ends} {t u : TS} (W : L2.St → Hp → Prop) (h : t { D with nx := W } σ H) (k : ∀ σ' H', W σ' H' → u D σ' H') : tMeet t u D σ H := ⟨W, h, k⟩
theorem k_addL {p q : Addr} {xs ys : List V} {H : Hp} {Q : VK} (h1 : H p = some (.lst xs)) (h2 : H q = some (.lst ys)) (hz : xs.length + ys.length ≤ 1000000) (k : ∀ l, H l = none → Q (.ref l) (upd H l (.lst (xs ++ ys)))) : rAddU (.ref p) (.ref q) H Q := ⟨xs, ys, h1, h2, small_size' hz, k⟩
theorem k_addS {a b : Str} {H : Hp} {Q : VK} (hz : a.length + b.length ≤ 1000000) (k : Q (.str (a ++ b)) H) : rAddU (.str a) (.str b) H Q := ⟨small_size' hz, k⟩
theorem k_int1 {i : Int} (k : Q (.int i) H) : rInt1 [.int i] H Q := k
theorem k_lenL {K : PySem.W.Frag} {p : Addr} {xs : List V} (h : SqL K H p xs) (k : Q (.int (xs.length : Nat)) H) : rLenU K [.ref p] H Q := ⟨_, _, rfl, .inl ⟨xs, h, rfl⟩, k⟩
theorem k_lenT {K : PySem.W.Frag} {p : Addr} {xs : List V} (h : SqT K H p xs) (k : Q (.int (xs.length : Nat)) H) : rLenU K [.ref p] H Q := ⟨_, _, rfl, .inr ⟨xs, h, rfl⟩, k⟩
theorem k_lenS {K : PySem.W.Frag} {z : Str} (h : z.length ≤ sizeLine) (k : Q (.int (z.length : Nat)) H) : rLenU K [.str z] H Q := ⟨_, _, rfl, ⟨h, rfl⟩, k⟩
theorem k_max2 {i j : Int} (k : Q (.int (if j > i then j else i)) H) : rMax2 [.int i, .int j] H Q := k
theorem k_min2 {i j : Int} (k : Q (.int (if j < i then j else i)) H) : rMin2 [.int i, .int j] H Q := k
theorem k_setL {p : Addr} {xs : List V} {k : Int} {j : Nat} {w : V} {Q : Hp → Prop} (h : H p = some (.lst xs)) (e : ixN xs.length k = some j) (q : Q (upd H p (.lst (xs.set j w)))) : rSetL (.ref p) (.int k) w H Q := ⟨p, xs, k, j, rfl, rfl, h, e, q⟩
/-- tests whose answer is known, or open -/
theorem k_t {A B : Prop} (h : A) : if true = true then A else B := by rw [if_pos rfl]; exact h
theorem k_f {A B : Prop} (h : B) : if false = true then A else B := by rw [if_neg Bool.false_ne_true]; exact h
theorem k_t' {A B : Prop} (h : A) : if (!false) = true then A else B := k_t (B := B) h
theorem k_f' {A B : Prop} (h : B) : if (!true) = true then A else B := k_f (A := A) h
theorem k_o1 {b : Bool} {A B : Prop} (h : A) : if (true || b) = true then A else B := k_t (B := B) h
theorem k_o2 {A B : Prop} (h : A) : if (false || true) = true then A else B := k_t (B := B) h
theorem k_o3 {A B : Prop} (h : B) : if (false || false) = true then A else B := k_f (A := A) h
theorem k_o4 {b : Bool} {A B : Prop} (h : B) : if (!(true || b)) = true then A else B := k_f (A := A) h
theorem k_o5 {A B : Prop} (h : B) : if (!(false || true)) = true then A else B := k_f (A := A) h
theorem k_o6 {A B : Prop} (h : A) : if (!(false || false)) = true then A else B := k_t (B := B) h
theorem k_chain {r r' : R2} {tc : TE} (h : ta σ H fun x H1 => tb σ H1 fun y H2 => r x y H2 fun z H3 => ∃ k, z = .bl k ∧ (if k = true then tc σ H3 fun w' H4 => r' y w' H4 Q else Q (.bl false) H3)) : tChain r r' ta tb tc σ H Q := h
theorem k_dt {c : Prop} [Decidable c] {A B : Prop} (hc : c) (h : A) : if decide c = true then A else B := by rw [decide_eq_true hc]; exact k_t h
theorem k_df {c : Prop} [Decidable c] {A B : Prop} (hc : ¬ c) (h : B) : if decide c = true then A else B := by rw [decide_eq_false hc]; exact k_f h
theorem k_d {c : Prop} [Decidable c] {A B : Prop} (h1 : c → A) (h2 : ¬ c → B) : if decide c = true then A else B := by
  by_cases hc : c
  · exact k_dt hc (h1 hc)
  · exact k_df hc (h2 hc)
theorem k_nt {c : Prop} [Decidable c] {A B : Prop} (hc : c) (h : B) : if (!decide c) = true then A else B := by rw [decide_eq_true hc]; exact k_f h
theorem k_nf {c : Prop} [Decidable c] {A B : Prop} (hc : ¬ c) (h : A) : if (!decide c) = true then A else B := by rw [decide_eq_false hc]; exact k_t h
theorem k_n {c : Prop} [Decidable c] {A B : Prop} (h1 : c → B) (h2 : ¬ c → A) : if (!decide c) = true then A else B := by
  by_cases hc : c
  · exact k_nt hc (h1 hc)
  · exact k_nf hc (h2 hc)
theorem k_b {b : Bool} {A B : Prop} (h1 : b = true → A) (h2 : b = false → B) : if b = true then A else B := by
  cases b with
  | true => exact k_t (h1 rfl)
  | false => exact k_f (h2 rfl)
end

/-! ### heaps -/
theorem same_new {H : Hp} {p : Addr} {o : HO} (h : H p = none) : Same H (upd H p o) := fun a u e => by
  rw [upd_ne (ne_of_none e h)]
  exact e
theorem same_t {K : PySem.W.Frag} {H H' : Hp} {a : Addr} {xs : List V} (e : Same H H') (h : SqT K H a xs) : SqT K H' a xs := by
  rcases h with (h | ⟨o, h⟩) | h
  · exact .inl (.inl (e _ _ h))
  · exact .inl (.inr ⟨o, e _ _ h⟩)
  · exact .inr h
/-- over a heap G that does not know b, b's object put on top -/
theorem up_same {G : Hp} {b : Addr} {β : HO} (hb : G b = none) : Same G (upd G b β) := same_new hb
theorem up_get {G : Hp} {a b : Addr} {o β : HO} (hb : G b = none) (h : G a = some o) : upd G b β a = some o := same_new hb _ _ h
theorem up_none {G : Hp} {p b : Addr} {β : HO} (h : upd G b β p = none) : G p = none ∧ p ≠ b := by
  by_cases e : p = b
  · rw [e, upd_same] at h; cases h
  · rw [upd_ne e] at h; exact ⟨h, e⟩
theorem upd_swap {G : Hp} {a b : Addr} {o β : HO} (h : a ≠ b) : upd (upd G b β) a o = upd (upd G a o) b β := by
  funext c
  unfold upd
  by_cases h1 : c = a
  · subst h1
    simp [h]
  · simp [h1]
theorem up_new {G : Hp} {b : Addr} {β o : HO} {P : Addr → Hp → Prop} (hb : G b = none) (k : ∀ p G', G p = none → p ≠ b → G' = upd G p o → G' b = none → Same G G' → G' p = some o → P p (upd G' b β)) :
    ∀ p, upd G b β p = none → P p (upd (upd G b β) p o) := fun p hp => by
  obtain ⟨h1, h2⟩ := up_none hp
  rw [upd_swap h2]
  exact k p _ h1 h2 rfl (by rw [upd_ne (Ne.symm h2)]; exact hb) (same_new h1) upd_same
theorem k_setLu {G : Hp} {b : Addr} {xs ys : List V} {k : Int} {j : Nat} {w : V} {Q : Hp → Prop} (e : ixN xs.length k = some j) (ey : xs.set j w = ys) (q : Q (upd G b (.lst ys))) : rSetL (.ref b) (.int k) w (upd G b (.lst xs)) Q := by
  subst ey
  exact k_setL upd_same e (by rw [upd_upd]; exact q)
theorem upd_at {H H' : Hp} {p : Addr} {o : HO} (e : upd H p o = H') : H' p = some o := by rw [← e]; exact upd_same
theorem upd_sm {H H' : Hp} {p : Addr} {o : HO} (e : upd H p o = H') (n : H p = none) : Same H H' := by rw [← e]; exact same_new n
theorem split_up {G H' : Hp} {b : Addr} {β : HO} (hb : G b = none) (e : Same (upd G b β) H') : ∃ G', G' b = none ∧ Same G G' ∧ H' = upd G' b β := by
  refine ⟨fun a => if a = b then none else H' a, if_pos rfl, fun a o h => ?_, ?_⟩
  · show (if a = b then none else H' a) = some o
    have hne : a ≠ b := ne_of_none h hb
    rw [if_neg hne]
    exact e _ _ (up_get hb h)
  · funext a
    unfold upd
    by_cases h : a = b
    · rw [if_pos h, h]
      exact e _ _ upd_same
    · rw [if_neg h]
      show H' a = if a = b then none else H' a
      rw [if_neg h]
theorem kb_int_int : kitB "int" "int" = some true := by decide +kernel
theorem kb_int_bool : kitB "int" "bool" = some false := by decide +kernel
theorem kb_int_str : kitB "int" "str" = some false := by decide +kernel
theorem kb_int_list : kitB "int" "list" = some false := by decide +kernel
theorem kb_int_tuple : kitB "int" "tuple" = some false := by decide +kernel
theorem kb_int_dict : kitB "int" "dict" = some false := by decide +kernel
theorem kb_bool_int : kitB "bool" "int" = some true := by decide +kernel
theorem kb_bool_bool : kitB "bool" "bool" = some true := by decide +kernel
theorem kb_bool_str : kitB "bool" "str" = some false := by decide +kernel
theorem kb_bool_list : kitB "bool" "list" = some false := by decide +kernel
theorem kb_bool_tuple : kitB "bool" "tuple" = some false := by decide +kernel
theorem kb_bool_dict : kitB "bool" "dict" = some false := by decide +kernel
theorem kb_str_int : kitB "str" "int" = some false := by decide +kernel
theorem kb_str_bool : kitB "str" "bool" = some false := by decide +kernel
theorem kb_str_str : kitB "str" "str" = some true := by decide +kernel
theorem kb_str_list : kitB "str" "list" = some false := by decide +kernel
theorem kb_str_tuple : kitB "str" "tuple" = some false := by decide +kernel
theorem kb_str_dict : kitB "str" "dict" = some false := by decide +kernel
theorem kb_NoneType_int : kitB "NoneType" "int" = some false := by decide +kernel
theorem kb_NoneType_bool : kitB "NoneType" "bool" = some false := by decide +kernel
theorem kb_NoneType_str : kitB "NoneType" "str" = some false := by decide +kernel
theorem kb_NoneType_list : kitB "NoneType" "list" = some false := by decide +kernel
theorem kb_NoneType_tuple : kitB "NoneType" "tuple" = some false := by decide +kernel
theorem kb_NoneType_dict : kitB "NoneType" "dict" = some false := by decide +kernel
theorem kb_list_int : kitB "list" "int" = some false := by decide +kernel
theorem kb_list_bool : kitB "list" "bool" = some false := by decide +kernel
theorem kb_list_str : kitB "list" "str" = some false := by decide +kernel
theorem kb_list_list : kitB "list" "list" = some true := by decide +kernel
theorem kb_list_tuple : kitB "list" "tuple" = some false := by decide +kernel
theorem kb_list_dict : kitB "list" "dict" = some false := by decide +kernel
theorem kb_tuple_int : kitB "tuple" "int" = some false := by decide +kernel
theorem kb_tuple_bool : kitB "tuple" "bool" = some false := by decide +kernel
theorem kb_tuple_str : kitB "tuple" "str" = some false := by decide +kernel
theorem kb_tuple_list : kitB "tuple" "list" = some false := by decide +kernel
theorem kb_tuple_tuple : kitB "tuple" "tuple" = some true := by decide +kernel
theorem kb_tuple_dict : kitB "tuple" "dict" = some false := by decide +kernel
theorem kb_dict_int : kitB "dict" "int" = some false := by decide +kernel
theorem kb_dict_bool : kitB "dict" "bool" = some false := by decide +kernel
theorem kb_dict_str : kitB "dict" "str" = some false := by decide +kernel
theorem kb_dict_list : kitB "dict" "list" = some false := by decide +kernel
theorem kb_dict_tuple : kitB "dict" "tuple" = some false := by decide +kernel
theorem kb_dict_dict : kitB "dict" "dict" = some true := by decide +kernel
/-- isinstance of built-in types -/
theorem k_isi {K : PySem.W.Frag} {H : Hp} {v : V} {a T : String} {b : Bool} {Q : VK} (ty : TyX K H v (.type a)) (hk : kitB a T = some b) (k : Q (.bl b) H) : rIsi K [v, .ty T] H Q := ⟨v, .ty T, _, _, b, rfl, .ty T, ty, kit_ty hk, k⟩
theorem k_isiT {K : PySem.W.Frag} {H : Hp} {v : V} {p : Addr} {a T1 T2 : String} {b1 b2 : Bool} {Q : VK} (hp : H p = some (.tup [.ty T1, .ty T2])) (ty : TyX K H v (.type a)) (h1 : kitB a T1 = some b1) (h2 : kitB a T2 = some b2) (k : Q (.bl (b1 || b2)) H) : rIsiT K [v, .ref p] H Q :=
  ⟨v, p, _, _, _, b1 || b2, rfl, hp, .cons (.ty T1) (.cons (.ty T2) .nil), ty, kitAny_cons (kit_ty h1) (fun e => by subst e; exact kitAny_cons (kit_ty h2) (fun e => by subst e; exact kitAny_nil) (fun e => by subst e; rfl)) (fun e => by subst e; rfl), k⟩
/-- isinstance of an own instance -/
theorem k_isiO {K : PySem.W.Frag} {H : Hp} {v : V} {t : Value} {C : Addr} {b : Bool} {Q : VK} (ty : TyX K H v t) (hk : PySem.W.kitOne K t (.ref C) = some b) (k : Q (.bl b) H) : rIsi K [v, .ref C] H Q := ⟨v, .ref C, _, _, b, rfl, .own C, ty, hk, k⟩
theorem one_new {G : Hp} {o : HO} {P : Addr → Hp → Prop} (k : ∀ p G', G p = none → G' = upd G p o → Same G G' → G' p = some o → P p G') : ∀ p, G p = none → P p (upd G p o) := fun p hp => k p _ hp rfl (same_new hp) upd_same
theorem small_size {n : Nat} (h : n ≤ 1000000) : n ≤ sizeLine := Nat.le_trans h (by rw [sizeLine_eq]; decide)
theorem small_lt {n : Nat} (h : n ≤ 1000000) : n < sizeLine := Nat.lt_of_le_of_lt h (by rw [sizeLine_eq]; decide)

/-! ### fields by place: the names written, the values by place -/
def nin (x : Str) : List Str → Bool
  | [] => true
  | n :: r => !(n == x) && nin x r
def pos? (x : Str) : List Str → Option Nat
  | [] => none
  | n :: r => if n == x then some 0 else (pos? x r).map (· + 1)
abbrev FL (ns : List Str) (vs : List V) : List (Str × V) := ns.zip vs
theorem fl_get {x : Str} : ∀ {ns : List Str} {vs : List V} {i : Nat} {v : V}, pos? x ns = some i → vs[i]? = some v → (FL ns vs).lookup x = some v
  | [], _, _, _, h, _ => by cases h
  | n :: r, [], i, v, h, hv => by simp at hv
  | n :: r, w :: ws, i, v, h, hv => by
    unfold pos? at h
    show List.lookup x ((n, w) :: FL r ws) = some v
    rw [List.lookup_cons]
    by_cases e : n == x
    · rw [if_pos e] at h
      cases h
      have e' : (x == n) = true := by rw [beq_iff_eq] at e ⊢; exact e.symm
      rw [e']
      exact hv
    · rw [if_neg e] at h
      have e' : (x == n) = false := by
        rw [Bool.eq_false_iff]
        intro q
        rw [beq_iff_eq] at q
        exact e (by rw [q]; simp)
      rw [e']
      cases hp : pos? x r with
      | none => rw [hp] at h; cases h
      | some j =>
        rw [hp] at h
        cases h
        exact fl_get (ns := r) hp (by simpa using hv)
theorem fl_no {x : Str} : ∀ {ns : List Str} {vs : List V}, nin x ns = true → (FL ns vs).lookup x = none
  | [], _, _ => rfl
  | n :: r, [], _ => rfl
  | n :: r, w :: ws, h => by
    unfold nin at h
    simp only [Bool.and_eq_true, Bool.not_eq_true'] at h
    show List.lookup x ((n, w) :: FL r ws) = none
    have e' : (x == n) = false := by
      rw [Bool.eq_false_iff]
      intro q
      rw [beq_iff_eq] at q
      rw [q] at h
      simp at h
    rw [List.lookup_cons, e']
    exact fl_no h.2
theorem fl_put {x : Str} {v : V} : ∀ {ns : List Str} {vs : List V}, ns.length = vs.length → nin x ns = true → putF x v (FL ns vs) = FL (ns ++ [x]) (vs ++ [v])
  | [], [], _, _ => rfl
  | n :: r, w :: ws, hl, h => by
    unfold nin at h
    simp only [Bool.and_eq_true, Bool.not_eq_true'] at h
    have e' : ¬ n = x := fun q => by
      rw [q] at h
      simp at h
    show (if n = x then _ else (n, w) :: putF x v (FL r ws)) = _
    rw [if_neg e', fl_put (by simpa using hl) h.2]
    rfl
theorem fl_len {ns : List Str} {vs : List V} : (FL ns vs).length ≤ ns.length := by
  rw [List.length_zip]
  omega
section
variable {K : PySem.W.Frag} {σ : L2.St} {H : Hp} {Q : VK} {D : Ends} {ta tv : TE} {f : Str} {a C dx : Addr} {ns : List Str} {vs : List V} {v y : V}
def rFld (K : PySem.W.Frag) (f : Str) (x : V) (H : Hp) (Q : VK) : Prop := ∃ a C dx fs v, x = .ref a ∧ H a = some (.ins C dx fs) ∧ Cls K C ∧ NoAttr K C f ∧ fs.lookup f = some v ∧ Q v H
theorem k_fld (h : ta σ H fun x H1 => rFld K f x H1 Q) : tFld K ta f σ H Q := h
theorem k_fldAt {i : Nat} (h : H a = some (.ins C dx (FL ns vs))) (c : Cls K C) (n : NoAttr K C f) (hi : pos? f ns = some i) (hv : vs[i]? = some v) (q : Q v H) : rFld K f (.ref a) H Q := ⟨a, C, dx, _, v, rfl, h, c, n, fl_get hi hv, q⟩
def rPutF (K : PySem.W.Frag) (f : Str) (y x : V) (H : Hp) (Q : Hp → Prop) : Prop := ∃ a C dx fs, x = .ref a ∧ H a = some (.ins C dx fs) ∧ Cls K C ∧ NoAttr K C f ∧ fs.length < 1000 ∧ Q (upd H a (.ins C dx (putF f y fs)))
theorem k_putF (h : tv σ H fun y H1 => ta σ H1 fun x H2 => rPutF K f y x H2 fun H3 => D.nx σ H3) : sFld K ta tv f D σ H := h
theorem k_putAt {Q : Hp → Prop} (h : H a = some (.ins C dx (FL ns vs))) (c : Cls K C) (n : NoAttr K C f) (hl : ns.length = vs.length) (hn : nin f ns = true) (hs : ns.length < 1000) (q : Q (upd H a (.ins C dx (FL (ns ++ [f]) (vs ++ [y]))))) : rPutF K f y (.ref a) H Q :=
  ⟨a, C, dx, _, rfl, h, c, n, Nat.lt_of_le_of_lt fl_len hs, by rw [fl_put hl hn]; exact q⟩
/-- the same, the instance just laid on top -/
theorem k_putTop {Q : Hp → Prop} (c : Cls K C) (n : NoAttr K C f) (hl : ns.length = vs.length) (hn : nin f ns = true) (hs : ns.length < 1000) (q : Q (upd H a (.ins C dx (FL (ns ++ [f]) (vs ++ [y]))))) : rPutF K f y (.ref a) (upd H a (.ins C dx (FL ns vs))) Q :=
  k_putAt upd_same c n hl hn hs (by rw [upd_upd]; exact q)
end
theorem len_text {i : Int} {k : Nat} (hk : 0 < k) (h : i.natAbs < 10 ^ k) : (Str.ofString (toString i)).length ≤ k + 1 := by
  have e := PySem.int_text_length_le10 hk h
  rw [PySem.ofString_length]
  exact e
theorem log_text {i : Int} {k : Nat} (hk : k ≤ 1000) (h : i.natAbs < 2 ^ k) : i.natAbs.log2 < 1920 := by
  by_cases h0 : i.natAbs = 0
  · rw [h0]; decide
  · exact Nat.lt_of_lt_of_le ((Nat.log2_lt h0).mpr h) (by omega)

theorem k_disp {n : Nat} {P : Prop} (h : n ≤ 1000000) (k : P) : n ≤ sizeLine ∧ P := ⟨small_size h, k⟩
/-! ### loops -/
section
variable {K : PySem.W.Frag} {σ : L2.St} {H : Hp} {D : Ends} {wi : TI} {g : TG} {tb : TS} {tl : TE} {ta : TA} {a : Addr} {xs : List V}
def ForW (J : It) (g : TG) (tb : TS) (D : Ends) (σ : L2.St) (H1 : Hp) : Prop := ∃ W : Nat → Nat → L2.St → Hp → Prop, (∃ m, W 0 m σ H1) ∧ ∀ i m σ H, W i m σ H →
  (J.stop i H ∧ D.nx σ H) ∨ (J.go i H ∧ ∃ N : L2.St → Hp → Prop, (∀ σ' H', N σ' H' → ∃ m', m' < m ∧ W (i + 1) m' σ' H') ∧ ∀ x H', J.yld i H x H' → g x σ H' fun σ2 H2 => tb { D with nx := N, ct := N, bk := D.nx } σ2 H2)
theorem k_for (h : wi σ H fun J H1 => ForW J g tb D σ H1) : tFor wi g tb D σ H := h
def rIL (K : PySem.W.Frag) (R : It → Hp → Prop) (x : V) (H : Hp) : Prop := ∃ a, x = .ref a ∧ (∃ xs, SqL K H a xs) ∧ R (Itl K a) H
def rIT (K : PySem.W.Frag) (R : It → Hp → Prop) (x : V) (H : Hp) : Prop := ∃ a, x = .ref a ∧ (∃ xs, SqT K H a xs) ∧ R (Itt K a) H
theorem k_iList {R : It → Hp → Prop} (h : tl σ H fun x H1 => rIL K R x H1) : iList K tl σ H R := h
theorem k_iTup {R : It → Hp → Prop} (h : tl σ H fun x H1 => rIT K R x H1) : iTup K tl σ H R := h
theorem k_iL {R : It → Hp → Prop} (h : SqL K H a xs) (k : R (Itl K a) H) : rIL K R (.ref a) H := ⟨a, rfl, ⟨xs, h⟩, k⟩
theorem k_iT {R : It → Hp → Prop} (h : SqT K H a xs) (k : R (Itt K a) H) : rIT K R (.ref a) H := ⟨a, rfl, ⟨xs, h⟩, k⟩
theorem k_forList (xs : List V) (Pv : Nat → L2.St → Hp → Prop) (h0 : Pv 0 σ H) (hl : ∀ i σ H, i ≤ xs.length → Pv i σ H → SqL K H a xs)
    (hs : ∀ i x σ H, xs[i]? = some x → Pv i σ H → g x σ H fun σ2 H2 => tb { D with nx := Pv (i + 1), ct := Pv (i + 1), bk := D.nx } σ2 H2) (hd : ∀ σ H, Pv xs.length σ H → D.nx σ H) : ForW (Itl K a) g tb D σ H := for_list Pv h0 hl hs hd
theorem k_forTup (xs : List V) (Pv : Nat → L2.St → Hp → Prop) (h0 : Pv 0 σ H) (hl : ∀ i σ H, i ≤ xs.length → Pv i σ H → SqT K H a xs)
    (hs : ∀ i x σ H, xs[i]? = some x → Pv i σ H → g x σ H fun σ2 H2 => tb { D with nx := Pv (i + 1), ct := Pv (i + 1), bk := D.nx } σ2 H2) (hd : ∀ σ H, Pv xs.length σ H → D.nx σ H) : ForW (Itt K a) g tb D σ H := for_tup Pv h0 hl hs hd
def rR1 (R : It → Hp → Prop) (vs : List V) (H : Hp) : Prop := ∃ j : Int, vs = [.int j] ∧ -(2 ^ 62) ≤ j ∧ j < 2 ^ 62 ∧ R (Itr 0 j.toNat) H
def rR2 (R : It → Hp → Prop) (vs : List V) (H : Hp) : Prop := ∃ i j : Int, vs = [.int i, .int j] ∧ (-(2 ^ 62) ≤ i ∧ i < 2 ^ 62 ∧ -(2 ^ 62) ≤ j ∧ j < 2 ^ 62) ∧ R (Itr i (j - i).toNat) H
theorem k_rng1 {R : It → Hp → Prop} (h : ta σ H fun vs H1 => rR1 R vs H1) : iRng1 ta σ H R := h
theorem k_rng2 {R : It → Hp → Prop} (h : ta σ H fun vs H1 => rR2 R vs H1) : iRng2 ta σ H R := h
theorem k_r1 {R : It → Hp → Prop} {j : Int} (h : -(2 ^ 62) ≤ j ∧ j < 2 ^ 62) (k : R (Itr 0 j.toNat) H) : rR1 R [.int j] H := ⟨j, rfl, h.1, h.2, k⟩
theorem k_r2 {R : It → Hp → Prop} {i j : Int} (h : -(2 ^ 62) ≤ i ∧ i < 2 ^ 62 ∧ -(2 ^ 62) ≤ j ∧ j < 2 ^ 62) (k : R (Itr i (j - i).toNat) H) : rR2 R [.int i, .int j] H := ⟨i, j, rfl, h, k⟩
theorem k_forRange {lo : Int} {n : Nat} (Pv : Nat → L2.St → Hp → Prop) (h0 : Pv 0 σ H)
    (hs : ∀ i σ H, i < n → Pv i σ H → g (.int (lo + i)) σ H fun σ2 H2 => tb { D with nx := Pv (i + 1), ct := Pv (i + 1), bk := D.nx } σ2 H2) (hd : ∀ σ H, Pv n σ H → D.nx σ H) : ForW (Itr lo n) g tb D σ H := for_range Pv h0 hs hd
/-- comprehensions -/
def LcW (J : It) (g : TG) (tt : TT) (te : TE) (vs : List Nat) (σ : L2.St) (H1 : Hp) (D : Addr) (Qd : Hp → Prop) : Prop := ∃ W : Nat → Nat → Hp → Prop, (∃ m, W 0 m (upd H1 D (.lst []))) ∧ ∀ i m H, W i m H →
  (J.stop i H ∧ Qd H) ∨ (J.go i H ∧ ∃ Nx : Hp → Prop, (∀ H', Nx H' → ∃ m', m' < m ∧ W (i + 1) m' H') ∧ ∀ x H', J.yld i H x H' → g x (wipe σ vs) H' fun σ2 H2 => wipe σ2 vs = wipe σ vs ∧ tt σ2 H2 fun b H3 =>
    if b = true then te σ2 H3 fun y H4 => ∃ acc, H4 D = some (.lst acc) ∧ acc.length < sizeLine ∧ Nx (upd H4 D (.lst (acc ++ [y]))) else Nx H3)
theorem k_lc {tt : TT} {te : TE} {vs : List Nat} {Q : VK} (h : wi σ H fun J H1 => ∀ D, H1 D = none → LcW J g tt te vs σ H1 D (fun H2 => Q (.ref D) H2)) : tLc wi g tt te vs σ H Q := h
theorem k_lcList {tt : TT} {te : TE} {vs : List Nat} {D : Addr} {Qd : Hp → Prop} (xs : List V) (Pv : Nat → Hp → Prop) (h0 : Pv 0 (upd H D (.lst []))) (hl : ∀ i H, i ≤ xs.length → Pv i H → SqL K H a xs)
    (hs : ∀ i x H, xs[i]? = some x → Pv i H → g x (wipe σ vs) H fun σ2 H2 => wipe σ2 vs = wipe σ vs ∧ tt σ2 H2 fun b H3 =>
      if b = true then te σ2 H3 fun y H4 => ∃ acc, H4 D = some (.lst acc) ∧ acc.length < sizeLine ∧ Pv (i + 1) (upd H4 D (.lst (acc ++ [y]))) else Pv (i + 1) H3) (hd : ∀ H, Pv xs.length H → Qd H) : LcW (Itl K a) g tt te vs σ H D Qd := lc_list Pv h0 hl hs hd
theorem k_lcTup {tt : TT} {te : TE} {vs : List Nat} {D : Addr} {Qd : Hp → Prop} (xs : List V) (Pv : Nat → Hp → Prop) (h0 : Pv 0 (upd H D (.lst []))) (hl : ∀ i H, i ≤ xs.length → Pv i H → SqT K H a xs)
    (hs : ∀ i x H, xs[i]? = some x → Pv i H → g x (wipe σ vs) H fun σ2 H2 => wipe σ2 vs = wipe σ vs ∧ tt σ2 H2 fun b H3 =>
      if b = true then te σ2 H3 fun y H4 => ∃ acc, H4 D = some (.lst acc) ∧ acc.length < sizeLine ∧ Pv (i + 1) (upd H4 D (.lst (acc ++ [y]))) else Pv (i + 1) H3) (hd : ∀ H, Pv xs.length H → Qd H) : LcW (Itt K a) g tt te vs σ H D Qd := lc_tup Pv h0 hl hs hd
theorem k_lcRange {tt : TT} {te : TE} {vs : List Nat} {D : Addr} {Qd : Hp → Prop} {lo : Int} {n : Nat} (Pv : Nat → Hp → Prop) (h0 : Pv 0 (upd H D (.lst [])))
    (hs : ∀ i H, i < n → Pv i H → g (.int (lo + i)) (wipe σ vs) H fun σ2 H2 => wipe σ2 vs = wipe σ vs ∧ tt σ2 H2 fun b H3 =>
      if b = true then te σ2 H3 fun y H4 => ∃ acc, H4 D = some (.lst acc) ∧ acc.length < sizeLine ∧ Pv (i + 1) (upd H4 D (.lst (acc ++ [y]))) else Pv (i + 1) H3) (hd : ∀ H, Pv n H → Qd H) : LcW (Itr lo n) g tt te vs σ H D Qd := lc_range Pv h0 hs hd
theorem k_yes {Q : Bool → Hp → Prop} (h : Q true H) : tYes σ H Q := h
/-- a while by an invariant and a measure, the test read at once -/
theorem k_while {c : TT} (W : Nat → L2.St → Hp → Prop) (m : Nat) (h0 : W m σ H)
    (hs : ∀ m σ H, W m σ H → c σ H fun b H1 => if b = true then ∃ N : L2.St → Hp → Prop, (∀ σ' H', N σ' H' → ∃ m', m' < m ∧ W m' σ' H') ∧ tb { D with nx := N, ct := N, bk := D.nx } σ H1 else D.nx σ H1) : tWhile c tb D σ H := ⟨W, ⟨m, h0⟩, hs⟩
/-- list(..), tuple(..) of what is read -/
theorem k_listL {p : Addr} {ys : List V} {Q : VK} (h : SqL K H p ys) (k : ∀ l, H l = none → Q (.ref l) (upd H l (.lst ys))) : rListU K [.ref p] H Q := ⟨p, ys, rfl, .inl h, k⟩
theorem k_listT {p : Addr} {ys : List V} {Q : VK} (h : SqT K H p ys) (k : ∀ l, H l = none → Q (.ref l) (upd H l (.lst ys))) : rListU K [.ref p] H Q := ⟨p, ys, rfl, .inr h, k⟩
theorem k_tupleL {p : Addr} {ys : List V} {Q : VK} (h : SqL K H p ys) (k : ∀ l, H l = none → Q (.ref l) (upd H l (.tup ys))) : rTupleU K [.ref p] H Q := ⟨p, ys, rfl, .inl ⟨h, k⟩⟩
theorem k_slL {p : Addr} {ys : List V} {lo hi : Option Int} {Q : VK} (h : SqL K H p ys) (k : ∀ l, H l = none → Q (.ref l) (upd H l (.lst (cutV ys lo hi)))) : rSlL K (.ref p) lo hi H Q := ⟨p, ys, rfl, h, k⟩
end
theorem cut_ints {ns : List Int} {lo hi : Option Int} : ∃ ms : List Int, cutV (ns.map V.int) lo hi = ms.map V.int := by
  unfold cutV
  exact ⟨_, by rw [List.length_map, ← List.map_drop, ← List.map_take]⟩

/-! ### targets that are tuples; walks of any kind -/
section
variable {K : PySem.W.Frag} {σ : L2.St} {H : Hp} {D : Ends} {g : TG} {tb : TS} {n : Nat} {J : It} {G : Hp → Prop} {Y : Nat → Hp → V → Hp → Prop}
theorem k_gTup {p : Addr} {xs : List V} {t : TGs} {Q : L2.St → Hp → Prop} (h : SqT K H p xs) (hl : xs.length = n) (k : t xs σ H Q) : gTup K n t (.ref p) σ H Q := ⟨p, xs, rfl, h, hl, k⟩
theorem k_gCons {v : V} {r : List V} {t : TG} {u : TGs} {Q : L2.St → Hp → Prop} (k : t v σ H fun σ' H' => u r σ' H' Q) : gCons t u (v :: r) σ H Q := ⟨v, r, rfl, k⟩
theorem k_gNil {Q : L2.St → Hp → Prop} (k : Q σ H) : gNil [] σ H Q := ⟨rfl, k⟩
theorem k_forIt (w : Walk J n G Y) (Pv : Nat → L2.St → Hp → Prop) (h0 : Pv 0 σ H) (hG : ∀ i σ H, i ≤ n → Pv i σ H → G H)
    (hs : ∀ i x σ H H', i < n → Pv i σ H → Y i H x H' → g x σ H' fun σ2 H2 => tb { D with nx := Pv (i + 1), ct := Pv (i + 1), bk := D.nx } σ2 H2) (hd : ∀ σ H, Pv n σ H → D.nx σ H) : ForW J g tb D σ H := for_it w Pv h0 hG hs hd
theorem k_lcIt (w : Walk J n G Y) {tt : TT} {te : TE} {vs : List Nat} {D : Addr} {Qd : Hp → Prop} (Pv : Nat → Hp → Prop) (h0 : Pv 0 (upd H D (.lst []))) (hG : ∀ i H, i ≤ n → Pv i H → G H)
    (hs : ∀ i x H H', i < n → Pv i H → Y i H x H' → g x (wipe σ vs) H' fun σ2 H2 => wipe σ2 vs = wipe σ vs ∧ tt σ2 H2 fun b H3 =>
      if b = true then te σ2 H3 fun y H4 => ∃ acc, H4 D = some (.lst acc) ∧ acc.length < sizeLine ∧ Pv (i + 1) (upd H4 D (.lst (acc ++ [y]))) else Pv (i + 1) H3) (hd : ∀ H, Pv n H → Qd H) : LcW J g tt te vs σ H D Qd := lc_it w Pv h0 hG hs hd
theorem k_iEnum {ta : TA} {R : It → Hp → Prop} (h : ta σ H fun vs H1 => ∃ a xs, vs = [.ref a] ∧ SqL K H1 a xs ∧ R (Ite K a) H1) : iEnum K ta σ H R := h
theorem k_iZip {ta : TA} {R : It → Hp → Prop} (h : ta σ H fun vs H1 => ∃ a b xs ys, vs = [.ref a, .ref b] ∧ SqL K H1 a xs ∧ SqL K H1 b ys ∧ R (Itz K a b) H1) : iZip K ta σ H R := h
theorem kpi_enum {X : Cx} (K : PySem.W.Frag) {e : Expr} {ta : TA} {p pos tpos : Pos} {elts : List Expr} {kk : Nat} (hg : Gl X "enumerate") (hm : X.mg "enumerate" = none) (ha : PA X [e] ta) (hK : X.K = K := by rfl) (hs : starEach [e] X.env = [(false, eval e X.env)] := by rfl) :
    PI X (.Tuple elts kk tpos) (.Call (.Name "enumerate" p) [e] [] pos) (iEnum K ta) := by subst hK; exact pi_enum hg hm ha hs
end
def rJoin (K : PySem.W.Frag) (x : V) (y : V) (H : Hp) (Q : VK) : Prop := ∃ a p, ∃ ys : List Str, x = .str a ∧ [y] = [V.ref p] ∧ (SqL K H p (ys.map V.str) ∨ SqT K H p (ys.map V.str)) ∧ (ys.map (·.length)).sum + ys.length * a.length ≤ 16777216 ∧ Q (.str (Txt.join a ys)) H
def tJoinU (K : PySem.W.Frag) (to te : TE) : TE := fun σ H Q => to σ H fun x H1 => (∃ a, x = .str a) ∧ te σ H1 fun y H2 => rJoin K x y H2 Q
theorem kpe_join {X : Cx} (K : PySem.W.Frag) {o e : Expr} {to te : TE} {apos pos : Pos} (ho : PE X o to) (he : PE X e te) (hK : X.K = K := by rfl) (hs : starEach [e] X.env = [(false, eval e X.env)] := by rfl) (hbase : attributeBase o "join" X.env (eval o X.env) = eval o X.env := by rfl) (hline : (apos.endLine == pos.line) = true := by rfl) :
    PE X (.Call (.Attribute o "join" apos) [e] [] pos) (tJoinU K to te) := by subst hK; exact pe_join ho he hs hbase hline
theorem k_joinC {K : PySem.W.Frag} {σ : L2.St} {H : Hp} {Q : VK} {z : Str} {te : TE} (h : te σ H fun y H2 => rJoin K (.str z) y H2 Q) : tJoinU K (tC (.str z)) te σ H Q := ⟨⟨z, rfl⟩, h⟩
theorem k_joinL {K : PySem.W.Frag} {H : Hp} {Q : VK} {z : Str} {p : Addr} {ys : List Str} (h : SqL K H p (ys.map V.str)) (hz : (ys.map (·.length)).sum + ys.length * z.length ≤ 16777216) (k : ∀ out : Str, out = Txt.join z ys → Q (.str out) H) : rJoin K (.str z) (.ref p) H Q := ⟨z, p, ys, rfl, rfl, .inl h, hz, k _ rfl⟩
/-! ### f-strings, join -/
section
variable {σ : L2.St} {H : Hp} {te : TE}
theorem k_js {ts : List TE} {Q : VK} (h : tJs ts Str.empty σ H fun out H1 => Q (.str out) H1) : (fun (σ : L2.St) (H : Hp) (Q : VK) => tJs ts Str.empty σ H fun out H1 => Q (.str out) H1) σ H Q := h
theorem k_jsNil {acc : Str} {Q : Str → Hp → Prop} (h : Q acc H) : tJs [] acc σ H Q := h
theorem k_jsCons {ts : List TE} {acc : Str} {Q : Str → Hp → Prop} (h : te σ H fun x H1 => ∃ y : Str, x = .str y ∧ (acc ++ y).length ≤ sizeLine ∧ tJs ts (acc ++ y) σ H1 Q) : tJs (te :: ts) acc σ H Q := h
theorem k_jsV {acc z : Str} {P : Str → Prop} (h : (acc ++ z).length ≤ 1000000) (k : P z) : ∃ y : Str, V.str z = .str y ∧ (acc ++ y).length ≤ sizeLine ∧ P y := ⟨z, rfl, small_size h, k⟩
def rFmt (x : V) (H : Hp) (Q : VK) : Prop := (∃ y : Str, x = .str y ∧ y.length ≤ sizeLine ∧ Q (.str y) H) ∨ ∃ i : Int, x = .int i ∧ i.natAbs.log2 < 1920 ∧ Q (.str (toString i)) H
theorem k_fmt {Q : VK} (h : te σ H fun x H1 => rFmt x H1 Q) : tFmt te σ H Q := h
theorem k_fmtS {z : Str} {Q : VK} (h : z.length ≤ 1000000) (k : Q (.str z) H) : rFmt (.str z) H Q := .inl ⟨z, rfl, small_size h, k⟩
theorem k_fmtI {i : Int} {Q : VK} (h : i.natAbs < 2 ^ 64) (k : Q (.str (toString i)) H) : rFmt (.int i) H Q := .inr ⟨i, rfl, log_text (k := 64) (by decide) h, k⟩
theorem k_str1 {i : Int} {Q : VK} (h : i.natAbs < 2 ^ 64) (k : Q (.str (toString i)) H) : rStr1 [.int i] H Q := ⟨i, rfl, log_text (k := 64) (by decide) h, k⟩
end
theorem len_empty : Str.empty.length = 0 := by decide +kernel

/-! ### what changes one object alone -/
def SameBut (a : Addr) (H H' : Hp) : Prop := ∀ b o, b ≠ a → H b = some o → H' b = some o
theorem SameBut.refl (a : Addr) (H : Hp) : SameBut a H H := fun _ _ _ h => h
theorem SameBut.trans {a : Addr} {H H1 H2 : Hp} (x : SameBut a H H1) (y : SameBut a H1 H2) : SameBut a H H2 := fun b o n h => y b o n (x b o n h)
theorem SameBut.of {a : Addr} {H H' : Hp} (x : Same H H') : SameBut a H H' := fun b o _ h => x b o h
theorem SameBut.put {a : Addr} {H H' : Hp} {o : HO} (x : SameBut a H H') : SameBut a H (upd H' a o) := fun b u n h => by
  rw [upd_ne n]
  exact x b u n h
/-- the object was new: all is as it was -/
theorem SameBut.made {x dx : Addr} {H H' : Hp} {C : Addr} {fs : List (Str × V)} (hx : H x = none) (hd : H dx = none) (ne : dx ≠ x) (s : SameBut x (upd (upd H dx (.own x)) x (.ins C dx fs)) H') : Same H H' := fun b o h => by
  have n1 : b ≠ x := ne_of_none h hx
  have n2 : b ≠ dx := ne_of_none h hd
  exact s b o n1 (by rw [upd_ne n1, upd_ne n2]; exact h)
theorem cc_look {cc : Addr} : List.lookup ("__class__" : Str) [(("__class__" : Str), cc)] = some cc := by
  rw [List.lookup_cons]
  simp
end Kit

/-! Sup: methods of the program's own classes that say super().m(..): the def closes over its class. -/
namespace Kit
open PySem PySem.Spec PyProof.Rows L2

structure SupAt (K : PySem.W.Frag) (C D f2 : Addr) (name : Str) : Prop where
  sub : PySem.W.mroIn K C (.ref D) = some true
  m : PySem.W.ks_superIn K C D name = some (some (.ref f2))
  fn : PySem.W.fnIn K f2 = true
  ty : PySem.W.typeIn K (.ref f2) = some (.type "function")
structure SupDef (P : Program) (K : PySem.W.Frag) (mg : Str → Option Value) (f D cc cda : Addr) (sf : Str) : Prop where
  fn : ∃ oc od fd osl ar, K.lookup f = some ⟨oc, od, .func fd, osl⟩ ∧ (fd.params.posonlyargs ++ fd.params.args).head? = some ar ∧ ar.arg = sf
  code : ∃ ccl cdd vs ccs file tf, K.lookup cda = some ⟨ccl, cdd, .fields vs, ccs⟩ ∧ vs[2]? = some (.str file tf) ∧ ((P.main.file : Str) == file) = true
  cell : ∃ cl cld csl, K.lookup cc = some ⟨cl, cld, .cell (some (.ref D)), csl⟩
  cls : ∃ cdD, PySem.W.clsIn K D = some cdD
  sup : mg "super" = none
  top : (P.main.scope.names.lookup ("super" : Str)).isSome = false
  st : PySem.W.nsIn K cStatics "thirdparty.any" = some none

/-- a block, a statement, in the activation of the def whose whole body is told -/
structure PSA (X : Cx) (body sts : List Stmt) (t : TS) : Prop where
  go : ∀ (pins : List (Addr × Obj)) (s : Shared) (σ : L2.St) (H : Hp) (D : Ends), Inv X pins σ H s → t D σ H → PySem.wpAt (model X.prog X.w) X.A (.func body X.env) (execs sts X.env) (SP X pins D) X.xe s
structure PSt (X : Cx) (body : List Stmt) (st : Stmt) (t : TS) : Prop where
  go : ∀ (pins : List (Addr × Obj)) (s : Shared) (σ : L2.St) (H : Hp) (D : Ends), Inv X pins σ H s → t D σ H → PySem.wpAt (model X.prog X.w) X.A (.func body X.env) (exec st X.env) (SP X pins D) X.xe s
section
variable {X : Cx} {body rest sts : List Stmt} {st : Stmt} {t u : TS}
theorem psa_of (h : PSs X sts t) : PSA X body sts t := ⟨fun pins s σ H D I q => wpAt_of_wpAny (h.run pins s σ H D I q)⟩
theorem pst_of (h : PS X st t) : PSt X body st t := ⟨fun pins s σ H D I q => wpAt_of_wpAny (h.run pins s σ H D I q)⟩
theorem psa_cons (h1 : PSt X body st t) (h2 : PSA X body rest u) : PSA X body (st :: rest) (tSeq t u) := by
  refine ⟨fun pins s σ H D I q => ks_wpAt_execs_cons (ks_wpAt_mono (h1.go pins s σ H _ I q) (fun fl s' hf => ?_) fun _ _ z => z)⟩
  cases fl with
  | next =>
    obtain ⟨σ', H', I', q'⟩ := hf
    exact h2.go pins s' σ' H' D I' q'
  | ret v => exact hf
  | brk => exact hf
  | cont => exact hf
theorem psa_one (h1 : PSt X body st t) : PSA X body [st] t := by
  refine ⟨fun pins s σ H D I q => ks_wpAt_execs_cons (ks_wpAt_mono (h1.go pins s σ H _ I q) (fun fl s' hf => ?_) fun _ _ z => z)⟩
  cases fl with
  | next => exact wpAt_of_wpAny (wpAny_execs_nil hf)
  | ret v => exact hf
  | brk => exact hf
  | cont => exact hf

/-- super().m(e, ..) as a statement; self in the first slot -/
def tSup (K : PySem.W.Frag) (D : Addr) (name : Str) (f2 : Addr) (sp : Sp) (dvs : List V) (E : XK) (ta : TA) : TS := fun B σ H => ∃ a C dx fs, σ[0]? = some (some (V.ref a)) ∧ H a = some (.ins C dx fs) ∧ SupAt K C D f2 name ∧
  ∀ q, H q = none → ta σ (upd H q (.met f2 a)) fun vs H1 => H1 q = some (.met f2 a) ∧ sp (.ref a :: (vs ++ dvs)) H1 (fun _ H2 => B.nx σ H2) E
theorem pst_super {f D cc cda f2 : Addr} {self name : Str} {e : Expr} {es : List Expr} {ta : TA} {sp : Sp} {dvs : List V} {ds : List Value} {E : XK} {CX : CXT} {k : Nat} {fd2 : FuncData} {ps : List Str} {p0 p1 apos pos spos : Pos} {pl : Sem Bool}
    (S : SupDef X.prog X.K X.mg f D cc cda self) (hfu : X.env.func = some f) (hco : X.env.code = .ref cda) (hks : X.env.kindOf "super" = some .globalImplicit) (hkc : X.env.kindOf "__class__" = some .free) (hcc : X.env.cells.lookup ("__class__" : Str) = some cc)
    (hN : X.N[0]? = some self) (hv : X.env.scope.names.lookup self = some .local) (hn : (name == ("__class__" : Str)) = false)
    (F : FnOk X.prog X.w X.K X.mg X.base CX k f2 fd2 ps sp) (hr : Room k X.A) (hb : Binds X.K fd2 ps ds) (hd : Vals dvs ds) (hx : Passes CX X E) (ha : PA X (e :: es) ta)
    (hs : swapsWith (.Call (.Attribute (.Call (.Name "super" p0) [] [] p1) name apos) (e :: es) [] pos) none spos.line X.env = pure false := by rfl)
    (he0 : eval (.Call (.Attribute (.Call (.Name "super" p0) [] [] p1) name apos) (e :: es) [] pos) X.env = (do
      let ov ← attributeBase (.Call (.Name "super" p0) [] [] p1) name X.env (eval (.Call (.Name "super" p0) [] [] p1) X.env)
      standAt apos.atName
      let (f, first) ← holding [ov] (getMethod ov name pl)
      callWith pos f first (backTo pos (starEach (e :: es) X.env)) []) := by rfl)
    (he : starEach (e :: es) X.env = (false, eval e X.env) :: starEach es X.env := by rfl) (hpl : (backTo pos (starEach es X.env)).any (·.1) = false := by rfl) :
    PSt X body (.Expr (.Call (.Attribute (.Call (.Name "super" p0) [] [] p1) name apos) (e :: es) [] pos) spos) (tSup X.K D name f2 sp dvs E ta) := by
  refine ⟨fun pins s σ H B I h => ?_⟩
  obtain ⟨a, C, dx, fs, hσ, hH, SA, q⟩ := h
  obtain ⟨oc, od, fd, osl, ar, lkf, hhead, har⟩ := S.fn
  obtain ⟨ccl, cdd, vs, ccs, file, tf, lkc, hvs, hfile⟩ := S.code
  obtain ⟨cl, cld, csl, lkcell⟩ := S.cell
  obtain ⟨cdD, hD⟩ := S.cls
  have KI := I.kIn
  obtain ⟨mA, OM, _⟩ := ins_get I.hok hH
  obtain ⟨odx, IA, _⟩ := OM.look
  obtain ⟨oD, hD1, hD2⟩ : ∃ oD, s.heap.get? D = some oD ∧ oD.data = .cls cdD := by
    unfold PySem.W.clsIn at hD
    split at hD
    · rename_i c d cd' sl ho
      cases hD
      exact ⟨_, KI _ _ ho, rfl⟩
    · cases hD
  obtain ⟨m, hns, hloc⟩ := I.loc
  obtain ⟨u, ru, lk⟩ := hloc 0 self (.ref a) hN hσ (.inl hv)
  cases ru
  have hself : m self = some (.ref a) := by
    rcases lk with ⟨_, z⟩ | ⟨z, _⟩
    · exact z
    · have z' : X.env.scope.names.lookup self = some .cell ∨ X.env.scope.names.lookup self = some .free := z
      rw [hv] at z'
      rcases z' with z' | z' <;> cases z'
  refine ks_wpAt_Expr_any ?_ I.quiet hs
  refine ks_wpAt_MethodCall ?_ he0
  refine ks_wpAt_super_base (env := X.env) hks hkc hn hfu (KI _ _ lkf) rfl hhead hco (KI _ _ lkc) rfl hvs hfile S.top ?_
  obtain ⟨mb, hb1, hb2⟩ := I.mod.blt
  refine PySem.W.ks_loadName_global I.ok.kind hks (Calls.loadGlobal_builtin (by rw [I.ok.glob]; exact I.mod.glob.keeps I.bk) S.sup (by rw [I.ok.blt]; exact hb1.keeps I.bk) ((hb2 "super" (by decide)).trans (show bootBuiltins "super" = some (.type "super") by decide +kernel)) ⟨rfl, ?_⟩)
  refine wpAny_loadName_free I.ok.kind hkc hcc ⟨_, KI _ _ lkcell, rfl⟩ ?_
  rw [har]
  refine wpAny_loadName_local I.ok.kind hv hns hself ?_
  refine ks_wpAny_isType_cls hD1 hD2 ⟨rfl, ?_⟩
  obtain ⟨hp, g, dr, tk, os⟩ := s
  refine ks_wpAny_call_super hD1 hD2 IA.at_ IA.cls (fun c e => ?_) (PySem.W.looks_mroIn KI SA.sub) (fun h' e k => ?_)
  · have z := IA.no
    unfold PySem.W.notCls at z
    rw [e] at z
    exact Bool.noConfusion z
  have I1 : Inv X pins σ H ⟨h', g, dr, tk, os⟩ := I.kept (t' := tk) k
  have KI1 := I1.kIn
  have hm := SA.m
  unfold PySem.W.ks_superIn at hm
  obtain ⟨cd, hc⟩ : ∃ cd, PySem.W.clsIn X.K C = some cd := by
    cases hc : PySem.W.clsIn X.K C with
    | none => rw [hc] at hm; cases hm
    | some cd => exact ⟨cd, rfl⟩
  rw [hc] at hm
  obtain ⟨of, lof, hofc⟩ : ∃ of, X.K.lookup f2 = some of ∧ of.cls = .type "function" := by
    have ht' : (X.K.lookup f2).map (·.cls) = some (.type "function") := SA.ty
    cases z : X.K.lookup f2 with
    | none => rw [z] at ht'; cases ht'
    | some of => rw [z] at ht'; exact ⟨of, rfl, Option.some.inj ht'⟩
  refine ks_wpAny_getMethod_super e (PySem.W.looks_opaque KI1 S.st) (l₀ := cd.mro) ?_ rfl KI1 hm (KI1 _ _ lof) hofc (PySem.W.ks_ne KI IA hc) hn ?_
  · exact fun A Q E s k q => wpAny_bind ((PySem.W.looks_clsIn KI1 hc) A _ E s k (wpAny_pure q))
  have nq : H h'.objs.size = none := I1.hok.fresh (Nat.le_refl _)
  have hq0 : (h'.push { cls := .type "method", data := .fields #[.ref f2, .ref a] }).get? h'.objs.size = some (PySem.W.methodObj (.ref f2) (.ref a)) := Heap.get?_push_at rfl rfl
  have I2 : Inv X pins σ (upd H h'.objs.size (.met f2 a)) ⟨h'.push { cls := .type "method", data := .fields #[.ref f2, .ref a] }, g, dr, tk + 1, os⟩ :=
    I1.laid (t' := tk + 1) (a := h'.objs.size) (o := .met f2 a) (h' := h'.push { cls := .type "method", data := .fields #[.ref f2, .ref a] }) (fun b o e => Heap.get?_push_of_some _ e) (Nat.le_refl _) hq0
  have hq := q h'.objs.size nq
  generalize h'.objs.size = qa at *
  refine PySem.W.callWith_of (P := fun h => PySem.W.MethP X.K qa f2 (.ref a) h) (by rw [he]; show ((false || (backTo pos (starEach es X.env)).any (·.1)) || false) = false; rw [hpl]; rfl) (PySem.W.keeps_M SA.fn) ?_
  rw [he]
  refine PySem.Calls.evalArgs_plain ?_
  have hrun := ha.run pos pins _ σ _ _ I2 hq
  rw [he] at hrun
  refine thn hrun fun us s1 ⟨ws, H1, I3, r1, hqm, hsp⟩ => ?_
  have hmo : s1.heap.get? qa = some (PySem.W.methodObj (.ref f2) (.ref a)) := I3.hok qa _ hqm
  refine ⟨⟨hmo, I3.kIn⟩, wpAny_call (ks_codeAny_call_bound hmo ?_)⟩
  have r2 : Vals (V.ref a :: (ws ++ dvs)) (Value.ref a :: (us ++ ds)) := .cons rfl (r1.append hd)
  have hl : (Value.ref a :: us ++ ds).length = ps.length := by
    have e := r2.length
    rw [F.len _ _ _ _ hsp] at e
    exact e.symm
  refine codeAny_mono (F.run X.A X.stack s1 H1 ⟨Value.ref a :: us, []⟩ (Value.ref a :: (us ++ ds)) _ _ E hr I3.env0 (hb _ (Value.ref a :: us) I3.kIn hl) r2 hsp) fun r s' hq' => ?_
  cases r with
  | error er => exact hx pins σ H1 s1 er s' I3 hq'
  | ok fl =>
    cases fl with
    | ret v =>
      obtain ⟨x, H2, I4, rx, q4⟩ := I3.after hq'
      exact ⟨σ, H2, I4, q4⟩
    | next => exact False.elim hq'
    | brk => exact False.elim hq'
    | cont => exact False.elim hq'
end

theorem kpst_super (K : PySem.W.Frag) {f D cc cda f2 : Addr} {self name : Str} {e : Expr} {es : List Expr} {ta : TA} {sp : Sp} {dvs : List V} {ds : List Value} {E : XK} {CX : CXT} {k : Nat} {fd2 : FuncData} {ps : List Str} {p0 p1 apos pos spos : Pos} {pl : Sem Bool}
    (S : SupDef X.prog X.K X.mg f D cc cda self) (hfu : X.env.func = some f) (hco : X.env.code = .ref cda) (hks : X.env.kindOf "super" = some .globalImplicit) (hkc : X.env.kindOf "__class__" = some .free) (hcc : X.env.cells.lookup ("__class__" : Str) = some cc)
    (hN : X.N[0]? = some self) (hv : X.env.scope.names.lookup self = some .local) (hn : (name == ("__class__" : Str)) = false)
    (F : FnOk X.prog X.w X.K X.mg X.base CX k f2 fd2 ps sp) (hr : Room k X.A) (hb : Binds X.K fd2 ps ds) (hd : Vals dvs ds) (hx : Passes CX X E) (ha : PA X (e :: es) ta) (hK : X.K = K := by rfl)
    (hs : swapsWith (.Call (.Attribute (.Call (.Name "super" p0) [] [] p1) name apos) (e :: es) [] pos) none spos.line X.env = pure false := by rfl)
    (he0 : eval (.Call (.Attribute (.Call (.Name "super" p0) [] [] p1) name apos) (e :: es) [] pos) X.env = (do
      let ov ← attributeBase (.Call (.Name "super" p0) [] [] p1) name X.env (eval (.Call (.Name "super" p0) [] [] p1) X.env)
      standAt apos.atName
      let (f, first) ← holding [ov] (getMethod ov name pl)
      callWith pos f first (backTo pos (starEach (e :: es) X.env)) []) := by rfl)
    (he : starEach (e :: es) X.env = (false, eval e X.env) :: starEach es X.env := by rfl) (hpl : (backTo pos (starEach es X.env)).any (·.1) = false := by rfl) :
    PSt X body (.Expr (.Call (.Attribute (.Call (.Name "super" p0) [] [] p1) name apos) (e :: es) [] pos) spos) (tSup K D name f2 sp dvs E ta) := by
  subst hK
  exact pst_super S hfu hco hks hkc hcc hN hv hn F hr hb hd hx ha hs he0 he hpl
theorem k_sup {K : PySem.W.Frag} {D0 f2 a C dx : Addr} {name : Str} {sp : Sp} {dvs : List V} {E : XK} {ta : TA} {B : Ends} {σ : L2.St} {H : Hp} {fs : List (Str × V)} (h0 : σ[0]? = some (some (V.ref a))) (h1 : H a = some (.ins C dx fs)) (h2 : SupAt K C D0 f2 name)
    (k : ∀ q H', H q = none → H' = upd H q (.met f2 a) → Same H H' → H' q = some (.met f2 a) → ta σ H' fun vs H1 => H1 q = some (.met f2 a) ∧ sp (.ref a :: (vs ++ dvs)) H1 (fun _ H2 => B.nx σ H2) E) : tSup K D0 name f2 sp dvs E ta B σ H :=
  ⟨a, C, dx, fs, h0, h1, h2, fun q nq => k q _ nq rfl (same_new nq) upd_same⟩
theorem PSA.nox {X : Cx} {body sts : List Stmt} {t : TS} (h : PSA X.nox body sts t) : PSA X body sts t := ⟨fun pins s σ H D I hw =>
  ks_wpAt_mono (h.go pins s σ H D (I.wish _) hw) (fun _ _ q => q.unwish) fun _ _ z => False.elim z⟩

/-- a method that closes over its class, as it stands behind the top -/
structure FunS (K : PySem.W.Frag) (x qual : Str) (st : Stmt) (f : Addr) (fd : FuncData) (cc cda : Addr) : Prop where
  ex : ∃ (oc : Value) (od : Option Addr) (kV doc pm : Value) (an : Option Addr) (ct : Value) (osl : Array (Option Value)),
    fd = PySem.W.fnX x qual (defArgs st) (defBody st) (defScope st) [("__class__", cc)] .none kV doc pm an (.ref cda) ct ∧ K.lookup f = some ⟨oc, od, .func fd, osl⟩ ∧ PySem.W.codeIn K (.ref cda) qual = true
  kp : PySem.W.keepIn K (.ref f) = true
section
variable {P : Program} {w : World} {K : PySem.W.Frag} {mg : Str → Option Value} {base : Heap}
theorem funS_mk {x qual : Str} {st : Stmt} {f cc cda : Addr} {oc : Value} {od an : Option Addr} {osl : Array (Option Value)} {kV doc pm ct : Value} (l : K.lookup f = some ⟨oc, od, .func (PySem.W.fnX x qual (defArgs st) (defBody st) (defScope st) [("__class__", cc)] .none kV doc pm an (.ref cda) ct), osl⟩)
    (c : PySem.W.codeIn K (.ref cda) qual = true) (k : PySem.W.keepIn K (.ref f) = true) : FunS K x qual st f (PySem.W.fnX x qual (defArgs st) (defBody st) (defScope st) [("__class__", cc)] .none kV doc pm an (.ref cda) ct) cc cda := ⟨⟨oc, od, kV, doc, pm, an, ct, osl, rfl, l, c⟩, k⟩
theorem FunS.binds {x qual : Str} {st : Stmt} {f cc cda : Addr} {fd : FuncData} {ps : List Str} (F : FunS K x qual st f fd cc cda)
    (h : ∀ (kV doc pm : Value) (an : Option Addr) (ct : Value) (us : List Value), us.length = ps.length → bindArgs (PySem.W.fnX x qual (defArgs st) (defBody st) (defScope st) [("__class__", cc)] .none kV doc pm an (.ref cda) ct) ⟨us, []⟩ = pure (ps.zip us)) : Binds K fd ps [] := by
  obtain ⟨oc, od, kV, doc, pm, an, ct, osl, rfl, lk, hcd⟩ := F.ex
  exact .all (h kV doc pm an ct)
abbrev nfS (x qual : Str) (st : Stmt) (cc cda : Addr) : NdefX.NF := ⟨x, qual, defArgs st, defBody st, defScope st, [("__class__", cc)], cda⟩
theorem FunS.ok {x qual : Str} {st : Stmt} {f cc cda D0 : Addr} {fd : FuncData} {N ps : List Str} {k : Nat} {sp : Sp} {cl : Value} {cld : Option Addr} {csl : Array (Option Value)} (F : FunS K x qual st f fd cc cda) (S : NdefX.NScope N ps ["__class__"] (defScope st))
    (hcell : K.lookup cc = some ⟨cl, cld, .cell (some (.ref D0)), csl⟩) (hbn : Binds K fd ps []) (len : ∀ vs H Q E, sp vs H Q E → vs.length = ps.length)
    (hbody : ∀ (A : Around) (outer : List Env) (s : Shared) (H : Hp) (vs : List V) (Q : VK) (E : XK), Room k (A.deeper (NdefX.envF (nfS x qual st cc cda) f s.heap.objs.size)) → sp vs H Q E →
      ∃ t, PSA (NdefX.ncx CX0 P w K mg base N (nfS x qual st cc cda) f A outer s H E).nox (defBody st) (defBody st) t ∧ t { nx := fun _ H' => Q .non H', rt := Q } (NdefX.startF N vs [some (.ref D0)]) H) :
    FnOk P w K mg base CX0 (k + 1) f fd ps sp := by
  obtain ⟨oc, od, kV, doc, pm, an, ct, osl, efd, lk, hcd⟩ := F.ex
  refine ⟨len, fun A outer s H args us vs Q E hr e0 hb r hsp => ?_⟩
  have hl := len _ _ _ _ hsp
  have KB := e0.mod.kin
  have KX : K.In s.heap := KB.keeps fun b o e => (e0.bs b o e).1
  have lim : s.heap.NoLimit := e0.mod.nolimit.keeps fun b o e => (e0.bs b o e).1
  have hc1 := e0.bs _ _ (KB _ _ hcell)
  have CA : NdefX.CellsAt [("__class__", cc)] ["__class__"] [some (.ref D0)] s.heap H := by
    have key : ∀ y c, List.lookup y [(("__class__" : Str), cc)] = some c → y = "__class__" ∧ c = cc := fun y c e => by
      rw [List.lookup_cons] at e
      by_cases hy : y = "__class__"
      · subst hy
        simp at e
        exact ⟨rfl, e.symm⟩
      · have : (y == ("__class__" : Str)) = false := by simpa using hy
        rw [this] at e
        cases e
    refine ⟨rfl, fun y c e => ?_, fun x y c e1 e2 => ((key x c e1).1).trans ((key y c e2).1).symm, fun i y e => ?_⟩
    · obtain ⟨rfl, rfl⟩ := key y c e
      exact ⟨hc1.2, _, _, hc1.1, rfl⟩
    · have hi : i = 0 := by
        have := (List.getElem?_eq_some_iff.mp e).1
        simp at this
        exact this
      subst hi
      have ey : ("__class__" : Str) = y := Option.some.inj e
      subst ey
      refine ⟨cc, by simp, fun v ev => ?_⟩
      have ev' : V.ref D0 = v := Option.some.inj (Option.some.inj ev)
      subst ev'
      exact ⟨.ref D0, rfl, _, hc1.1, rfl⟩
  subst efd
  refine codeAny_call_function hr.depth (KX _ _ lk) rfl S.co S.gen rfl (PySem.W.codeRec_of KX hcd) (hb _ _ _ _ ?_)
  refine wpAny_newFunctionEnv S.nocell (fun ⟨n, _⟩ hy => S.par n (List.of_mem_zip hy).1) (fun h₁ hns hsb => ⟨lim.fresh _ hsb, ?_⟩) S.kind
  show codeAny _ _ (.func (defBody st) (NdefX.envF (nfS x qual st cc cda) f s.heap.objs.size)) _ _
  have kp : ∀ b o, s.heap.get? b = some o → h₁.get? b = some o := fun b o e => hsb.extBut b o (Nat.ne_of_lt (Heap.lt_size e)) (Heap.get?_push_of_some _ e)
  obtain ⟨t, ht, hq⟩ := hbody A outer s H vs Q E (hr.deeper _) hsp
  have I : Inv (NdefX.ncx CX0 P w K mg base N (nfS x qual st cc cda) f A outer s H E) [] (NdefX.startF N vs [some (.ref D0)]) H { s with heap := h₁, toks := s.toks + (ps.zip us).length } :=
    NdefX.inv_startN (F := nfS x qual st cc cda) S hr.hd e0 hl r CA hns kp
  refine ks_codeAny_funcAt (ks_wpAt_mono (ht.nox.go [] _ _ H _ I hq) (fun fl s' hs => ?_) fun e s' hs => hs)
  have fin : ∀ {σ' : L2.St} {H' : Hp} {v : V} {u : Value}, Inv (NdefX.ncx CX0 P w K mg base N (nfS x qual st cc cda) f A outer s H E) [] σ' H' s' → L2.RelV v u → Q v H' → CE outer P w H s Q u s' :=
    fun {σ' H' v u} J rv q => ⟨v, H', J.os, J.bare, J.base, J.hok, rv, q⟩
  cases fl with
  | ret u =>
    obtain ⟨v, σ', H', J, rv, q⟩ := hs
    exact fin J rv q
  | next =>
    obtain ⟨σ', H', J, q⟩ := hs
    exact fin (v := V.non) (u := Value.none) J rfl q
  | brk =>
    obtain ⟨_, _, _, q⟩ := hs
    exact False.elim q
  | cont =>
    obtain ⟨_, _, _, q⟩ := hs
    exact False.elim q
end

/-! ### methods found by the instance's own class -/
/-- for an instance of C the method m keeps sp -/
def Disp (X : Cx) (CX : CXT) (k : Nat) (m : Str) (R : Addr → Sp → Prop) : Prop :=
  ∀ C sp, R C sp → ∃ g fd ps, Cls X.K C ∧ Meth X.K C m g ∧ FnOk X.prog X.w X.K X.mg X.base CX k g fd ps sp ∧ Binds X.K fd ps []
def tMethP (R : Addr → Sp → Prop) (m : Str) (E : XK) (ta : TE) (t : TA) : TE := fun σ H Q => ta σ H fun x H1 => ∃ a C dx fs sp, x = V.ref a ∧ H1 a = some (.ins C dx fs) ∧ R C sp ∧ fs.lookup m = none ∧ t σ H1 fun vs H2 => sp (x :: vs) H2 Q E
section
variable {X : Cx} {CX : CXT} {k : Nat} {m : Str} {R : Addr → Sp → Prop} {E : XK} {o e : Expr} {es : List Expr} {ta : TE} {t : TA} {apos pos : Pos} {pl : Sem Bool}
theorem kpe_methP (hR : Disp X CX k m R) (hr : Room k X.A) (hx : Passes CX X E) (he : PE X o ta) (ha : PA X (e :: es) t)
    (hst : starEach (e :: es) X.env = (false, eval e X.env) :: starEach es X.env := by rfl) (hpl : (backTo pos (starEach es X.env)).any (·.1) = false := by rfl)
    (ht : eval (.Call (.Attribute o m apos) (e :: es) [] pos) X.env = (do
      let ov ← eval o X.env
      standAt apos.atName
      let (f, first) ← holding [ov] (getMethod ov m pl)
      callWith pos f first (backTo pos (starEach (e :: es) X.env)) (backToKw pos (keywordEach [] X.env))) := by rfl) :
    PE X (.Call (.Attribute o m apos) (e :: es) [] pos) (tMethP R m E ta t) := by
  refine ⟨fun pins s σ H Q I h => PySem.W.methodCall_KW (pl := pl) (thn (he.run pins s σ H _ I h) fun u s1 hu => ?_) ht⟩
  obtain ⟨x, H1, I1, rx, a, C, dx, fs, sp, ex, ea, hRC, l, q⟩ := hu
  subst ex
  obtain rfl : u = Value.ref a := rx
  obtain ⟨g, fd, ps, c, hm, F, hb⟩ := hR C sp hRC
  refine getmeth_ok I1 ea c hm l (PySem.W.callWith_K (first := [.ref a]) (h₀ := X.base) I.ok.mod.kin hm.kp (thn (ha.run pos pins s1 σ H1 _ I1 q) fun us s2 hv => ?_) hst hpl)
  obtain ⟨vs, H2, I2, r, q2⟩ := hv
  exact ⟨I2.kIn, run_fn (us := .ref a :: us) (vs := .ref a :: vs) (dvs := []) (ds := []) F hr hb .nil hx I2 (.cons rfl r) (by rw [List.append_nil]; exact q2)⟩
theorem kpe_methP0 (hR : Disp X CX k m R) (hr : Room k X.A) (hx : Passes CX X E) (he : PE X o ta)
    (ht : eval (.Call (.Attribute o m apos) [] [] pos) X.env = (do
      let ov ← eval o X.env
      standAt apos.atName
      let (f, first) ← holding [ov] (getMethod ov m pl)
      callWith pos f first (backTo pos (starEach [] X.env)) (backToKw pos (keywordEach [] X.env))) := by rfl) :
    PE X (.Call (.Attribute o m apos) [] [] pos) (tMethP R m E ta tNil) := by
  refine ⟨fun pins s σ H Q I h => PySem.W.methodCall_KW (pl := pl) (thn (he.run pins s σ H _ I h) fun u s1 hu => ?_) ht⟩
  obtain ⟨x, H1, I1, rx, a, C, dx, fs, sp, ex, ea, hRC, l, q⟩ := hu
  subst ex
  obtain rfl : u = Value.ref a := rx
  obtain ⟨g, fd, ps, c, hm, F, hb⟩ := hR C sp hRC
  refine getmeth_ok I1 ea c hm l (PySem.W.callWith_K0 (first := [.ref a]) I1.kIn hm.kp ?_)
  exact run_fn (us := [.ref a]) (vs := [.ref a]) (dvs := []) (ds := []) F hr hb .nil hx I1 (.cons rfl .nil) q
/-- an instance called -/
def DispC (X : Cx) (CX : CXT) (k : Nat) (R : Addr → Sp → Prop) : Prop :=
  ∀ C sp, R C sp → ∃ g fd ps, StX.CallO X.K C g ∧ FnOk X.prog X.w X.K X.mg X.base CX k g fd ps sp ∧ Binds X.K fd ps []
def tCallP (R : Addr → Sp → Prop) (E : XK) (tf : TE) (t : TA) : TE := fun σ H Q => tf σ H fun y H1 => ∃ a C sp, y = V.ref a ∧ R C sp ∧ t σ H1 fun vs H2 => (∃ dx fs, H2 a = some (.ins C dx fs)) ∧ sp (V.ref a :: vs) H2 Q E
theorem kpe_callP {fe : Expr} {tf : TE} (hR : DispC X CX k R) (hr : Room k X.A) (hx : Passes CX X E) (hf : PE X fe tf) (ha : PA X (e :: es) t)
    (ht : eval (.Call fe (e :: es) [] pos) X.env = (do callWith pos (← eval fe X.env) [] (backTo pos (starEach (e :: es) X.env)) (backToKw pos (keywordEach [] X.env))) := by rfl)
    (he : starEach (e :: es) X.env = (false, eval e X.env) :: starEach es X.env := by rfl) (hpl : (backTo pos (starEach es X.env)).any (·.1) = false := by rfl) : PE X (.Call fe (e :: es) [] pos) (tCallP R E tf t) := by
  refine ⟨fun pins s σ H Q I h => Call_ (thn (hf.run pins s σ H _ I h) fun u s1 hu => ?_) ht⟩
  obtain ⟨y, H1, I1, ry, a, C, sp, ey, hRC, q⟩ := hu
  subst ey
  obtain rfl : u = Value.ref a := ry
  obtain ⟨g, fd, ps, c, F, hb⟩ := hR C sp hRC
  refine StX.callO_with (thn (ha.run pos pins s1 σ H1 _ I1 q) fun us s2 hv => ?_) he hpl
  obtain ⟨vs, H2, I2, r, hi, q2⟩ := hv
  obtain ⟨ox, od, J, hd⟩ := StX.insC_at I2 (.inr hi)
  refine ⟨⟨C, ox, od, J, hd⟩, ?_⟩
  have r2 : Vals (V.ref a :: vs) (Value.ref a :: us) := .cons rfl r
  have hl : (Value.ref a :: us).length = ps.length := by rw [← r2.length]; exact F.len _ _ _ _ q2
  refine wpAny_call (PySem.W.kco_code I2.kIn J hd c.at_ c.fn c.fi (codeAny_mono (F.run X.A X.stack s2 H2 ⟨Value.ref a :: us, []⟩ (Value.ref a :: us) (V.ref a :: vs) Q E hr I2.env0 ?_ r2 q2) fun res s' hq => ?_))
  · have z := hb s2 (Value.ref a :: us) I2.kIn (by rw [List.append_nil]; exact hl)
    rw [List.append_nil] at z
    exact z
  · cases res with
    | error er => exact hx pins σ H2 s2 er s' I2 hq
    | ok fl =>
      cases fl with
      | ret v => exact I2.after hq
      | next => exact False.elim hq
      | brk => exact False.elim hq
      | cont => exact False.elim hq
end

/-- what isinstance asks of an own class -/
structure ClsTy (K : PySem.W.Frag) (C : Addr) : Prop where
  cl : Cls K C
  ha : PySem.W.findIn K (.ref C) "__class__" = some (some (.builtin "object.__class__"))
  hn : PySem.W.specialIn K (.builtin "object.__class__") "__get__" = some (some (.builtin "getset_descriptor.__get__"))
  htk : PySem.W.takesIn K (.builtin "object.__class__") = some true
  hm : PySem.W.mroIn K C (.type "object") = some true
theorem ty_own {K : PySem.W.Frag} {H : Hp} {a C dx : Addr} {fs : List (Str × V)} (c : ClsTy K C) (e : H a = some (.ins C dx fs)) : TyX K H (.ref a) (.ref C) := .base (.ins e c.cl c.ha c.hn c.htk c.hm)
end Kit

namespace Kit
open PySem PySem.Spec PyProof.Rows L2
/-! ### super().__init__(..) in an own exception's __init__ -/
/-- a built-in __init__ bound to the object that is being made -/
def mwo (u a : Addr) : HO := .ext fun h => h.get? u = some (PySem.W.kxs_mw "ValueError.__init__" a)
structure SupAtE (K : PySem.W.Frag) (C D : Addr) : Prop where
  oex : OexC K C
  sub : PySem.W.mroIn K C (.ref D) = some true
  m : PySem.W.ks_superIn K C D "__init__" = some (some (.builtin "ValueError.__init__"))
  hB : PySem.W.subIn K (.ref C) (.type "ValueError") = some true
section
variable {prog : Program} {w : World} {A : Around} {E : Value → Shared → Prop} {h : Heap} {g : Array GenState} {dr : Drawn} {t : Nat} {os : OsState}
theorem call_mwE {K : PySem.W.Frag} {C a u t1 : Addr} {us : List Value} {Q : Value → Shared → Prop} (KX : K.In h) (T : OexC K C) (hu : h.get? u = some (PySem.W.kxs_mw "ValueError.__init__" a))
    (ha : h.get? a = some ({ cls := .ref C, dict := none, data := .fields #[.ref t1, .none, .none, .none, .bool false, .none] } : Obj)) (hl : us.length ≤ sizeLine)
    (hq : ∀ h' t2, (∀ b o, b ≠ a → h.get? b = some o → h'.get? b = some o) → h'.get? a = some (PySem.HandSPX.excO C t2) → Q .none ⟨h', g, dr, t, os⟩) : wpAny (model prog w) A (call (.ref u) us) Q E ⟨h, g, dr, t, os⟩ := by
  obtain ⟨nm, q, N, bs, bm, sn, sub, ab, col, dd, k0, k1, k2, k3, k5, hC, hbm⟩ := T.cls
  refine wpAny_call (codeAny_of_tree ?_)
  show wpAny (model prog w) A.in1 (callAny (.ref u) { pos := us, kw := [] }) _ _ _
  simp only [callAny]
  refine wpAny_bind (wpAny_load hu ?_)
  simp only [PySem.W.kxs_mw, show ((Value.type "method-wrapper" == Value.type "method") || (Value.type "method-wrapper" == Value.type "builtin_function_or_method") || (Value.type "method-wrapper" == Value.type "method-wrapper")) = true by decide, if_true]
  refine PySem.W.KFB.if_so (by decide) ?_
  refine wpAny_bind (PySem.W.check_bound_init F.excBase_ValueError.toExcCallFacts (KX _ _ hC) ha rfl ?_)
  refine wpAny_bind (wpAny_pure (wpAny_pure ?_))
  refine ⟨plainId_quiet F.excBase_ValueError.init.plain _, codeAny_builtin F.excBase_ValueError.initEntry ?_⟩
  wp_walk
  refine hq _ h.objs.size (fun c oc nc gc => ?_) ?_
  · rw [Heap.get?_update_other _ _ fun e => nc e.symm]; exact Heap.get?_push_of_some _ gc
  · rw [Heap.get?_update_self _ (Heap.get?_push_of_some _ ha) rfl]; rfl
end
section
variable {X : Cx} {body : List Stmt}
def tSupE (K : PySem.W.Frag) (D : Addr) (ta : TA) : TS := fun B σ H => ∃ a C, σ[0]? = some (some (V.ref a)) ∧ H a = some (exo a C none) ∧ SupAtE K C D ∧
  ∀ q, H q = none → ta σ (upd H q (mwo q a)) fun vs H1 => vs.length ≤ 1000 ∧ H1 q = some (mwo q a) ∧ H1 a = some (exo a C none) ∧ B.nx σ H1
theorem mwo_ok {P : Program} {w : World} {H : Hp} {h : Heap} {u a : Addr} (hu : h.get? u = some (PySem.W.kxs_mw "ValueError.__init__" a)) : ObjOk P w H h u (mwo u a) := ⟨hu, ⟨_, hu⟩, fun h1 h2 z k => k _ z⟩
theorem mwo_at {P : Program} {w : World} {H : Hp} {h : Heap} {u a : Addr} (hok : HOk P w H h) (e : H u = some (mwo u a)) : h.get? u = some (PySem.W.kxs_mw "ValueError.__init__" a) := by
  have z : ObjOk P w H h u (.ext fun h => h.get? u = some (PySem.W.kxs_mw "ValueError.__init__" a)) := hok u _ e
  exact z.1
theorem pst_supE {f D cc cda : Addr} {self : Str} {e : Expr} {es : List Expr} {ta : TA} {p0 p1 apos pos spos : Pos} {pl : Sem Bool}
    (S : SupDef X.prog X.K X.mg f D cc cda self) (hfu : X.env.func = some f) (hco : X.env.code = .ref cda) (hks : X.env.kindOf "super" = some .globalImplicit) (hkc : X.env.kindOf "__class__" = some .free) (hcc : X.env.cells.lookup ("__class__" : Str) = some cc)
    (hN : X.N[0]? = some self) (hv : X.env.scope.names.lookup self = some .local) (ha : PA X (e :: es) ta)
    (hs : swapsWith (.Call (.Attribute (.Call (.Name "super" p0) [] [] p1) "__init__" apos) (e :: es) [] pos) none spos.line X.env = pure false := by rfl)
    (he0 : eval (.Call (.Attribute (.Call (.Name "super" p0) [] [] p1) "__init__" apos) (e :: es) [] pos) X.env = (do
      let ov ← attributeBase (.Call (.Name "super" p0) [] [] p1) "__init__" X.env (eval (.Call (.Name "super" p0) [] [] p1) X.env)
      standAt apos.atName
      let (f, first) ← holding [ov] (getMethod ov "__init__" pl)
      callWith pos f first (backTo pos (starEach (e :: es) X.env)) []) := by rfl)
    (he : starEach (e :: es) X.env = (false, eval e X.env) :: starEach es X.env := by rfl) (hpl : (backTo pos (starEach es X.env)).any (·.1) = false := by rfl) :
    PSt X body (.Expr (.Call (.Attribute (.Call (.Name "super" p0) [] [] p1) "__init__" apos) (e :: es) [] pos) spos) (tSupE X.K D ta) := by
  refine ⟨fun pins s σ H B I h => ?_⟩
  obtain ⟨a, C, hσ, hH, SA, q⟩ := h
  obtain ⟨oc, od, fd, osl, ar, lkf, hhead, har⟩ := S.fn
  obtain ⟨ccl, cdd, vs, ccs, file, tf, lkc, hvs, hfile⟩ := S.code
  obtain ⟨cl, cld, csl, lkcell⟩ := S.cell
  obtain ⟨cdD, hD⟩ := S.cls
  have KI := I.kIn
  obtain ⟨t1, hget⟩ := exo_at I.hok hH
  have IA : PySem.W.InstAt s.heap a _ C none := ⟨hget, rfl, rfl, trivial⟩
  obtain ⟨oD, hD1, hD2⟩ : ∃ oD, s.heap.get? D = some oD ∧ oD.data = .cls cdD := by
    unfold PySem.W.clsIn at hD
    split at hD
    · rename_i c d cd' sl ho
      cases hD
      exact ⟨_, KI _ _ ho, rfl⟩
    · cases hD
  obtain ⟨m, hns, hloc⟩ := I.loc
  obtain ⟨u, ru, lk⟩ := hloc 0 self (.ref a) hN hσ (.inl hv)
  cases ru
  have hself : m self = some (.ref a) := by
    rcases lk with ⟨_, z⟩ | ⟨z, _⟩
    · exact z
    · have z' : X.env.scope.names.lookup self = some .cell ∨ X.env.scope.names.lookup self = some .free := z
      rw [hv] at z'
      rcases z' with z' | z' <;> cases z'
  refine ks_wpAt_Expr_any ?_ I.quiet hs
  refine ks_wpAt_MethodCall ?_ he0
  refine ks_wpAt_super_base (env := X.env) hks hkc (by decide) hfu (KI _ _ lkf) rfl hhead hco (KI _ _ lkc) rfl hvs hfile S.top ?_
  obtain ⟨mb, hb1, hb2⟩ := I.mod.blt
  refine PySem.W.ks_loadName_global I.ok.kind hks (Calls.loadGlobal_builtin (by rw [I.ok.glob]; exact I.mod.glob.keeps I.bk) S.sup (by rw [I.ok.blt]; exact hb1.keeps I.bk) ((hb2 "super" (by decide)).trans (show bootBuiltins "super" = some (.type "super") by decide +kernel)) ⟨rfl, ?_⟩)
  refine wpAny_loadName_free I.ok.kind hkc hcc ⟨_, KI _ _ lkcell, rfl⟩ ?_
  rw [har]
  refine wpAny_loadName_local I.ok.kind hv hns hself ?_
  refine ks_wpAny_isType_cls hD1 hD2 ⟨rfl, ?_⟩
  obtain ⟨hp, g, dr, tk, os⟩ := s
  refine ks_wpAny_call_super hD1 hD2 IA.at_ IA.cls (fun c e => ?_) (PySem.W.looks_mroIn KI SA.sub) (fun h' e k => ?_)
  · have z := IA.no
    unfold PySem.W.notCls at z
    rw [e] at z
    exact Bool.noConfusion z
  have I1 : Inv X pins σ H ⟨h', g, dr, tk, os⟩ := I.kept (t' := tk) k
  have KI1 := I1.kIn
  obtain ⟨t2, hget2⟩ := exo_at I1.hok hH
  have IB : PySem.W.InstAt h' a _ C none := ⟨hget2, rfl, rfl, trivial⟩
  have hm := SA.m
  unfold PySem.W.ks_superIn at hm
  obtain ⟨cd, hc⟩ : ∃ cd, PySem.W.clsIn X.K C = some cd := by
    cases hc : PySem.W.clsIn X.K C with
    | none => rw [hc] at hm; cases hm
    | some cd => exact ⟨cd, rfl⟩
  rw [hc] at hm
  refine PySem.W.kxs_getMethod PySem.W.kxs_ValueError e (PySem.W.looks_opaque KI1 S.st) (l₀ := cd.mro) ?_ rfl KI1 hm (IB.type.andThen (PySem.W.looks_subIn KI1 SA.hB)) (PySem.W.ks_ne KI IA hc) (by decide) ?_
  · exact fun A Q E s k q => wpAny_bind ((PySem.W.looks_clsIn KI1 hc) A _ E s k (wpAny_pure q))
  have nq : H h'.objs.size = none := I1.hok.fresh (Nat.le_refl _)
  have hq0 : (h'.push (PySem.W.kxs_mw "ValueError.__init__" a)).get? h'.objs.size = some (PySem.W.kxs_mw "ValueError.__init__" a) := Heap.get?_push_at rfl rfl
  have I2 : Inv X pins σ (upd H h'.objs.size (mwo h'.objs.size a)) ⟨h'.push (PySem.W.kxs_mw "ValueError.__init__" a), g, dr, tk + 1, os⟩ :=
    I1.laid (t' := tk + 1) (a := h'.objs.size) (o := mwo h'.objs.size a) (h' := h'.push (PySem.W.kxs_mw "ValueError.__init__" a)) (fun b o e => Heap.get?_push_of_some _ e) (Nat.le_refl _) (mwo_ok hq0)
  have hq := q h'.objs.size nq
  generalize h'.objs.size = qa at *
  rw [he]
  refine PySem.W.kxs_callWith (i := "ValueError.__init__") (x := a) (by show (false || (backTo pos (starEach es X.env)).any (·.1)) = false; rw [hpl]; rfl) ?_
  refine PySem.Calls.evalArgs_plain ?_
  have hrun := ha.run pos pins _ σ _ _ I2 hq
  rw [he] at hrun
  refine thn hrun fun us s1 ⟨ws, H1, I3, r1, hlen, hqm, hqa, hsp⟩ => ?_
  have hmo := mwo_at I3.hok hqm
  refine ⟨hmo, ?_⟩
  obtain ⟨t3, hget3⟩ := exo_at I3.hok hqa
  have hus : us.length ≤ sizeLine := by
    rw [← Paired.length r1, sizeLine_eq]
    omega
  obtain ⟨hp3, g3, dr3, tk3, os3⟩ := s1
  refine call_mwE I3.kIn SA.oex hmo hget3 hus fun h4 t4 k4 e4 => ?_
  have J := I3.write (t' := tk3) (x := a) (e := a) (o := exo a C none) (by rw [hqa]; exact True.intro) (.inl rfl) k4 ⟨_, e4⟩ (exo_ok e4)
  have eu : upd H1 a (exo a C none) = H1 := by
    funext b
    by_cases hb : b = a
    · rw [hb, upd_same, hqa]
    · rw [upd_ne hb]
  rw [eu] at J
  exact ⟨σ, H1, J, hsp⟩
end
/-! ### several except clauses, each with a name -/
abbrev endA (i : Nat) (D : Ends) : Ends := { nx := fun τ G => D.nx (τ.set i none) G, rt := D.rt, bk := fun τ G => D.bk (τ.set i none) G, ct := fun τ G => D.ct (τ.set i none) G }
abbrev ClA : Type := Value × Nat × (Addr → Value → Option Addr → TS)
def wManyA (K : PySem.W.Frag) (Wo : WX) (D : Ends) : List ClA → WX
  | [] => Wo
  | (c, i, ts) :: r => fun cls d τ G => ∃ hit, PySem.W.exmOne K cls c = some hit ∧ (hit = true → ∀ a, G a = none → ts a cls d (endA i D) (τ.set i (some (.ref a))) G) ∧ (hit = false → wManyA K Wo D r cls d τ G)
inductive HdsA (X : Cx) : List ExceptHandler → List ClA → Prop
  | nil : HdsA X [] []
  | cons {x n : Str} {c : Value} {i : Nat} {ts : Addr → Value → Option Addr → TS} {b0 : Stmt} {sts : List Stmt} {np ps : Pos} {hds : List ExceptHandler} {l : List ClA} (hi : X.N[i]? = some n) (hln : X.env.kindOf n = some .local) (hc : Names X x c)
      (hsu : ∀ (a : Addr) (oe : Obj) (cls : Value) (d : Option Addr) (pn : List (Addr × Obj)), Zc cls d oe → (∃ vs, oe.data = .fields vs) → PSs (X.suite a ((a, oe) :: pn)) (b0 :: sts) (ts a cls d)) (r : HdsA X hds l) :
      HdsA X (.ExceptHandler (some (.Name x np)) (some n) (b0 :: sts) ps :: hds) ((c, i, ts) :: l)
section
variable {X : Cx} {body : List Stmt} {h0 : ExceptHandler} {hds : List ExceptHandler} {l : List ClA} {pos : Pos} {tb : WX → TS} {Wo : WX}
theorem ps_try_manyA (est : X.stack = X.env :: X.outer) (efr : X.env.frame = some X.env.locals) (hN : X.N.Nodup) (tk : Takes X Wo)
    (hbd : ∀ (W : WX) (pn : List (Addr × Obj)) (xe : Value → Shared → Prop), Takes (X.tr pn xe) W → PassesOwn (model X.prog X.w) X.A X.env xe → PSs (X.tr pn xe) body (tb W))
    (hh : HdsA X (h0 :: hds) l) : PS X (.Try body (h0 :: hds) [] [] pos) (fun D σ H => tb (wManyA X.K Wo D l) D σ H) := by
  refine ⟨fun pins s0 σ H D I h => ?_⟩
  have okX := I.ok
  have frX : X.A.frames = some (X.env :: X.outer) := by rw [okX.frames, est]
  refine wpAny_Try_except ?_
  refine wpAny_mono ((hbd (wManyA X.K Wo D l) (X.pn ++ pins) (fun e s₁ => wpAny (model X.prog X.w) X.A (noteFrame e X.env) (fun _ s₂ => wpAny (model X.prog X.w) X.A (setFlight e none) (fun _ s₃ =>
    wpAny (model X.prog X.w) X.A (handleBy e X.env (h0 :: hds)) (SP X pins D) X.xe s₃) X.xe s₂) X.xe s₁) (fun u sE xx => ?_) PassesOwn.looking).run [] s0 σ H D (I.toTry _) h) (fun f s1 spf => ?_) (fun e s1 q => q)
  · obtain ⟨a, B, sJ, pin2, τ, G, cls, d, rfl, JT, nb, up, sky, na, os, ag, w⟩ := xx
    have J : Inv X pins τ G sJ := JT.ofTry okX
    have skyX : Sky B (X.env :: X.outer) a (Zc cls d) X.env.locals sE.heap := by rw [← est]; exact sky
    show wpAny (model X.prog X.w) X.A (noteFrame (.ref a) X.env) _ _ _
    refine Sky.land Zc.steady frX efr skyX fun h3 w3 up3 => ?_
    have J3 : Inv X pins τ G { sE with heap := h3 } := J.landed nb w3.1 (up.trans up3) os ag
    obtain ⟨o3, vs3, ge3, gz3, gd3⟩ := w3.there
    have far : ∀ {h : Heap} {o : Obj} {vs : Array Value}, h.FunFrames B (X.env :: X.outer) → h.get? a = some o → o.data = .fields vs → a ∉ frs (X.env :: X.outer) := fun {h o vs} ff e dd hm => by
      obtain ⟨_, o2, e2, hne⟩ := ff.mem hm
      rw [e] at e2; cases e2; exact hne _ dd
    have nfX := far w3.2.2.1 ge3 gd3
    have nLX : a ≠ X.env.locals := fun z => nfX (List.mem_filterMap.mpr ⟨X.env, List.mem_cons_self, by rw [efr, z]⟩)
    have nFX : a ∉ X.fs := fun hm => by
      obtain ⟨e, hem, q⟩ := List.mem_filterMap.mp hm
      exact nfX (List.mem_filterMap.mpr ⟨e, List.mem_cons_of_mem _ hem, q⟩)
    have S3 := J3.suite ge3 gd3 na nLX nFX
    have go : ∀ {hs : List ExceptHandler} {cl : List ClA}, HdsA X hs cl → wManyA X.K Wo D cl cls d τ G → wpAny (model X.prog X.w) X.A (handleBy (.ref a) X.env hs) (SP X pins D) X.xe { sE with heap := h3 } := by
      intro hs cl hk
      induction hk with
      | nil =>
        intro w
        refine wpAny_handleBy_nil ?_
        obtain ⟨k1, k2, k3, oe, vs, TT, oT, tsT, heT, hzT, hdT, h1T, hrT⟩ := id w3
        unfold PySem.passOn
        refine wpAny_bind (wpAny_field heT hdT h1T ?_)
        rw [if_neg (show ¬ ((Value.ref TT == Value.none) = true) from by simp)]
        have thrown : wpAny (model X.prog X.w) X.A (setFlight (.ref a) X.env.frame) (fun _ s4 => wpAny (model X.prog X.w) X.A (throw (.ref a) : Sem Flow) (SP X pins D) X.xe s4) X.xe { sE with heap := h3 } := by
          rw [efr]
          refine HandSPX.setFlight_upZ w3 fun h4 hh4 up4 => wpAny_throw (tk _ _ ?_)
          exact ⟨a, B, sJ, pins, τ, G, cls, d, rfl, J, nb, (up.trans up3).trans up4, .inr (.inr (by rw [est]; exact hh4)), na, os, ag, w⟩
        first | exact wpAny_bind (wpAny_pure (wpAny_bind thrown)) | exact wpAny_bind thrown
      | @cons x n c i ts b0 sts np ps hds2 l2 hi hln hc hsu r ih =>
        intro w
        obtain ⟨hit, hb1, hyes, hno⟩ := w
        refine wpAny_handleBy_cons (codeAny_handlers_test ?_) (by intro q; cases q)
        have LT : PySem.W.Looks (model X.prog X.w) h3 (typeOf (.ref a)) cls := fun A Q E s k q => wpAny_typeOf_ref (k _ _ ge3) (by rw [gz3.1]; exact q)
        have LM := PySem.W.exm_one (M := model X.prog X.w) (J3.kIn) LT hb1
        have tst : ∀ {Q : Value → Shared → Prop} {E : Value → Shared → Prop}, Q c { sE with heap := h3 } → wpAny (model X.prog X.w) (X.A.mark (some (.ref a))) (eval (.Name x np) X.env) Q E { sE with heap := h3 } := fun {Q E} q => by
          obtain ⟨hg, hdbg, hm | ⟨hm, hv, hnn⟩⟩ := hc
          · exact ld_glob (X := X.suite a ((a, o3) :: (X.pn ++ pins))) S3 hg hm q hdbg
          · exact ld_blt (X := X.suite a ((a, o3) :: (X.pn ++ pins))) S3 hg hm hv q hnn hdbg
        refine tst (LM.here ?_)
        cases hit with
        | false =>
          show wpAny (model X.prog X.w) X.A (handleBy (.ref a) X.env hds2) _ _ _
          exact ih (hno rfl)
        | true =>
          refine codeAny_handlers_suite_as ?_
          refine HandSPX.lands_againZ w3 fun h4 w4 up4 => ?_
          have J4 : Inv X pins τ G { sE with heap := h4 } := J.landed nb w4.1 ((up.trans up3).trans up4) os ag
          obtain ⟨o4, vs4, ge4, gz4, gd4⟩ := w4.there
          have S4 := J4.suite ge4 gd4 na nLX nFX
          refine store_ok (X := X.suite a ((a, o4) :: (X.pn ++ pins))) (v := .ref a) S4 hN hi (.inl hln) rfl (fun s5 S5 => ?_) (.inr hln)
          refine wpAny_mono ((hsu a o4 cls d (X.pn ++ pins) gz4 ⟨_, gd4⟩).run [] s5 _ G _ S5 (hyes rfl a na)) (fun f s6 sp6 => ?_) (fun _ _ z => False.elim z)
          have fin : ∀ {σ6 : L2.St} {H6 : Hp} {Q : Shared → Prop}, Inv (X.suite a ((a, o4) :: (X.pn ++ pins))) [] σ6 H6 s6 → (∀ s7, Inv X pins (σ6.set i none) H6 s7 → Q s7) →
              wpAny (model X.prog X.w) X.A (do bindName X.env n .none; unbindBehindTheSuite X.env n ps) (fun _ s7 => Q s7) X.xe s6 := fun {σ6 H6 Q} S6 hq => gone_ok (S6.unsuite okX) hN hi hln hq
          cases f with
          | ret u =>
            obtain ⟨v6, σ6, H6, S6, r6, q6⟩ := sp6
            exact fin S6 fun s7 J7 => ⟨_, _, _, J7, r6, q6⟩
          | next => obtain ⟨σ6, H6, S6, q6⟩ := sp6; exact fin S6 fun s7 J7 => ⟨_, _, J7, q6⟩
          | brk => obtain ⟨σ6, H6, S6, q6⟩ := sp6; exact fin S6 fun s7 J7 => ⟨_, _, J7, q6⟩
          | cont => obtain ⟨σ6, H6, S6, q6⟩ := sp6; exact fin S6 fun s7 J7 => ⟨_, _, J7, q6⟩
    exact go hh w
  · cases f with
    | ret u =>
      obtain ⟨v, τ, G, JT, r, q⟩ := spf
      exact ⟨v, τ, G, JT.ofTry okX, r, q⟩
    | next => obtain ⟨τ, G, JT, q⟩ := spf; exact wpAny_execs_nil ⟨τ, G, JT.ofTry okX, q⟩
    | brk => obtain ⟨τ, G, JT, q⟩ := spf; exact ⟨τ, G, JT.ofTry okX, q⟩
    | cont => obtain ⟨τ, G, JT, q⟩ := spf; exact ⟨τ, G, JT.ofTry okX, q⟩
end
/-! ### keywords alone; wishes at the caller's slots -/
section
variable {X : Cx} {CX : CXT} {k : Nat} {f : Addr} {fd : FuncData} {ps ks : List Str} {sp : Sp} {E : L2.St → XK} {x : Str} {p pos : Pos} {kws : List Keyword} {tk : TA}
def tCallKS (sp : Sp) (gV : List V → List V → List V) (E : L2.St → XK) (tk : TA) : TE := fun σ H Q => tk σ H fun zs H2 => sp (gV [] zs) H2 Q (E σ)
theorem pe_callKS {g : List Value → List Value → List Value} {gV : List V → List V → List V} (Fn : FnOk X.prog X.w X.K X.mg X.base CX k f fd ps sp) (hr : Room k X.A) (hg : Gl X x) (hm : X.mg x = some (.ref f)) (hk : PySem.W.keepIn X.K (.ref f) = true) (hb : KBinds X.K fd ps ks g gV) (hx : ∀ σ, PassesAt CX X σ (E σ))
    (hkw : PK X kws tk) (hall : (backToKw pos (keywordEach kws X.env)).all (·.1.isSome) = true := by rfl) (hks : (backToKw pos (keywordEach kws X.env)).filterMap (·.1) = ks := by rfl) (hdb : (x == ("__debug__" : Str)) = false := by decide)
    (hpl : ((backTo pos (starEach [] X.env)).any (·.1) || (backToKw pos (keywordEach kws X.env)).any (·.1.isNone)) = false := by rfl) : PE X (.Call (.Name x p) [] kws pos) (tCallKS sp gV E tk) := by
  refine ⟨fun pins s σ H Q I h => ?_⟩
  refine wpAny_Call_Name_kw (ld_glob I hg hm ?_ hdb)
  refine PySem.W.callWith_KW0 (h₀ := X.base) I.ok.mod.kin hk hall ?_ hpl
  refine thn (hkw.run pos pins s σ H _ I h) fun ws s2 ⟨zs, H2, I2, rz, q2⟩ => ⟨I2.kIn, ?_⟩
  rw [hks]
  have r2 := hb.rel (vs := []) (us := []) .nil rz
  have hl : (g [] ws).length = ps.length := by rw [← r2.length]; exact Fn.len _ _ _ _ q2
  refine wpAny_call (codeAny_mono (Fn.run X.A X.stack s2 H2 ⟨[], ks.zip ws⟩ (g [] ws) (gV [] zs) Q (E σ) hr I2.env0 (hb.to s2 [] ws I2.kIn hl) r2 q2) fun r s' q3 => ?_)
  cases r with
  | ok fl => cases fl with
    | ret u => exact I2.after q3
    | next => exact False.elim q3
    | brk => exact False.elim q3
    | cont => exact False.elim q3
  | error e => exact hx σ pins H2 s2 e s' I2 q3
theorem pass0At {X : Cx} {E : L2.St → XK} : ∀ σ, PassesAt CX0 X σ (E σ) := fun _ _ _ _ _ _ _ h => h.elim
theorem k_callKS {gV : List V → List V → List V} {σ : L2.St} {H : Hp} {Q : VK} (h : tk σ H fun zs H2 => sp (gV [] zs) H2 Q (E σ)) : tCallKS sp gV E tk σ H Q := h
end
theorem exm_selfE {K : PySem.W.Frag} {S D : Addr} {hit : Bool} (h1 : PySem.W.subIn K (.ref D) (.type "BaseException") = some true) (h2 : PySem.W.isClsIn K D = true) (h3 : PySem.W.typeIn K (.ref D) = some (.type "type")) (h4 : PySem.W.subIn K (.ref S) (.ref D) = some hit) : PySem.W.exmOne K (.ref S) (.ref D) = some hit := by
  have a1 : (PySem.W.subIn K (.ref D) (.type "BaseException") == some true) = true := by rw [h1] <;> rfl
  have a2 : ((PySem.W.clsIn K D).isSome && PySem.W.typeIn K (.ref D) == some (.type "type")) = true := by
    have b2 : (PySem.W.clsIn K D).isSome = true := h2
    rw [b2, h3] <;> rfl
  show (if (PySem.W.subIn K (.ref D) (.type "BaseException") == some true) = true then (if ((PySem.W.clsIn K D).isSome && PySem.W.typeIn K (.ref D) == some (.type "type")) = true then PySem.W.subIn K (.ref S) (.ref D) else none) else none) = some hit
  rw [if_pos a1, if_pos a2]
  exact h4
/-! ### readings -/
section
variable {σ : L2.St} {H : Hp} {D : Ends} {K : PySem.W.Frag}
theorem k_supE {D0 a C : Addr} {ta : TA} {B : Ends} (h0 : σ[0]? = some (some (V.ref a))) (h1 : H a = some (exo a C none)) (h2 : SupAtE K C D0) (k : ∀ q, H q = none → ta σ (upd H q (mwo q a)) fun vs H1 => vs.length ≤ 1000 ∧ H1 q = some (mwo q a) ∧ H1 a = some (exo a C none) ∧ B.nx σ H1) : tSupE K D0 ta B σ H := ⟨a, C, h0, h1, h2, k⟩
theorem k_ost {f : Str} {to te : TE} (h : te σ H fun y H1 => to σ H1 fun x H2 => ∃ a C : Addr, x = .ref a ∧ OexC K C ∧ PySem.W.findIn K (.ref C) f = some none ∧
  ((H2 a = some (exo a C none) ∧ ∀ dx, H2 dx = none → dx ≠ a → D.nx σ (upd (upd H2 dx (exd dx [(f, y)])) a (exo a C (some dx)))) ∨
    ∃ (dx : Addr) (fs : List (Str × V)), H2 a = some (exo a C (some dx)) ∧ H2 dx = some (exd dx fs) ∧ fs.length ≤ 900 ∧ D.nx σ (upd H2 dx (exd dx ((f, y) :: fs))))) : tOst K f to te D σ H := h
theorem k_callS {sp : Sp} {E : L2.St → XK} {t : TA} {Q : VK} (h : t σ H fun vs H1 => sp vs H1 Q (E σ)) : tCallS sp E t σ H Q := h
end
end Kit

namespace Law
open PySem PySem.Spec PyProof.Rows L2 Kit
local macro_rules | `(tactic| walk_at "kb") => `(tactic| first | exact kb_int_int | exact kb_int_bool | exact kb_int_str | exact kb_int_list | exact kb_int_tuple | exact kb_int_dict | exact kb_bool_int | exact kb_bool_bool | exact kb_bool_str | exact kb_bool_list | exact kb_bool_tuple | exact kb_bool_dict | exact kb_str_int | exact kb_str_bool | exact kb_str_str | exact kb_str_list | exact kb_str_tuple | exact kb_str_dict | exact kb_NoneType_int | exact kb_NoneType_bool | exact kb_NoneType_str | exact kb_NoneType_list | exact kb_NoneType_tuple | exact kb_NoneType_dict | exact kb_list_int | exact kb_list_bool | exact kb_list_str | exact kb_list_list | exact kb_list_tuple | exact kb_list_dict | exact kb_tuple_int | exact kb_tuple_bool | exact kb_tuple_str | exact kb_tuple_list | exact kb_tuple_tuple | exact kb_tuple_dict | exact kb_dict_int | exact kb_dict_bool | exact kb_dict_str | exact kb_dict_list | exact kb_dict_tuple | exact kb_dict_dict)
local macro_rules | `(tactic| walk_at "size") => `(tactic| first | assumption | (show (_ : Nat) ≤ sizeLine; exact small_size (by first | decide | omega | (simp; omega))) | (show (_ : Nat) < sizeLine; exact small_lt (by first | decide | omega | (simp; omega))))
local macro_rules | `(tactic| walk_at "here") => `(tactic| first | assumption | exact upd_same | (refine up_get (by assumption) ?_; walk_at "here") | (refine Eq.trans (upd_ne (by assumption)) ?_; walk_at "here"))
local macro_rules | `(tactic| walk_at "same") => `(tactic| first | assumption | exact Same.refl _ | exact same_new (by assumption) | (refine Same.trans ?_ (same_new (by assumption)); walk_at "same") | (refine Same.trans ?_ (by assumption); walk_at "same"))
local macro_rules | `(tactic| walk_at "none") => `(tactic| first | assumption | (refine Eq.trans (upd_ne ?_) ?_ <;> first | assumption | walk_at "none"))
local macro_rules | `(tactic| walk_at "ty") => `(tactic| first | exact TyX.base (.int _) | exact TyX.base (.str _) | exact TyX.base .non | exact TyX.base (.bl _) | exact TyX.base (.tup (by walk_at "here")) | exact TyX.base (.lst (by walk_at "here")) | exact TyX.base (.dK (by walk_at "here")))
local macro_rules | `(tactic| walk_at "s") => `(tactic| first
  | (with_reducible refine k_seq ?_) | (with_reducible refine k_op ?_)
  | ((with_reducible show tVar _ _ _ _); refine k_var rfl ?_)
  | (with_reducible refine k_c ?_) | (with_reducible refine k_cons ?_) | (with_reducible refine k_nil ?_)
  | (with_reducible refine k_asg ?_) | (with_reducible refine k_gName ?_) | (with_reducible refine k_drop ?_) | (with_reducible refine k_ret ?_)
  | (with_reducible refine k_ifS ?_) | (with_reducible refine k_test ?_) | (with_reducible refine k_bl ?_) | (with_reducible refine k_CB ?_) | (with_reducible refine k_call ?_)
  | (with_reducible refine k_addI ?_) | (with_reducible refine k_I0 ?_) | (with_reducible refine k_eqI ?_) | (with_reducible refine k_neI ?_)
  | ((with_reducible show rI _ _ _ _ _ _); (refine k_I ?c ?_; (case c => first | decide | omega | (show (0 : Int) < _ ∧ _; omega) | (show (0 : Int) ≤ _ ∧ _; omega) | (show (_ ∧ _) ∨ _; omega) | assumption)))
  | (with_reducible refine k_U ?_) | (with_reducible refine k_int1 ?_) | (with_reducible refine k_max2 ?_) | (with_reducible refine k_min2 ?_)
  | (with_reducible refine k_t ?_) | (with_reducible refine k_t' ?_) | (with_reducible refine k_f' ?_) | (with_reducible refine k_o1 ?_) | (with_reducible refine k_o2 ?_) | (with_reducible refine k_o3 ?_) | (with_reducible refine k_o4 ?_) | (with_reducible refine k_o5 ?_) | (with_reducible refine k_o6 ?_) | (with_reducible refine k_chain ?_) | (with_reducible refine k_f ?_)
  | (with_reducible refine k_and ?_) | (with_reducible refine k_or ?_) | (with_reducible refine k_not ?_) | (with_reducible refine k_if ?_) | (with_reducible refine k_B ?_)
  | (with_reducible refine k_andV ?_) | (with_reducible refine k_orV ?_) | (with_reducible refine k_notV ?_) | (with_reducible refine k_un ?_)
  | (with_reducible refine k_gSub ?_) | (with_reducible refine k_par ?_) | (with_reducible refine k_pair ?_) | (with_reducible refine k_sl ?_) | (with_reducible refine k_noPart ?_) | (with_reducible refine k_part ?_) | (with_reducible refine k_int ?_)
  | (with_reducible refine k_fld ?_) | (with_reducible refine k_putF ?_) | ((with_reducible show (_ ≤ sizeLine) ∧ _); refine k_disp (Nat.le_of_ble_eq_true rfl) ?_) | (with_reducible refine k_jsCons ?_) | (with_reducible refine k_jsNil ?_) | (with_reducible refine k_fmt ?_) | (with_reducible refine k_gCons ?_) | (with_reducible refine k_gNil ?_) | (with_reducible refine k_iEnum ?_) | (with_reducible refine k_joinC ?_) | ((with_reducible show gTup _ _ _ (V.ref _) _ _ _); refine' k_gTup (SqT.of ?h) ?hl ?_; (case h => walk_at "here"); (case hl => rfl)) | (with_reducible refine k_for ?_) | (with_reducible refine k_iList ?_) | (with_reducible refine k_iTup ?_) | (with_reducible refine k_rng1 ?_) | (with_reducible refine k_rng2 ?_) | (with_reducible refine k_lc ?_) | (with_reducible refine k_yes ?_) | (with_reducible refine k_next ?_) | (with_reducible refine k_break ?_) | (with_reducible refine k_cont ?_) | (with_reducible refine k_retN ?_)
  | ((with_reducible show tTup _ _ _ _); refine k_tup ?_) | ((with_reducible show tLst _ _ _ _); refine k_lst ?_)
  | ((with_reducible show rLenU _ [V.ref _] _ _); (first | (refine' k_lenL (SqL.of ?h) ?_; (case h => walk_at "here")) | (refine' k_lenL ?h ?_; (case h => assumption)) | (refine' k_lenT (SqT.of ?h) ?_; (case h => walk_at "here"))))
  | ((with_reducible show rIsi _ [_, V.ty _] _ _); (refine' k_isi ?t ?h ?_; (case t => walk_at "ty"); (case h => walk_at "kb")))
  | ((with_reducible show rIsiT _ [_, V.ref _] _ _); (refine' k_isiT ?p ?t ?h1 ?h2 ?_; (case p => walk_at "here"); (case t => walk_at "ty"); (case h1 => walk_at "kb"); (case h2 => walk_at "kb")))
  | ((with_reducible show rIx _ (V.ref _) (V.int _) _ _); (first | (refine' k_ixL (SqL.of ?h) ?a ?_; (case h => walk_at "here"); (case a => first | rfl | assumption)) | (refine' k_ixT (SqT.of ?h) ?a ?_; (case h => walk_at "here"); (case a => first | rfl | assumption))))
  | ((with_reducible show rSetL (V.ref _) (V.int _) _ (upd _ _ (HO.lst _)) _); (refine' k_setLu ?e ?ey ?_; (case e => rfl); (case ey => rfl)))
  | ((with_reducible show rSetL (V.ref _) (V.int _) _ _ _); (refine' k_setL ?h ?e ?_; (case h => walk_at "here"); (case e => first | rfl | assumption))))
local macro_rules | `(tactic| walk_at "ss") => `(tactic| (repeat walk_at "s"))
def P : Program := PySem.Challenge.pw_surelet_k07_whole_fullest_stretches
def top (i : Nat) : Stmt := PySem.Challenge.pw_surelet_k07_whole_fullest_stretches.main.body.getD i (.Pass ⟨0, 0, 0, 0⟩)
abbrev s_is_number : Stmt := (top 12)
abbrev N_is_number : List Str := ["value", "least", "most"]
abbrev P_is_number : List Str := ["value", "least", "most"]
theorem sc_is_number : FnScope N_is_number P_is_number (defScope s_is_number) := ⟨rfl, rfl, rfl, by decide +kernel, rfl, by decide +kernel, by decide +kernel⟩
abbrev s_is_name : Stmt := (top 13)
abbrev N_is_name : List Str := ["value", "sign"]
abbrev P_is_name : List Str := ["value"]
theorem sc_is_name : FnScope N_is_name P_is_name (defScope s_is_name) := ⟨rfl, rfl, rfl, by decide +kernel, rfl, by decide +kernel, by decide +kernel⟩
abbrev s_Rest_init : Stmt := (inClass (top 18) 0)
abbrev N_Rest_init : List Str := ["self", "text", "forms", "period", "bend"]
abbrev P_Rest_init : List Str := ["self", "text", "forms", "period", "bend"]
theorem sc_Rest_init : FnScope N_Rest_init P_Rest_init (defScope s_Rest_init) := ⟨rfl, rfl, rfl, by decide +kernel, rfl, by decide +kernel, by decide +kernel⟩
abbrev s_Rest_call : Stmt := (inClass (top 18) 1)
abbrev N_Rest_call : List Str := ["self", "t"]
abbrev P_Rest_call : List Str := ["self", "t"]
theorem sc_Rest_call : FnScope N_Rest_call P_Rest_call (defScope s_Rest_call) := ⟨rfl, rfl, rfl, by decide +kernel, rfl, by decide +kernel, by decide +kernel⟩
abbrev s_Rest_forms : Stmt := (inClass (top 18) 5)
abbrev N_Rest_forms : List Str := ["self"]
abbrev P_Rest_forms : List Str := ["self"]
theorem sc_Rest_forms : FnScope N_Rest_forms P_Rest_forms (defScope s_Rest_forms) := ⟨rfl, rfl, rfl, by decide +kernel, rfl, by decide +kernel, by decide +kernel⟩
abbrev s_Rest_period : Stmt := (inClass (top 18) 6)
abbrev N_Rest_period : List Str := ["self"]
abbrev P_Rest_period : List Str := ["self"]
theorem sc_Rest_period : FnScope N_Rest_period P_Rest_period (defScope s_Rest_period) := ⟨rfl, rfl, rfl, by decide +kernel, rfl, by decide +kernel, by decide +kernel⟩
abbrev s_Rest_bend : Stmt := (inClass (top 18) 7)
abbrev N_Rest_bend : List Str := ["self"]
abbrev P_Rest_bend : List Str := ["self"]
theorem sc_Rest_bend : FnScope N_Rest_bend P_Rest_bend (defScope s_Rest_bend) := ⟨rfl, rfl, rfl, by decide +kernel, rfl, by decide +kernel, by decide +kernel⟩
abbrev s_Rest_written : Stmt := (inClass (top 18) 8)
abbrev N_Rest_written : List Str := ["self"]
abbrev P_Rest_written : List Str := ["self"]
theorem sc_Rest_written : FnScope N_Rest_written P_Rest_written (defScope s_Rest_written) := ⟨rfl, rfl, rfl, by decide +kernel, rfl, by decide +kernel, by decide +kernel⟩
abbrev s_Window_init : Stmt := (inClass (top 19) 0)
abbrev N_Window_init : List Str := ["self", "width", "__class__"]
abbrev P_Window_init : List Str := ["self", "width"]
theorem sc_Window_init : NdefX.NScope N_Window_init P_Window_init ["__class__"] (defScope s_Window_init) := NdefX.nscope_by (by decide +kernel)
abbrev s_Window_after : Stmt := (inClass (top 19) 1)
abbrev N_Window_after : List Str := ["self", "t"]
abbrev P_Window_after : List Str := ["self", "t"]
theorem sc_Window_after : FnScope N_Window_after P_Window_after (defScope s_Window_after) := ⟨rfl, rfl, rfl, by decide +kernel, rfl, by decide +kernel, by decide +kernel⟩
abbrev s_Days_init : Stmt := (inClass (top 20) 0)
abbrev N_Days_init : List Str := ["self", "borders", "every", "__class__", "last", "at", "border", "words"]
abbrev P_Days_init : List Str := ["self", "borders", "every"]
theorem sc_Days_init : NdefX.NScope N_Days_init P_Days_init ["__class__"] (defScope s_Days_init) := NdefX.nscope_by (by decide +kernel)
abbrev cs_Days_init_1 : Scope := { kind := .function, names := [(".0", .local), ("border", .local), ("str", .globalImplicit)], isGenerator := false, isCoroutine := false, more := [] }
abbrev s_Days_after : Stmt := (inClass (top 20) 2)
abbrev N_Days_after : List Str := ["self", "t", "border"]
abbrev P_Days_after : List Str := ["self", "t"]
theorem sc_Days_after : FnScope N_Days_after P_Days_after (defScope s_Days_after) := ⟨rfl, rfl, rfl, by decide +kernel, rfl, by decide +kernel, by decide +kernel⟩
abbrev s_joined : Stmt := (top 21)
abbrev N_joined : List Str := ["word", "first", "second", "value", "forms", "period", "bend"]
abbrev P_joined : List Str := ["word", "first", "second"]
theorem sc_joined : FnScope N_joined P_joined (defScope s_joined) := ⟨rfl, rfl, rfl, by decide +kernel, rfl, by decide +kernel, by decide +kernel⟩
abbrev s_Later_init : Stmt := (inClass (top 22) 0)
abbrev N_Later_init : List Str := ["self", "first", "second", "__class__", "text", "forms", "period", "bend"]
abbrev P_Later_init : List Str := ["self", "first", "second"]
theorem sc_Later_init : NdefX.NScope N_Later_init P_Later_init ["__class__"] (defScope s_Later_init) := NdefX.nscope_by (by decide +kernel)
abbrev s_Later_after : Stmt := (inClass (top 22) 1)
abbrev N_Later_after : List Str := ["self", "t"]
abbrev P_Later_after : List Str := ["self", "t"]
theorem sc_Later_after : FnScope N_Later_after P_Later_after (defScope s_Later_after) := ⟨rfl, rfl, rfl, by decide +kernel, rfl, by decide +kernel, by decide +kernel⟩
abbrev s_Sooner_init : Stmt := (inClass (top 23) 0)
abbrev N_Sooner_init : List Str := ["self", "first", "second", "__class__", "text", "forms", "period", "bend"]
abbrev P_Sooner_init : List Str := ["self", "first", "second"]
theorem sc_Sooner_init : NdefX.NScope N_Sooner_init P_Sooner_init ["__class__"] (defScope s_Sooner_init) := NdefX.nscope_by (by decide +kernel)
abbrev s_Sooner_after : Stmt := (inClass (top 23) 1)
abbrev N_Sooner_after : List Str := ["self", "t"]
abbrev P_Sooner_after : List Str := ["self", "t"]
theorem sc_Sooner_after : FnScope N_Sooner_after P_Sooner_after (defScope s_Sooner_after) := ⟨rfl, rfl, rfl, by decide +kernel, rfl, by decide +kernel, by decide +kernel⟩
abbrev s_Next_init : Stmt := (inClass (top 24) 0)
abbrev N_Next_init : List Str := ["self", "first", "second", "__class__", "text", "forms", "period", "bend"]
abbrev P_Next_init : List Str := ["self", "first", "second"]
theorem sc_Next_init : NdefX.NScope N_Next_init P_Next_init ["__class__"] (defScope s_Next_init) := NdefX.nscope_by (by decide +kernel)
abbrev s_Next_after : Stmt := (inClass (top 24) 1)
abbrev N_Next_after : List Str := ["self", "t"]
abbrev P_Next_after : List Str := ["self", "t"]
theorem sc_Next_after : FnScope N_Next_after P_Next_after (defScope s_Next_after) := ⟨rfl, rfl, rfl, by decide +kernel, rfl, by decide +kernel, by decide +kernel⟩
abbrev s_Rule_init : Stmt := (inClass (top 26) 0)
abbrev N_Rule_init : List Str := ["self", "name", "chips", "rest"]
abbrev P_Rule_init : List Str := ["self", "name", "chips", "rest"]
theorem sc_Rule_init : FnScope N_Rule_init P_Rule_init (defScope s_Rule_init) := ⟨rfl, rfl, rfl, by decide +kernel, rfl, by decide +kernel, by decide +kernel⟩
abbrev s_fullest : Stmt := (top 27)
abbrev N_fullest : List Str := ["rest", "uses", "totals", "moment", "n", "moments", "most", "start", "count", "behind", "s", "end"]
abbrev P_fullest : List Str := ["rest", "uses"]
theorem sc_fullest : FnScope N_fullest P_fullest (defScope s_fullest) := ⟨rfl, rfl, rfl, by decide +kernel, rfl, by decide +kernel, by decide +kernel⟩
abbrev s_is_within : Stmt := (top 28)
abbrev N_is_within : List Str := ["rule", "uses"]
abbrev P_is_within : List Str := ["rule", "uses"]
theorem sc_is_within : FnScope N_is_within P_is_within (defScope s_is_within) := ⟨rfl, rfl, rfl, by decide +kernel, rfl, by decide +kernel, by decide +kernel⟩
abbrev s_bag : Stmt := (top 30)
abbrev N_bag : List Str := ["_law_script", "_law_seed", "_law_item"]
abbrev P_bag : List Str := ["_law_script"]
theorem sc_bag : FnScope N_bag P_bag (defScope s_bag) := ⟨rfl, rfl, rfl, by decide +kernel, rfl, by decide +kernel, by decide +kernel⟩
abbrev s_draw : Stmt := (top 31)
abbrev N_draw : List Str := ["_law_bag_here", "_law_limit", "_law_item", "_law_digit"]
abbrev P_draw : List Str := ["_law_bag_here", "_law_limit"]
theorem sc_draw : FnScope N_draw P_draw (defScope s_draw) := ⟨rfl, rfl, rfl, by decide +kernel, rfl, by decide +kernel, by decide +kernel⟩
abbrev s_of : Stmt := (top 32)
abbrev N_of : List Str := ["_law_bag_here", "_law_things"]
abbrev P_of : List Str := ["_law_bag_here", "_law_things"]
theorem sc_of : FnScope N_of P_of (defScope s_of) := ⟨rfl, rfl, rfl, by decide +kernel, rfl, by decide +kernel, by decide +kernel⟩
abbrev s_like : Stmt := (top 33)
abbrev N_like : List Str := ["_law_told", "_law_due_here", "_law_a", "_law_b"]
abbrev P_like : List Str := ["_law_told", "_law_due_here"]
theorem sc_like : FnScope N_like P_like (defScope s_like) := ⟨rfl, rfl, rfl, by decide +kernel, rfl, by decide +kernel, by decide +kernel⟩
abbrev cs_like_1 : Scope := { kind := .function, names := [(".0", .local), ("_law_a", .local), ("_law_b", .local), ("_law_like", .globalImplicit)], isGenerator := false, isCoroutine := false, more := [] }
abbrev s_llcm : Stmt := (top 34)
abbrev N_llcm : List Str := ["_law_a", "_law_b", "_law_one", "_law_two"]
abbrev P_llcm : List Str := ["_law_a", "_law_b"]
theorem sc_llcm : FnScope N_llcm P_llcm (defScope s_llcm) := ⟨rfl, rfl, rfl, by decide +kernel, rfl, by decide +kernel, by decide +kernel⟩
abbrev s_leaf : Stmt := (top 35)
abbrev N_leaf : List Str := ["_law_bag_here", "_law_wide", "_law_box", "_law_gap", "_law_edges", "_law_edge", "_law_k"]
abbrev P_leaf : List Str := ["_law_bag_here", "_law_wide", "_law_box"]
theorem sc_leaf : FnScope N_leaf P_leaf (defScope s_leaf) := ⟨rfl, rfl, rfl, by decide +kernel, rfl, by decide +kernel, by decide +kernel⟩
abbrev s_ljoined : Stmt := (top 36)
abbrev N_ljoined : List Str := ["_law_bag_here", "_law_parts", "_law_some", "_law_k", "_law_j", "_law_two"]
abbrev P_ljoined : List Str := ["_law_bag_here", "_law_parts"]
theorem sc_ljoined : FnScope N_ljoined P_ljoined (defScope s_ljoined) := ⟨rfl, rfl, rfl, by decide +kernel, rfl, by decide +kernel, by decide +kernel⟩
abbrev s_plan : Stmt := (top 37)
abbrev N_plan : List Str := ["_law_bag_here", "_law_wide", "_law_box", "_law_many", "_law_k"]
abbrev P_plan : List Str := ["_law_bag_here", "_law_wide", "_law_box"]
theorem sc_plan : FnScope N_plan P_plan (defScope s_plan) := ⟨rfl, rfl, rfl, by decide +kernel, rfl, by decide +kernel, by decide +kernel⟩
abbrev cs_plan_1 : Scope := { kind := .function, names := [(".0", .local), ("_law_k", .local), ("_law_leaf", .globalImplicit), ("_law_bag_here", .free), ("_law_box", .free), ("_law_wide", .free)], isGenerator := false, isCoroutine := false, more := [] }
abbrev s_at : Stmt := (top 38)
abbrev N_at : List Str := ["_law_plan_here", "_law_s", "_law_edge", "_law_base", "_law_one", "_law_two"]
abbrev P_at : List Str := ["_law_plan_here", "_law_s"]
theorem sc_at : FnScope N_at P_at (defScope s_at) := ⟨rfl, rfl, rfl, by decide +kernel, rfl, by decide +kernel, by decide +kernel⟩
abbrev s_made : Stmt := (top 39)
abbrev N_made : List Str := ["_law_plan_here", "_law_one", "_law_two"]
abbrev P_made : List Str := ["_law_plan_here"]
theorem sc_made : FnScope N_made P_made (defScope s_made) := ⟨rfl, rfl, rfl, by decide +kernel, rfl, by decide +kernel, by decide +kernel⟩
abbrev s_items : Stmt := (top 40)
abbrev N_items : List Str := ["_law_bag_here", "_law_plan_here", "_law_base", "_law_wide", "_law_some", "_law_k", "_law_s", "_law_many"]
abbrev P_items : List Str := ["_law_bag_here", "_law_plan_here"]
theorem sc_items : FnScope N_items P_items (defScope s_items) := ⟨rfl, rfl, rfl, by decide +kernel, rfl, by decide +kernel, by decide +kernel⟩
abbrev s_sum : Stmt := (top 41)
abbrev N_sum : List Str := ["_law_plan_here", "_law_items_here", "_law_s", "_law_stop", "_law_moment", "_law_many"]
abbrev P_sum : List Str := ["_law_plan_here", "_law_items_here", "_law_s"]
theorem sc_sum : FnScope N_sum P_sum (defScope s_sum) := ⟨rfl, rfl, rfl, by decide +kernel, rfl, by decide +kernel, by decide +kernel⟩
abbrev cs_sum_1 : Scope := { kind := .function, names := [(".0", .local), ("_law_moment", .local), ("_law_many", .local), ("_law_s", .free), ("_law_stop", .free)], isGenerator := false, isCoroutine := false, more := [] }
abbrev s_due : Stmt := (top 42)
abbrev N_due : List Str := ["_law_plan_here", "_law_items_here", "_law_best", "_law_s", "_law_here", "_law_moment", "_law_many"]
abbrev P_due : List Str := ["_law_plan_here", "_law_items_here"]
theorem sc_due : FnScope N_due P_due (defScope s_due) := ⟨rfl, rfl, rfl, by decide +kernel, rfl, by decide +kernel, by decide +kernel⟩
abbrev cs_due_1 : Scope := { kind := .function, names := [(".0", .local), ("_law_moment", .local), ("_law_many", .local)], isGenerator := false, isCoroutine := false, more := [] }
abbrev s_greatest : Stmt := (top 43)
abbrev N_greatest : List Str := ["_law_plan_here", "_law_items_here", "_law_low", "_law_high", "_law_moment", "_law_many", "_law_s"]
abbrev P_greatest : List Str := ["_law_plan_here", "_law_items_here"]
theorem sc_greatest : FnScope N_greatest P_greatest (defScope s_greatest) := ⟨rfl, rfl, rfl, by decide +kernel, rfl, by decide +kernel, by decide +kernel⟩
abbrev cs_greatest_1 : Scope := { kind := .function, names := [(".0", .local), ("_law_s", .local), ("_law_sum", .globalImplicit), ("_law_items_here", .free), ("_law_plan_here", .free)], isGenerator := false, isCoroutine := false, more := [] }
abbrev cs_greatest_2 : Scope := { kind := .function, names := [(".0", .local), ("_law_moment", .local), ("_law_many", .local)], isGenerator := false, isCoroutine := false, more := [] }
abbrev cs_greatest_3 : Scope := { kind := .function, names := [(".0", .local), ("_law_moment", .local), ("_law_many", .local)], isGenerator := false, isCoroutine := false, more := [] }
abbrev s_within_so : Stmt := (top 44)
abbrev N_within_so : List Str := ["_law_bag_here", "_law_plan_here", "_law_thing", "_law_items_here", "_law_best", "_law_chips", "_law_told"]
abbrev P_within_so : List Str := ["_law_bag_here", "_law_plan_here", "_law_thing", "_law_items_here", "_law_best"]
theorem sc_within_so : FnScope N_within_so P_within_so (defScope s_within_so) := ⟨rfl, rfl, rfl, by decide +kernel, rfl, by decide +kernel, by decide +kernel⟩
abbrev s_so : Stmt := (top 45)
abbrev N_so : List Str := ["_law_bag_here", "_law_plan_here", "_law_thing", "_law_items_here", "_law_due_here", "_law_given", "_law_more"]
abbrev P_so : List Str := ["_law_bag_here", "_law_plan_here", "_law_thing", "_law_items_here"]
theorem sc_so : FnScope N_so P_so (defScope s_so) := ⟨rfl, rfl, rfl, by decide +kernel, rfl, by decide +kernel, by decide +kernel⟩
abbrev s_law : Stmt := (top 46)
abbrev N_law : List Str := ["_law_script", "_law_bag_here", "_law_wide", "_law_plans", "_law_things", "_law_j", "_law_items_here", "_law_plan_here"]
abbrev P_law : List Str := ["_law_script"]
theorem sc_law : FnScope N_law P_law (defScope s_law) := ⟨rfl, rfl, rfl, by decide +kernel, rfl, by decide +kernel, by decide +kernel⟩
abbrev cs_law_1 : Scope := { kind := .function, names := [(".0", .local), ("_law_plan_here", .local), ("_law_made", .globalImplicit)], isGenerator := false, isCoroutine := false, more := [] }
theorem g_draw_int : (defScope s_draw).names.lookup ("int" : Str) = some NameKind.globalImplicit := by decide +kernel
theorem v_draw_law_bag_here : visB (defScope s_draw) "_law_bag_here" = true := by decide +kernel
theorem v_draw_law_limit : visB (defScope s_draw) "_law_limit" = true := by decide +kernel
theorem v_draw_law_digit : visB (defScope s_draw) "_law_digit" = true := by decide +kernel
theorem l_draw_law_digit : locB (defScope s_draw) "_law_digit" = true := by decide +kernel
theorem g_draw_len : (defScope s_draw).names.lookup ("len" : Str) = some NameKind.globalImplicit := by decide +kernel
theorem v_draw_law_item : visB (defScope s_draw) "_law_item" = true := by decide +kernel
theorem l_draw_law_item : locB (defScope s_draw) "_law_item" = true := by decide +kernel
theorem v_of_law_things : visB (defScope s_of) "_law_things" = true := by decide +kernel
theorem g_of_law_draw : (defScope s_of).names.lookup ("_law_draw" : Str) = some NameKind.globalImplicit := by decide +kernel
theorem g_of_len : (defScope s_of).names.lookup ("len" : Str) = some NameKind.globalImplicit := by decide +kernel
theorem v_of_law_bag_here : visB (defScope s_of) "_law_bag_here" = true := by decide +kernel
theorem v_bag_law_seed : visB (defScope s_bag) "_law_seed" = true := by decide +kernel
theorem g_bag_list : (defScope s_bag).names.lookup ("list" : Str) = some NameKind.globalImplicit := by decide +kernel
theorem v_bag_law_script : visB (defScope s_bag) "_law_script" = true := by decide +kernel
theorem l_bag_law_item : locB (defScope s_bag) "_law_item" = true := by decide +kernel
theorem l_bag_law_seed : locB (defScope s_bag) "_law_seed" = true := by decide +kernel
theorem g_bag_int : (defScope s_bag).names.lookup ("int" : Str) = some NameKind.globalImplicit := by decide +kernel
theorem v_bag_law_item : visB (defScope s_bag) "_law_item" = true := by decide +kernel
theorem g_is_number_isinstance : (defScope s_is_number).names.lookup ("isinstance" : Str) = some NameKind.globalImplicit := by decide +kernel
theorem g_is_number_int : (defScope s_is_number).names.lookup ("int" : Str) = some NameKind.globalImplicit := by decide +kernel
theorem v_is_number_value : visB (defScope s_is_number) "value" = true := by decide +kernel
theorem g_is_number_bool : (defScope s_is_number).names.lookup ("bool" : Str) = some NameKind.globalImplicit := by decide +kernel
theorem v_is_number_least : visB (defScope s_is_number) "least" = true := by decide +kernel
theorem v_is_number_most : visB (defScope s_is_number) "most" = true := by decide +kernel
theorem v_Rest_init_self : visB (defScope s_Rest_init) "self" = true := by decide +kernel
theorem v_Rest_init_bend : visB (defScope s_Rest_init) "bend" = true := by decide +kernel
theorem v_Rest_init_period : visB (defScope s_Rest_init) "period" = true := by decide +kernel
theorem v_Rest_init_forms : visB (defScope s_Rest_init) "forms" = true := by decide +kernel
theorem v_Rest_init_text : visB (defScope s_Rest_init) "text" = true := by decide +kernel
theorem v_Rest_forms_self : visB (defScope s_Rest_forms) "self" = true := by decide +kernel
theorem v_Rest_period_self : visB (defScope s_Rest_period) "self" = true := by decide +kernel
theorem v_Rest_bend_self : visB (defScope s_Rest_bend) "self" = true := by decide +kernel
theorem v_Rest_written_self : visB (defScope s_Rest_written) "self" = true := by decide +kernel
theorem v_joined_bend : visB (defScope s_joined) "bend" = true := by decide +kernel
theorem v_joined_period : visB (defScope s_joined) "period" = true := by decide +kernel
theorem v_joined_forms : visB (defScope s_joined) "forms" = true := by decide +kernel
theorem v_joined_second : visB (defScope s_joined) "second" = true := by decide +kernel
theorem v_joined_first : visB (defScope s_joined) "first" = true := by decide +kernel
theorem v_joined_word : visB (defScope s_joined) "word" = true := by decide +kernel
theorem l_joined_bend : locB (defScope s_joined) "bend" = true := by decide +kernel
theorem g_joined_max : (defScope s_joined).names.lookup ("max" : Str) = some NameKind.globalImplicit := by decide +kernel
theorem g_joined_PERIOD : (defScope s_joined).names.lookup ("PERIOD" : Str) = some NameKind.globalImplicit := by decide +kernel
theorem l_joined_period : locB (defScope s_joined) "period" = true := by decide +kernel
theorem g_joined_lcm : (defScope s_joined).names.lookup ("lcm" : Str) = some NameKind.globalImplicit := by decide +kernel
theorem g_joined_FORMS : (defScope s_joined).names.lookup ("FORMS" : Str) = some NameKind.globalImplicit := by decide +kernel
theorem l_joined_forms : locB (defScope s_joined) "forms" = true := by decide +kernel
theorem l_joined_value : locB (defScope s_joined) "value" = true := by decide +kernel
theorem g_joined_isinstance : (defScope s_joined).names.lookup ("isinstance" : Str) = some NameKind.globalImplicit := by decide +kernel
theorem g_joined_Rest : (defScope s_joined).names.lookup ("Rest" : Str) = some NameKind.globalImplicit := by decide +kernel
theorem v_joined_value : visB (defScope s_joined) "value" = true := by decide +kernel
theorem v_Window_init_self : visB (defScope s_Window_init) "self" = true := by decide +kernel
theorem v_Window_init_width : visB (defScope s_Window_init) "width" = true := by decide +kernel
theorem g_Window_init_super : (defScope s_Window_init).names.lookup ("super" : Str) = some NameKind.globalImplicit := by decide +kernel
theorem fr_Window_init : (defScope s_Window_init).names.lookup ("__class__" : Str) = some NameKind.free := by decide +kernel
theorem l_Window_init_self : locB (defScope s_Window_init) "self" = true := by decide +kernel
theorem g_Window_init_is_number : (defScope s_Window_init).names.lookup ("is_number" : Str) = some NameKind.globalImplicit := by decide +kernel
theorem v_Days_init_self : visB (defScope s_Days_init) "self" = true := by decide +kernel
theorem g_Days_init_list : (defScope s_Days_init).names.lookup ("list" : Str) = some NameKind.globalImplicit := by decide +kernel
theorem v_Days_init_borders : visB (defScope s_Days_init) "borders" = true := by decide +kernel
theorem v_Days_init_every : visB (defScope s_Days_init) "every" = true := by decide +kernel
theorem g_Days_init_super : (defScope s_Days_init).names.lookup ("super" : Str) = some NameKind.globalImplicit := by decide +kernel
theorem fr_Days_init : (defScope s_Days_init).names.lookup ("__class__" : Str) = some NameKind.free := by decide +kernel
theorem l_Days_init_self : locB (defScope s_Days_init) "self" = true := by decide +kernel
theorem v_Days_init_last : visB (defScope s_Days_init) "last" = true := by decide +kernel
theorem v_Days_init_words : visB (defScope s_Days_init) "words" = true := by decide +kernel
theorem l_Days_init_words : locB (defScope s_Days_init) "words" = true := by decide +kernel
theorem ok_cs_Days_init_1 : BlkOk N_Days_init (defScope s_Days_init) cs_Days_init_1 [("border", 6)] := blkOk_by (by decide +kernel)
theorem l_Days_init_1_border : locB (relS cs_Days_init_1 (defScope s_Days_init)) "border" = true := by decide +kernel
theorem g_Days_init_1_str : (relS cs_Days_init_1 (defScope s_Days_init)).names.lookup ("str" : Str) = some NameKind.globalImplicit := by decide +kernel
theorem v_Days_init_1_border : visB (relS cs_Days_init_1 (defScope s_Days_init)) "border" = true := by decide +kernel
theorem g_Days_init_str : (defScope s_Days_init).names.lookup ("str" : Str) = some NameKind.globalImplicit := by decide +kernel
theorem g_Days_init_is_number : (defScope s_Days_init).names.lookup ("is_number" : Str) = some NameKind.globalImplicit := by decide +kernel
theorem g_Days_init_enumerate : (defScope s_Days_init).names.lookup ("enumerate" : Str) = some NameKind.globalImplicit := by decide +kernel
theorem l_Days_init_border : locB (defScope s_Days_init) "border" = true := by decide +kernel
theorem l_Days_init_at : locB (defScope s_Days_init) "at" = true := by decide +kernel
theorem l_Days_init_last : locB (defScope s_Days_init) "last" = true := by decide +kernel
theorem v_Days_init_border : visB (defScope s_Days_init) "border" = true := by decide +kernel
theorem g_Days_init_len : (defScope s_Days_init).names.lookup ("len" : Str) = some NameKind.globalImplicit := by decide +kernel
theorem g_Days_init_BORDERS : (defScope s_Days_init).names.lookup ("BORDERS" : Str) = some NameKind.globalImplicit := by decide +kernel
theorem g_Days_init_isinstance : (defScope s_Days_init).names.lookup ("isinstance" : Str) = some NameKind.globalImplicit := by decide +kernel
theorem g_Days_init_tuple : (defScope s_Days_init).names.lookup ("tuple" : Str) = some NameKind.globalImplicit := by decide +kernel
theorem v_Later_init_self : visB (defScope s_Later_init) "self" = true := by decide +kernel
theorem v_Later_init_second : visB (defScope s_Later_init) "second" = true := by decide +kernel
theorem v_Later_init_first : visB (defScope s_Later_init) "first" = true := by decide +kernel
theorem g_Later_init_super : (defScope s_Later_init).names.lookup ("super" : Str) = some NameKind.globalImplicit := by decide +kernel
theorem fr_Later_init : (defScope s_Later_init).names.lookup ("__class__" : Str) = some NameKind.free := by decide +kernel
theorem l_Later_init_self : locB (defScope s_Later_init) "self" = true := by decide +kernel
theorem v_Later_init_bend : visB (defScope s_Later_init) "bend" = true := by decide +kernel
theorem v_Later_init_period : visB (defScope s_Later_init) "period" = true := by decide +kernel
theorem v_Later_init_forms : visB (defScope s_Later_init) "forms" = true := by decide +kernel
theorem v_Later_init_text : visB (defScope s_Later_init) "text" = true := by decide +kernel
theorem g_Later_init_joined : (defScope s_Later_init).names.lookup ("joined" : Str) = some NameKind.globalImplicit := by decide +kernel
theorem l_Later_init_bend : locB (defScope s_Later_init) "bend" = true := by decide +kernel
theorem l_Later_init_period : locB (defScope s_Later_init) "period" = true := by decide +kernel
theorem l_Later_init_forms : locB (defScope s_Later_init) "forms" = true := by decide +kernel
theorem l_Later_init_text : locB (defScope s_Later_init) "text" = true := by decide +kernel
theorem v_Sooner_init_self : visB (defScope s_Sooner_init) "self" = true := by decide +kernel
theorem v_Sooner_init_second : visB (defScope s_Sooner_init) "second" = true := by decide +kernel
theorem v_Sooner_init_first : visB (defScope s_Sooner_init) "first" = true := by decide +kernel
theorem g_Sooner_init_super : (defScope s_Sooner_init).names.lookup ("super" : Str) = some NameKind.globalImplicit := by decide +kernel
theorem fr_Sooner_init : (defScope s_Sooner_init).names.lookup ("__class__" : Str) = some NameKind.free := by decide +kernel
theorem l_Sooner_init_self : locB (defScope s_Sooner_init) "self" = true := by decide +kernel
theorem v_Sooner_init_bend : visB (defScope s_Sooner_init) "bend" = true := by decide +kernel
theorem v_Sooner_init_period : visB (defScope s_Sooner_init) "period" = true := by decide +kernel
theorem v_Sooner_init_forms : visB (defScope s_Sooner_init) "forms" = true := by decide +kernel
theorem v_Sooner_init_text : visB (defScope s_Sooner_init) "text" = true := by decide +kernel
theorem g_Sooner_init_joined : (defScope s_Sooner_init).names.lookup ("joined" : Str) = some NameKind.globalImplicit := by decide +kernel
theorem l_Sooner_init_bend : locB (defScope s_Sooner_init) "bend" = true := by decide +kernel
theorem l_Sooner_init_period : locB (defScope s_Sooner_init) "period" = true := by decide +kernel
theorem l_Sooner_init_forms : locB (defScope s_Sooner_init) "forms" = true := by decide +kernel
theorem l_Sooner_init_text : locB (defScope s_Sooner_init) "text" = true := by decide +kernel
theorem v_Next_init_self : visB (defScope s_Next_init) "self" = true := by decide +kernel
theorem v_Next_init_second : visB (defScope s_Next_init) "second" = true := by decide +kernel
theorem v_Next_init_first : visB (defScope s_Next_init) "first" = true := by decide +kernel
theorem g_Next_init_super : (defScope s_Next_init).names.lookup ("super" : Str) = some NameKind.globalImplicit := by decide +kernel
theorem fr_Next_init : (defScope s_Next_init).names.lookup ("__class__" : Str) = some NameKind.free := by decide +kernel
theorem l_Next_init_self : locB (defScope s_Next_init) "self" = true := by decide +kernel
theorem v_Next_init_bend : visB (defScope s_Next_init) "bend" = true := by decide +kernel
theorem v_Next_init_period : visB (defScope s_Next_init) "period" = true := by decide +kernel
theorem v_Next_init_forms : visB (defScope s_Next_init) "forms" = true := by decide +kernel
theorem v_Next_init_text : visB (defScope s_Next_init) "text" = true := by decide +kernel
theorem g_Next_init_joined : (defScope s_Next_init).names.lookup ("joined" : Str) = some NameKind.globalImplicit := by decide +kernel
theorem l_Next_init_bend : locB (defScope s_Next_init) "bend" = true := by decide +kernel
theorem l_Next_init_period : locB (defScope s_Next_init) "period" = true := by decide +kernel
theorem l_Next_init_forms : locB (defScope s_Next_init) "forms" = true := by decide +kernel
theorem l_Next_init_text : locB (defScope s_Next_init) "text" = true := by decide +kernel
theorem v_Window_after_t : visB (defScope s_Window_after) "t" = true := by decide +kernel
theorem v_Window_after_self : visB (defScope s_Window_after) "self" = true := by decide +kernel
theorem v_Days_after_self : visB (defScope s_Days_after) "self" = true := by decide +kernel
theorem v_Days_after_t : visB (defScope s_Days_after) "t" = true := by decide +kernel
theorem l_Days_after_border : locB (defScope s_Days_after) "border" = true := by decide +kernel
theorem v_Days_after_border : visB (defScope s_Days_after) "border" = true := by decide +kernel
theorem g_Later_after_max : (defScope s_Later_after).names.lookup ("max" : Str) = some NameKind.globalImplicit := by decide +kernel
theorem v_Later_after_self : visB (defScope s_Later_after) "self" = true := by decide +kernel
theorem v_Later_after_t : visB (defScope s_Later_after) "t" = true := by decide +kernel
theorem g_Sooner_after_min : (defScope s_Sooner_after).names.lookup ("min" : Str) = some NameKind.globalImplicit := by decide +kernel
theorem v_Sooner_after_self : visB (defScope s_Sooner_after) "self" = true := by decide +kernel
theorem v_Sooner_after_t : visB (defScope s_Sooner_after) "t" = true := by decide +kernel
theorem v_Next_after_self : visB (defScope s_Next_after) "self" = true := by decide +kernel
theorem v_Next_after_t : visB (defScope s_Next_after) "t" = true := by decide +kernel
theorem v_Rest_call_self : visB (defScope s_Rest_call) "self" = true := by decide +kernel
theorem v_Rest_call_t : visB (defScope s_Rest_call) "t" = true := by decide +kernel
theorem v_llcm_law_a : visB (defScope s_llcm) "_law_a" = true := by decide +kernel
theorem v_llcm_law_one : visB (defScope s_llcm) "_law_one" = true := by decide +kernel
theorem v_llcm_law_b : visB (defScope s_llcm) "_law_b" = true := by decide +kernel
theorem v_llcm_law_two : visB (defScope s_llcm) "_law_two" = true := by decide +kernel
theorem l_llcm_law_one : locB (defScope s_llcm) "_law_one" = true := by decide +kernel
theorem l_llcm_law_two : locB (defScope s_llcm) "_law_two" = true := by decide +kernel
theorem g_llcm_int : (defScope s_llcm).names.lookup ("int" : Str) = some NameKind.globalImplicit := by decide +kernel
theorem v_leaf_law_gap : visB (defScope s_leaf) "_law_gap" = true := by decide +kernel
theorem g_leaf_tuple : (defScope s_leaf).names.lookup ("tuple" : Str) = some NameKind.globalImplicit := by decide +kernel
theorem v_leaf_law_edges : visB (defScope s_leaf) "_law_edges" = true := by decide +kernel
theorem g_leaf_range : (defScope s_leaf).names.lookup ("range" : Str) = some NameKind.globalImplicit := by decide +kernel
theorem g_leaf_law_of : (defScope s_leaf).names.lookup ("_law_of" : Str) = some NameKind.globalImplicit := by decide +kernel
theorem v_leaf_law_bag_here : visB (defScope s_leaf) "_law_bag_here" = true := by decide +kernel
theorem l_leaf_law_k : locB (defScope s_leaf) "_law_k" = true := by decide +kernel
theorem v_leaf_law_edge : visB (defScope s_leaf) "_law_edge" = true := by decide +kernel
theorem l_leaf_law_edge : locB (defScope s_leaf) "_law_edge" = true := by decide +kernel
theorem g_leaf_law_draw : (defScope s_leaf).names.lookup ("_law_draw" : Str) = some NameKind.globalImplicit := by decide +kernel
theorem g_leaf_min : (defScope s_leaf).names.lookup ("min" : Str) = some NameKind.globalImplicit := by decide +kernel
theorem v_leaf_law_wide : visB (defScope s_leaf) "_law_wide" = true := by decide +kernel
theorem l_leaf_law_edges : locB (defScope s_leaf) "_law_edges" = true := by decide +kernel
theorem g_leaf_law_lcm : (defScope s_leaf).names.lookup ("_law_lcm" : Str) = some NameKind.globalImplicit := by decide +kernel
theorem v_leaf_law_box : visB (defScope s_leaf) "_law_box" = true := by decide +kernel
theorem l_leaf_law_gap : locB (defScope s_leaf) "_law_gap" = true := by decide +kernel
theorem v_ljoined_law_some : visB (defScope s_ljoined) "_law_some" = true := by decide +kernel
theorem g_ljoined_range : (defScope s_ljoined).names.lookup ("range" : Str) = some NameKind.globalImplicit := by decide +kernel
theorem g_ljoined_len : (defScope s_ljoined).names.lookup ("len" : Str) = some NameKind.globalImplicit := by decide +kernel
theorem v_ljoined_law_parts : visB (defScope s_ljoined) "_law_parts" = true := by decide +kernel
theorem l_ljoined_law_k : locB (defScope s_ljoined) "_law_k" = true := by decide +kernel
theorem v_ljoined_law_two : visB (defScope s_ljoined) "_law_two" = true := by decide +kernel
theorem v_ljoined_law_j : visB (defScope s_ljoined) "_law_j" = true := by decide +kernel
theorem g_ljoined_law_of : (defScope s_ljoined).names.lookup ("_law_of" : Str) = some NameKind.globalImplicit := by decide +kernel
theorem v_ljoined_law_bag_here : visB (defScope s_ljoined) "_law_bag_here" = true := by decide +kernel
theorem l_ljoined_law_two : locB (defScope s_ljoined) "_law_two" = true := by decide +kernel
theorem l_ljoined_law_j : locB (defScope s_ljoined) "_law_j" = true := by decide +kernel
theorem g_ljoined_law_draw : (defScope s_ljoined).names.lookup ("_law_draw" : Str) = some NameKind.globalImplicit := by decide +kernel
theorem l_ljoined_law_some : locB (defScope s_ljoined) "_law_some" = true := by decide +kernel
theorem g_ljoined_list : (defScope s_ljoined).names.lookup ("list" : Str) = some NameKind.globalImplicit := by decide +kernel
theorem g_plan_law_joined : (defScope s_plan).names.lookup ("_law_joined" : Str) = some NameKind.globalImplicit := by decide +kernel
theorem ok_cs_plan_1 : BlkOk N_plan (defScope s_plan) cs_plan_1 [("_law_k", 4)] := blkOk_by (by decide +kernel)
theorem g_plan_range : (defScope s_plan).names.lookup ("range" : Str) = some NameKind.globalImplicit := by decide +kernel
theorem v_plan_law_many : visB (defScope s_plan) "_law_many" = true := by decide +kernel
theorem l_plan_1_law_k : locB (relS cs_plan_1 (defScope s_plan)) "_law_k" = true := by decide +kernel
theorem g_plan_1_law_leaf : (relS cs_plan_1 (defScope s_plan)).names.lookup ("_law_leaf" : Str) = some NameKind.globalImplicit := by decide +kernel
theorem v_plan_1_law_box : visB (relS cs_plan_1 (defScope s_plan)) "_law_box" = true := by decide +kernel
theorem v_plan_1_law_wide : visB (relS cs_plan_1 (defScope s_plan)) "_law_wide" = true := by decide +kernel
theorem v_plan_1_law_bag_here : visB (relS cs_plan_1 (defScope s_plan)) "_law_bag_here" = true := by decide +kernel
theorem v_plan_law_bag_here : visB (defScope s_plan) "_law_bag_here" = true := by decide +kernel
theorem l_plan_law_many : locB (defScope s_plan) "_law_many" = true := by decide +kernel
theorem g_plan_law_of : (defScope s_plan).names.lookup ("_law_of" : Str) = some NameKind.globalImplicit := by decide +kernel
theorem v_at_law_plan_here : visB (defScope s_at) "_law_plan_here" = true := by decide +kernel
theorem g_at_max : (defScope s_at).names.lookup ("max" : Str) = some NameKind.globalImplicit := by decide +kernel
theorem v_at_law_two : visB (defScope s_at) "_law_two" = true := by decide +kernel
theorem v_at_law_one : visB (defScope s_at) "_law_one" = true := by decide +kernel
theorem g_at_min : (defScope s_at).names.lookup ("min" : Str) = some NameKind.globalImplicit := by decide +kernel
theorem l_at_law_one : locB (defScope s_at) "_law_one" = true := by decide +kernel
theorem l_at_law_two : locB (defScope s_at) "_law_two" = true := by decide +kernel
theorem g_at_law_at : (defScope s_at).names.lookup ("_law_at" : Str) = some NameKind.globalImplicit := by decide +kernel
theorem v_at_law_s : visB (defScope s_at) "_law_s" = true := by decide +kernel
theorem v_at_law_base : visB (defScope s_at) "_law_base" = true := by decide +kernel
theorem l_at_law_base : locB (defScope s_at) "_law_base" = true := by decide +kernel
theorem l_at_law_edge : locB (defScope s_at) "_law_edge" = true := by decide +kernel
theorem v_at_law_edge : visB (defScope s_at) "_law_edge" = true := by decide +kernel
theorem v_made_law_plan_here : visB (defScope s_made) "_law_plan_here" = true := by decide +kernel
theorem g_made_Sooner : (defScope s_made).names.lookup ("Sooner" : Str) = some NameKind.globalImplicit := by decide +kernel
theorem v_made_law_two : visB (defScope s_made) "_law_two" = true := by decide +kernel
theorem v_made_law_one : visB (defScope s_made) "_law_one" = true := by decide +kernel
theorem g_made_Next : (defScope s_made).names.lookup ("Next" : Str) = some NameKind.globalImplicit := by decide +kernel
theorem g_made_Later : (defScope s_made).names.lookup ("Later" : Str) = some NameKind.globalImplicit := by decide +kernel
theorem l_made_law_one : locB (defScope s_made) "_law_one" = true := by decide +kernel
theorem l_made_law_two : locB (defScope s_made) "_law_two" = true := by decide +kernel
theorem g_made_law_made : (defScope s_made).names.lookup ("_law_made" : Str) = some NameKind.globalImplicit := by decide +kernel
theorem g_made_Days : (defScope s_made).names.lookup ("Days" : Str) = some NameKind.globalImplicit := by decide +kernel
theorem g_made_list : (defScope s_made).names.lookup ("list" : Str) = some NameKind.globalImplicit := by decide +kernel
theorem g_made_Window : (defScope s_made).names.lookup ("Window" : Str) = some NameKind.globalImplicit := by decide +kernel
theorem v_is_name_value : visB (defScope s_is_name) "value" = true := by decide +kernel
theorem l_is_name_sign : locB (defScope s_is_name) "sign" = true := by decide +kernel
theorem v_is_name_sign : visB (defScope s_is_name) "sign" = true := by decide +kernel
theorem g_is_name_LETTERS : (defScope s_is_name).names.lookup ("LETTERS" : Str) = some NameKind.globalImplicit := by decide +kernel
theorem g_is_name_DIGITS : (defScope s_is_name).names.lookup ("DIGITS" : Str) = some NameKind.globalImplicit := by decide +kernel
theorem g_is_name_isinstance : (defScope s_is_name).names.lookup ("isinstance" : Str) = some NameKind.globalImplicit := by decide +kernel
theorem g_is_name_str : (defScope s_is_name).names.lookup ("str" : Str) = some NameKind.globalImplicit := by decide +kernel
theorem g_is_name_len : (defScope s_is_name).names.lookup ("len" : Str) = some NameKind.globalImplicit := by decide +kernel
theorem v_fullest_start : visB (defScope s_fullest) "start" = true := by decide +kernel
theorem v_fullest_most : visB (defScope s_fullest) "most" = true := by decide +kernel
theorem v_fullest_moments : visB (defScope s_fullest) "moments" = true := by decide +kernel
theorem l_fullest_s : locB (defScope s_fullest) "s" = true := by decide +kernel
theorem l_fullest_count : locB (defScope s_fullest) "count" = true := by decide +kernel
theorem v_fullest_totals : visB (defScope s_fullest) "totals" = true := by decide +kernel
theorem v_fullest_s : visB (defScope s_fullest) "s" = true := by decide +kernel
theorem v_fullest_count : visB (defScope s_fullest) "count" = true := by decide +kernel
theorem l_fullest_most : locB (defScope s_fullest) "most" = true := by decide +kernel
theorem l_fullest_start : locB (defScope s_fullest) "start" = true := by decide +kernel
theorem v_fullest_behind : visB (defScope s_fullest) "behind" = true := by decide +kernel
theorem g_fullest_len : (defScope s_fullest).names.lookup ("len" : Str) = some NameKind.globalImplicit := by decide +kernel
theorem v_fullest_end : visB (defScope s_fullest) "end" = true := by decide +kernel
theorem l_fullest_behind : locB (defScope s_fullest) "behind" = true := by decide +kernel
theorem l_fullest_end : locB (defScope s_fullest) "end" = true := by decide +kernel
theorem v_fullest_rest : visB (defScope s_fullest) "rest" = true := by decide +kernel
theorem l_fullest_moments : locB (defScope s_fullest) "moments" = true := by decide +kernel
theorem g_fullest_sorted : (defScope s_fullest).names.lookup ("sorted" : Str) = some NameKind.globalImplicit := by decide +kernel
theorem v_fullest_uses : visB (defScope s_fullest) "uses" = true := by decide +kernel
theorem l_fullest_n : locB (defScope s_fullest) "n" = true := by decide +kernel
theorem l_fullest_moment : locB (defScope s_fullest) "moment" = true := by decide +kernel
theorem v_fullest_moment : visB (defScope s_fullest) "moment" = true := by decide +kernel
theorem v_fullest_n : visB (defScope s_fullest) "n" = true := by decide +kernel
theorem l_fullest_totals : locB (defScope s_fullest) "totals" = true := by decide +kernel
theorem v_Rule_init_self : visB (defScope s_Rule_init) "self" = true := by decide +kernel
theorem v_Rule_init_rest : visB (defScope s_Rule_init) "rest" = true := by decide +kernel
theorem v_Rule_init_chips : visB (defScope s_Rule_init) "chips" = true := by decide +kernel
theorem v_Rule_init_name : visB (defScope s_Rule_init) "name" = true := by decide +kernel
theorem g_Rule_init_isinstance : (defScope s_Rule_init).names.lookup ("isinstance" : Str) = some NameKind.globalImplicit := by decide +kernel
theorem g_Rule_init_Rest : (defScope s_Rule_init).names.lookup ("Rest" : Str) = some NameKind.globalImplicit := by decide +kernel
theorem g_Rule_init_is_number : (defScope s_Rule_init).names.lookup ("is_number" : Str) = some NameKind.globalImplicit := by decide +kernel
theorem g_Rule_init_is_name : (defScope s_Rule_init).names.lookup ("is_name" : Str) = some NameKind.globalImplicit := by decide +kernel
theorem g_is_within_fullest : (defScope s_is_within).names.lookup ("fullest" : Str) = some NameKind.globalImplicit := by decide +kernel
theorem v_is_within_uses : visB (defScope s_is_within) "uses" = true := by decide +kernel
theorem v_is_within_rule : visB (defScope s_is_within) "rule" = true := by decide +kernel
theorem g_like_bool : (defScope s_like).names.lookup ("bool" : Str) = some NameKind.globalImplicit := by decide +kernel
theorem v_like_law_told : visB (defScope s_like) "_law_told" = true := by decide +kernel
theorem v_like_law_due_here : visB (defScope s_like) "_law_due_here" = true := by decide +kernel
theorem g_like_isinstance : (defScope s_like).names.lookup ("isinstance" : Str) = some NameKind.globalImplicit := by decide +kernel
theorem g_like_dict : (defScope s_like).names.lookup ("dict" : Str) = some NameKind.globalImplicit := by decide +kernel
theorem g_like_str : (defScope s_like).names.lookup ("str" : Str) = some NameKind.globalImplicit := by decide +kernel
theorem g_like_int : (defScope s_like).names.lookup ("int" : Str) = some NameKind.globalImplicit := by decide +kernel
theorem g_like_tuple : (defScope s_like).names.lookup ("tuple" : Str) = some NameKind.globalImplicit := by decide +kernel
theorem g_like_list : (defScope s_like).names.lookup ("list" : Str) = some NameKind.globalImplicit := by decide +kernel
theorem g_like_len : (defScope s_like).names.lookup ("len" : Str) = some NameKind.globalImplicit := by decide +kernel
theorem g_like_all : (defScope s_like).names.lookup ("all" : Str) = some NameKind.globalImplicit := by decide +kernel
theorem ok_cs_like_1 : BlkOk N_like (defScope s_like) cs_like_1 [("_law_a", 2), ("_law_b", 3)] := blkOk_by (by decide +kernel)
theorem g_like_zip : (defScope s_like).names.lookup ("zip" : Str) = some NameKind.globalImplicit := by decide +kernel
theorem l_like_1_law_b : locB (relS cs_like_1 (defScope s_like)) "_law_b" = true := by decide +kernel
theorem l_like_1_law_a : locB (relS cs_like_1 (defScope s_like)) "_law_a" = true := by decide +kernel
theorem g_like_1_law_like : (relS cs_like_1 (defScope s_like)).names.lookup ("_law_like" : Str) = some NameKind.globalImplicit := by decide +kernel
theorem v_like_1_law_b : visB (relS cs_like_1 (defScope s_like)) "_law_b" = true := by decide +kernel
theorem v_like_1_law_a : visB (relS cs_like_1 (defScope s_like)) "_law_a" = true := by decide +kernel
theorem v_items_law_some : visB (defScope s_items) "_law_some" = true := by decide +kernel
theorem g_items_range : (defScope s_items).names.lookup ("range" : Str) = some NameKind.globalImplicit := by decide +kernel
theorem g_items_law_of : (defScope s_items).names.lookup ("_law_of" : Str) = some NameKind.globalImplicit := by decide +kernel
theorem v_items_law_bag_here : visB (defScope s_items) "_law_bag_here" = true := by decide +kernel
theorem l_items_law_k : locB (defScope s_items) "_law_k" = true := by decide +kernel
theorem v_items_law_many : visB (defScope s_items) "_law_many" = true := by decide +kernel
theorem v_items_law_s : visB (defScope s_items) "_law_s" = true := by decide +kernel
theorem g_items_law_draw : (defScope s_items).names.lookup ("_law_draw" : Str) = some NameKind.globalImplicit := by decide +kernel
theorem l_items_law_many : locB (defScope s_items) "_law_many" = true := by decide +kernel
theorem l_items_law_s : locB (defScope s_items) "_law_s" = true := by decide +kernel
theorem v_items_law_base : visB (defScope s_items) "_law_base" = true := by decide +kernel
theorem g_items_int : (defScope s_items).names.lookup ("int" : Str) = some NameKind.globalImplicit := by decide +kernel
theorem g_items_law_at : (defScope s_items).names.lookup ("_law_at" : Str) = some NameKind.globalImplicit := by decide +kernel
theorem v_items_law_plan_here : visB (defScope s_items) "_law_plan_here" = true := by decide +kernel
theorem v_items_law_wide : visB (defScope s_items) "_law_wide" = true := by decide +kernel
theorem l_items_law_some : locB (defScope s_items) "_law_some" = true := by decide +kernel
theorem l_items_law_wide : locB (defScope s_items) "_law_wide" = true := by decide +kernel
theorem l_items_law_base : locB (defScope s_items) "_law_base" = true := by decide +kernel
theorem g_sum_sum : (defScope s_sum).names.lookup ("sum" : Str) = some NameKind.globalImplicit := by decide +kernel
theorem ok_cs_sum_1 : BlkOk N_sum (defScope s_sum) cs_sum_1 [("_law_moment", 4), ("_law_many", 5)] := blkOk_by (by decide +kernel)
theorem v_sum_law_items_here : visB (defScope s_sum) "_law_items_here" = true := by decide +kernel
theorem v_sum_1_law_s : visB (relS cs_sum_1 (defScope s_sum)) "_law_s" = true := by decide +kernel
theorem v_sum_1_law_moment : visB (relS cs_sum_1 (defScope s_sum)) "_law_moment" = true := by decide +kernel
theorem v_sum_1_law_stop : visB (relS cs_sum_1 (defScope s_sum)) "_law_stop" = true := by decide +kernel
theorem l_sum_1_law_many : locB (relS cs_sum_1 (defScope s_sum)) "_law_many" = true := by decide +kernel
theorem l_sum_1_law_moment : locB (relS cs_sum_1 (defScope s_sum)) "_law_moment" = true := by decide +kernel
theorem v_sum_1_law_many : visB (relS cs_sum_1 (defScope s_sum)) "_law_many" = true := by decide +kernel
theorem c_sum_law_stop : celB (defScope s_sum) "_law_stop" = true := by decide +kernel
theorem g_sum_law_at : (defScope s_sum).names.lookup ("_law_at" : Str) = some NameKind.globalImplicit := by decide +kernel
theorem v_sum_law_s : visB (defScope s_sum) "_law_s" = true := by decide +kernel
theorem v_sum_law_plan_here : visB (defScope s_sum) "_law_plan_here" = true := by decide +kernel
theorem v_due_law_best : visB (defScope s_due) "_law_best" = true := by decide +kernel
theorem g_due_sorted : (defScope s_due).names.lookup ("sorted" : Str) = some NameKind.globalImplicit := by decide +kernel
theorem ok_cs_due_1 : BlkOk N_due (defScope s_due) cs_due_1 [("_law_moment", 5), ("_law_many", 6)] := blkOk_by (by decide +kernel)
theorem v_due_law_items_here : visB (defScope s_due) "_law_items_here" = true := by decide +kernel
theorem l_due_1_law_many : locB (relS cs_due_1 (defScope s_due)) "_law_many" = true := by decide +kernel
theorem l_due_1_law_moment : locB (relS cs_due_1 (defScope s_due)) "_law_moment" = true := by decide +kernel
theorem v_due_1_law_moment : visB (relS cs_due_1 (defScope s_due)) "_law_moment" = true := by decide +kernel
theorem l_due_law_s : locB (defScope s_due) "_law_s" = true := by decide +kernel
theorem v_due_law_here : visB (defScope s_due) "_law_here" = true := by decide +kernel
theorem l_due_law_best : locB (defScope s_due) "_law_best" = true := by decide +kernel
theorem v_due_law_s : visB (defScope s_due) "_law_s" = true := by decide +kernel
theorem l_due_law_here : locB (defScope s_due) "_law_here" = true := by decide +kernel
theorem g_due_law_sum : (defScope s_due).names.lookup ("_law_sum" : Str) = some NameKind.globalImplicit := by decide +kernel
theorem v_due_law_plan_here : visB (defScope s_due) "_law_plan_here" = true := by decide +kernel
theorem g_greatest_max : (defScope s_greatest).names.lookup ("max" : Str) = some NameKind.globalImplicit := by decide +kernel
theorem ok_cs_greatest_1 : BlkOk N_greatest (defScope s_greatest) cs_greatest_1 [("_law_s", 6)] := blkOk_by (by decide +kernel)
theorem g_greatest_range : (defScope s_greatest).names.lookup ("range" : Str) = some NameKind.globalImplicit := by decide +kernel
theorem v_greatest_law_high : visB (defScope s_greatest) "_law_high" = true := by decide +kernel
theorem v_greatest_law_low : visB (defScope s_greatest) "_law_low" = true := by decide +kernel
theorem l_greatest_1_law_s : locB (relS cs_greatest_1 (defScope s_greatest)) "_law_s" = true := by decide +kernel
theorem g_greatest_1_law_sum : (relS cs_greatest_1 (defScope s_greatest)).names.lookup ("_law_sum" : Str) = some NameKind.globalImplicit := by decide +kernel
theorem v_greatest_1_law_s : visB (relS cs_greatest_1 (defScope s_greatest)) "_law_s" = true := by decide +kernel
theorem v_greatest_1_law_items_here : visB (relS cs_greatest_1 (defScope s_greatest)) "_law_items_here" = true := by decide +kernel
theorem v_greatest_1_law_plan_here : visB (relS cs_greatest_1 (defScope s_greatest)) "_law_plan_here" = true := by decide +kernel
theorem l_greatest_law_high : locB (defScope s_greatest) "_law_high" = true := by decide +kernel
theorem ok_cs_greatest_2 : BlkOk N_greatest (defScope s_greatest) cs_greatest_2 [("_law_moment", 4), ("_law_many", 5)] := blkOk_by (by decide +kernel)
theorem v_greatest_law_items_here : visB (defScope s_greatest) "_law_items_here" = true := by decide +kernel
theorem l_greatest_2_law_many : locB (relS cs_greatest_2 (defScope s_greatest)) "_law_many" = true := by decide +kernel
theorem l_greatest_2_law_moment : locB (relS cs_greatest_2 (defScope s_greatest)) "_law_moment" = true := by decide +kernel
theorem v_greatest_2_law_moment : visB (relS cs_greatest_2 (defScope s_greatest)) "_law_moment" = true := by decide +kernel
theorem l_greatest_law_low : locB (defScope s_greatest) "_law_low" = true := by decide +kernel
theorem g_greatest_min : (defScope s_greatest).names.lookup ("min" : Str) = some NameKind.globalImplicit := by decide +kernel
theorem ok_cs_greatest_3 : BlkOk N_greatest (defScope s_greatest) cs_greatest_3 [("_law_moment", 4), ("_law_many", 5)] := blkOk_by (by decide +kernel)
theorem l_greatest_3_law_many : locB (relS cs_greatest_3 (defScope s_greatest)) "_law_many" = true := by decide +kernel
theorem l_greatest_3_law_moment : locB (relS cs_greatest_3 (defScope s_greatest)) "_law_moment" = true := by decide +kernel
theorem v_greatest_3_law_moment : visB (relS cs_greatest_3 (defScope s_greatest)) "_law_moment" = true := by decide +kernel
theorem g_within_so_law_of : (defScope s_within_so).names.lookup ("_law_of" : Str) = some NameKind.globalImplicit := by decide +kernel
theorem v_within_so_law_bag_here : visB (defScope s_within_so) "_law_bag_here" = true := by decide +kernel
theorem v_within_so_law_best : visB (defScope s_within_so) "_law_best" = true := by decide +kernel
theorem l_within_so_law_chips : locB (defScope s_within_so) "_law_chips" = true := by decide +kernel
theorem v_within_so_law_chips : visB (defScope s_within_so) "_law_chips" = true := by decide +kernel
theorem g_within_so_law_like : (defScope s_within_so).names.lookup ("_law_like" : Str) = some NameKind.globalImplicit := by decide +kernel
theorem v_within_so_law_told : visB (defScope s_within_so) "_law_told" = true := by decide +kernel
theorem l_within_so_law_told : locB (defScope s_within_so) "_law_told" = true := by decide +kernel
theorem g_within_so_law_draw : (defScope s_within_so).names.lookup ("_law_draw" : Str) = some NameKind.globalImplicit := by decide +kernel
theorem g_within_so_is_within : (defScope s_within_so).names.lookup ("is_within" : Str) = some NameKind.globalImplicit := by decide +kernel
theorem g_within_so_list : (defScope s_within_so).names.lookup ("list" : Str) = some NameKind.globalImplicit := by decide +kernel
theorem v_within_so_law_items_here : visB (defScope s_within_so) "_law_items_here" = true := by decide +kernel
theorem g_within_so_Rule : (defScope s_within_so).names.lookup ("Rule" : Str) = some NameKind.globalImplicit := by decide +kernel
theorem v_within_so_law_thing : visB (defScope s_within_so) "_law_thing" = true := by decide +kernel
theorem g_so_law_like : (defScope s_so).names.lookup ("_law_like" : Str) = some NameKind.globalImplicit := by decide +kernel
theorem v_so_law_items_here : visB (defScope s_so) "_law_items_here" = true := by decide +kernel
theorem v_so_law_given : visB (defScope s_so) "_law_given" = true := by decide +kernel
theorem v_so_law_more : visB (defScope s_so) "_law_more" = true := by decide +kernel
theorem g_so_fullest : (defScope s_so).names.lookup ("fullest" : Str) = some NameKind.globalImplicit := by decide +kernel
theorem v_so_law_thing : visB (defScope s_so) "_law_thing" = true := by decide +kernel
theorem v_so_law_due_here : visB (defScope s_so) "_law_due_here" = true := by decide +kernel
theorem l_so_law_more : locB (defScope s_so) "_law_more" = true := by decide +kernel
theorem g_so_law_due : (defScope s_so).names.lookup ("_law_due" : Str) = some NameKind.globalImplicit := by decide +kernel
theorem v_so_law_plan_here : visB (defScope s_so) "_law_plan_here" = true := by decide +kernel
theorem g_so_law_within_so : (defScope s_so).names.lookup ("_law_within_so" : Str) = some NameKind.globalImplicit := by decide +kernel
theorem v_so_law_bag_here : visB (defScope s_so) "_law_bag_here" = true := by decide +kernel
theorem g_so_tuple : (defScope s_so).names.lookup ("tuple" : Str) = some NameKind.globalImplicit := by decide +kernel
theorem g_so_law_greatest : (defScope s_so).names.lookup ("_law_greatest" : Str) = some NameKind.globalImplicit := by decide +kernel
theorem l_so_law_given : locB (defScope s_so) "_law_given" = true := by decide +kernel
theorem g_so_list : (defScope s_so).names.lookup ("list" : Str) = some NameKind.globalImplicit := by decide +kernel
theorem l_so_law_due_here : locB (defScope s_so) "_law_due_here" = true := by decide +kernel
theorem l_law_law_j : locB (defScope s_law) "_law_j" = true := by decide +kernel
theorem g_law_law_so : (defScope s_law).names.lookup ("_law_so" : Str) = some NameKind.globalImplicit := by decide +kernel
theorem v_law_law_items_here : visB (defScope s_law) "_law_items_here" = true := by decide +kernel
theorem v_law_law_things : visB (defScope s_law) "_law_things" = true := by decide +kernel
theorem v_law_law_j : visB (defScope s_law) "_law_j" = true := by decide +kernel
theorem v_law_law_plans : visB (defScope s_law) "_law_plans" = true := by decide +kernel
theorem v_law_law_bag_here : visB (defScope s_law) "_law_bag_here" = true := by decide +kernel
theorem l_law_law_items_here : locB (defScope s_law) "_law_items_here" = true := by decide +kernel
theorem g_law_law_items : (defScope s_law).names.lookup ("_law_items" : Str) = some NameKind.globalImplicit := by decide +kernel
theorem ok_cs_law_1 : BlkOk N_law (defScope s_law) cs_law_1 [("_law_plan_here", 7)] := blkOk_by (by decide +kernel)
theorem l_law_1_law_plan_here : locB (relS cs_law_1 (defScope s_law)) "_law_plan_here" = true := by decide +kernel
theorem g_law_1_law_made : (relS cs_law_1 (defScope s_law)).names.lookup ("_law_made" : Str) = some NameKind.globalImplicit := by decide +kernel
theorem v_law_1_law_plan_here : visB (relS cs_law_1 (defScope s_law)) "_law_plan_here" = true := by decide +kernel
theorem l_law_law_things : locB (defScope s_law) "_law_things" = true := by decide +kernel
theorem l_law_law_plans : locB (defScope s_law) "_law_plans" = true := by decide +kernel
theorem g_law_law_plan : (defScope s_law).names.lookup ("_law_plan" : Str) = some NameKind.globalImplicit := by decide +kernel
theorem g_law_law_of : (defScope s_law).names.lookup ("_law_of" : Str) = some NameKind.globalImplicit := by decide +kernel
theorem v_law_law_wide : visB (defScope s_law) "_law_wide" = true := by decide +kernel
theorem l_law_law_wide : locB (defScope s_law) "_law_wide" = true := by decide +kernel
theorem l_law_law_bag_here : locB (defScope s_law) "_law_bag_here" = true := by decide +kernel
theorem g_law_law_bag : (defScope s_law).names.lookup ("_law_bag" : Str) = some NameKind.globalImplicit := by decide +kernel
theorem v_law_law_script : visB (defScope s_law) "_law_script" = true := by decide +kernel
structure Tx (K : PySem.W.Frag) (mg : Str → Option Value) where
  C_Rest : Addr
  m_Rest : mg "Rest" = some (.ref C_Rest)
  C_Window : Addr
  m_Window : mg "Window" = some (.ref C_Window)
  C_Days : Addr
  m_Days : mg "Days" = some (.ref C_Days)
  C_Later : Addr
  m_Later : mg "Later" = some (.ref C_Later)
  C_Sooner : Addr
  m_Sooner : mg "Sooner" = some (.ref C_Sooner)
  C_Next : Addr
  m_Next : mg "Next" = some (.ref C_Next)
  C_Rule : Addr
  m_Rule : mg "Rule" = some (.ref C_Rule)
  a_is_number : Addr
  fd_is_number : FuncData
  F_is_number : Fun K "is_number" "is_number" s_is_number a_is_number fd_is_number
  b_is_number : Binds K fd_is_number P_is_number []
  k_is_number : PySem.W.keepIn K (.ref a_is_number) = true
  m_is_number : mg "is_number" = some (.ref a_is_number)
  a_is_name : Addr
  fd_is_name : FuncData
  F_is_name : Fun K "is_name" "is_name" s_is_name a_is_name fd_is_name
  b_is_name : Binds K fd_is_name P_is_name []
  k_is_name : PySem.W.keepIn K (.ref a_is_name) = true
  m_is_name : mg "is_name" = some (.ref a_is_name)
  a_Rest_init : Addr
  fd_Rest_init : FuncData
  F_Rest_init : Fun K "__init__" "Rest.__init__" s_Rest_init a_Rest_init fd_Rest_init
  b_Rest_init : Binds K fd_Rest_init P_Rest_init []
  k_Rest_init : PySem.W.keepIn K (.ref a_Rest_init) = true
  a_Rest_call : Addr
  fd_Rest_call : FuncData
  F_Rest_call : Fun K "__call__" "Rest.__call__" s_Rest_call a_Rest_call fd_Rest_call
  b_Rest_call : Binds K fd_Rest_call P_Rest_call []
  k_Rest_call : PySem.W.keepIn K (.ref a_Rest_call) = true
  a_Rest_forms : Addr
  fd_Rest_forms : FuncData
  F_Rest_forms : Fun K "forms" "Rest.forms" s_Rest_forms a_Rest_forms fd_Rest_forms
  b_Rest_forms : Binds K fd_Rest_forms P_Rest_forms []
  k_Rest_forms : PySem.W.keepIn K (.ref a_Rest_forms) = true
  a_Rest_period : Addr
  fd_Rest_period : FuncData
  F_Rest_period : Fun K "period" "Rest.period" s_Rest_period a_Rest_period fd_Rest_period
  b_Rest_period : Binds K fd_Rest_period P_Rest_period []
  k_Rest_period : PySem.W.keepIn K (.ref a_Rest_period) = true
  a_Rest_bend : Addr
  fd_Rest_bend : FuncData
  F_Rest_bend : Fun K "bend" "Rest.bend" s_Rest_bend a_Rest_bend fd_Rest_bend
  b_Rest_bend : Binds K fd_Rest_bend P_Rest_bend []
  k_Rest_bend : PySem.W.keepIn K (.ref a_Rest_bend) = true
  a_Rest_written : Addr
  fd_Rest_written : FuncData
  F_Rest_written : Fun K "written" "Rest.written" s_Rest_written a_Rest_written fd_Rest_written
  b_Rest_written : Binds K fd_Rest_written P_Rest_written []
  k_Rest_written : PySem.W.keepIn K (.ref a_Rest_written) = true
  a_Window_init : Addr
  cc_Window_init : Addr
  cda_Window_init : Addr
  fd_Window_init : FuncData
  F_Window_init : FunS K "__init__" "Window.__init__" s_Window_init a_Window_init fd_Window_init cc_Window_init cda_Window_init
  b_Window_init : Binds K fd_Window_init P_Window_init []
  ce_Window_init : ∃ cl cld csl, K.lookup cc_Window_init = some ⟨cl, cld, .cell (some (.ref C_Window)), csl⟩
  sd_Window_init : SupDef P K mg a_Window_init C_Window cc_Window_init cda_Window_init "self"
  k_Window_init : PySem.W.keepIn K (.ref a_Window_init) = true
  a_Window_after : Addr
  fd_Window_after : FuncData
  F_Window_after : Fun K "_after" "Window._after" s_Window_after a_Window_after fd_Window_after
  b_Window_after : Binds K fd_Window_after P_Window_after []
  k_Window_after : PySem.W.keepIn K (.ref a_Window_after) = true
  a_Days_init : Addr
  cc_Days_init : Addr
  cda_Days_init : Addr
  fd_Days_init : FuncData
  F_Days_init : FunS K "__init__" "Days.__init__" s_Days_init a_Days_init fd_Days_init cc_Days_init cda_Days_init
  b_Days_init : Binds K fd_Days_init P_Days_init []
  ce_Days_init : ∃ cl cld csl, K.lookup cc_Days_init = some ⟨cl, cld, .cell (some (.ref C_Days)), csl⟩
  sd_Days_init : SupDef P K mg a_Days_init C_Days cc_Days_init cda_Days_init "self"
  k_Days_init : PySem.W.keepIn K (.ref a_Days_init) = true
  a_Days_after : Addr
  fd_Days_after : FuncData
  F_Days_after : Fun K "_after" "Days._after" s_Days_after a_Days_after fd_Days_after
  b_Days_after : Binds K fd_Days_after P_Days_after []
  k_Days_after : PySem.W.keepIn K (.ref a_Days_after) = true
  a_joined : Addr
  fd_joined : FuncData
  F_joined : Fun K "joined" "joined" s_joined a_joined fd_joined
  b_joined : Binds K fd_joined P_joined []
  k_joined : PySem.W.keepIn K (.ref a_joined) = true
  m_joined : mg "joined" = some (.ref a_joined)
  a_Later_init : Addr
  cc_Later_init : Addr
  cda_Later_init : Addr
  fd_Later_init : FuncData
  F_Later_init : FunS K "__init__" "Later.__init__" s_Later_init a_Later_init fd_Later_init cc_Later_init cda_Later_init
  b_Later_init : Binds K fd_Later_init P_Later_init []
  ce_Later_init : ∃ cl cld csl, K.lookup cc_Later_init = some ⟨cl, cld, .cell (some (.ref C_Later)), csl⟩
  sd_Later_init : SupDef P K mg a_Later_init C_Later cc_Later_init cda_Later_init "self"
  k_Later_init : PySem.W.keepIn K (.ref a_Later_init) = true
  a_Later_after : Addr
  fd_Later_after : FuncData
  F_Later_after : Fun K "_after" "Later._after" s_Later_after a_Later_after fd_Later_after
  b_Later_after : Binds K fd_Later_after P_Later_after []
  k_Later_after : PySem.W.keepIn K (.ref a_Later_after) = true
  a_Sooner_init : Addr
  cc_Sooner_init : Addr
  cda_Sooner_init : Addr
  fd_Sooner_init : FuncData
  F_Sooner_init : FunS K "__init__" "Sooner.__init__" s_Sooner_init a_Sooner_init fd_Sooner_init cc_Sooner_init cda_Sooner_init
  b_Sooner_init : Binds K fd_Sooner_init P_Sooner_init []
  ce_Sooner_init : ∃ cl cld csl, K.lookup cc_Sooner_init = some ⟨cl, cld, .cell (some (.ref C_Sooner)), csl⟩
  sd_Sooner_init : SupDef P K mg a_Sooner_init C_Sooner cc_Sooner_init cda_Sooner_init "self"
  k_Sooner_init : PySem.W.keepIn K (.ref a_Sooner_init) = true
  a_Sooner_after : Addr
  fd_Sooner_after : FuncData
  F_Sooner_after : Fun K "_after" "Sooner._after" s_Sooner_after a_Sooner_after fd_Sooner_after
  b_Sooner_after : Binds K fd_Sooner_after P_Sooner_after []
  k_Sooner_after : PySem.W.keepIn K (.ref a_Sooner_after) = true
  a_Next_init : Addr
  cc_Next_init : Addr
  cda_Next_init : Addr
  fd_Next_init : FuncData
  F_Next_init : FunS K "__init__" "Next.__init__" s_Next_init a_Next_init fd_Next_init cc_Next_init cda_Next_init
  b_Next_init : Binds K fd_Next_init P_Next_init []
  ce_Next_init : ∃ cl cld csl, K.lookup cc_Next_init = some ⟨cl, cld, .cell (some (.ref C_Next)), csl⟩
  sd_Next_init : SupDef P K mg a_Next_init C_Next cc_Next_init cda_Next_init "self"
  k_Next_init : PySem.W.keepIn K (.ref a_Next_init) = true
  a_Next_after : Addr
  fd_Next_after : FuncData
  F_Next_after : Fun K "_after" "Next._after" s_Next_after a_Next_after fd_Next_after
  b_Next_after : Binds K fd_Next_after P_Next_after []
  k_Next_after : PySem.W.keepIn K (.ref a_Next_after) = true
  a_Rule_init : Addr
  fd_Rule_init : FuncData
  F_Rule_init : Fun K "__init__" "Rule.__init__" s_Rule_init a_Rule_init fd_Rule_init
  b_Rule_init : Binds K fd_Rule_init P_Rule_init []
  k_Rule_init : PySem.W.keepIn K (.ref a_Rule_init) = true
  a_fullest : Addr
  fd_fullest : FuncData
  F_fullest : Fun K "fullest" "fullest" s_fullest a_fullest fd_fullest
  b_fullest : Binds K fd_fullest P_fullest []
  k_fullest : PySem.W.keepIn K (.ref a_fullest) = true
  m_fullest : mg "fullest" = some (.ref a_fullest)
  a_is_within : Addr
  fd_is_within : FuncData
  F_is_within : Fun K "is_within" "is_within" s_is_within a_is_within fd_is_within
  b_is_within : Binds K fd_is_within P_is_within []
  k_is_within : PySem.W.keepIn K (.ref a_is_within) = true
  m_is_within : mg "is_within" = some (.ref a_is_within)
  a_bag : Addr
  fd_bag : FuncData
  F_bag : Fun K "_law_bag" "_law_bag" s_bag a_bag fd_bag
  b_bag : Binds K fd_bag P_bag []
  k_bag : PySem.W.keepIn K (.ref a_bag) = true
  m_bag : mg "_law_bag" = some (.ref a_bag)
  a_draw : Addr
  fd_draw : FuncData
  F_draw : Fun K "_law_draw" "_law_draw" s_draw a_draw fd_draw
  b_draw : Binds K fd_draw P_draw []
  k_draw : PySem.W.keepIn K (.ref a_draw) = true
  m_draw : mg "_law_draw" = some (.ref a_draw)
  a_of : Addr
  fd_of : FuncData
  F_of : Fun K "_law_of" "_law_of" s_of a_of fd_of
  b_of : Binds K fd_of P_of []
  k_of : PySem.W.keepIn K (.ref a_of) = true
  m_of : mg "_law_of" = some (.ref a_of)
  a_like : Addr
  fd_like : FuncData
  F_like : Fun K "_law_like" "_law_like" s_like a_like fd_like
  b_like : Binds K fd_like P_like []
  k_like : PySem.W.keepIn K (.ref a_like) = true
  m_like : mg "_law_like" = some (.ref a_like)
  a_llcm : Addr
  fd_llcm : FuncData
  F_llcm : Fun K "_law_lcm" "_law_lcm" s_llcm a_llcm fd_llcm
  b_llcm : Binds K fd_llcm P_llcm []
  k_llcm : PySem.W.keepIn K (.ref a_llcm) = true
  m_llcm : mg "_law_lcm" = some (.ref a_llcm)
  a_leaf : Addr
  fd_leaf : FuncData
  F_leaf : Fun K "_law_leaf" "_law_leaf" s_leaf a_leaf fd_leaf
  b_leaf : Binds K fd_leaf P_leaf []
  k_leaf : PySem.W.keepIn K (.ref a_leaf) = true
  m_leaf : mg "_law_leaf" = some (.ref a_leaf)
  a_ljoined : Addr
  fd_ljoined : FuncData
  F_ljoined : Fun K "_law_joined" "_law_joined" s_ljoined a_ljoined fd_ljoined
  b_ljoined : Binds K fd_ljoined P_ljoined []
  k_ljoined : PySem.W.keepIn K (.ref a_ljoined) = true
  m_ljoined : mg "_law_joined" = some (.ref a_ljoined)
  a_plan : Addr
  fd_plan : FuncData
  F_plan : Fun K "_law_plan" "_law_plan" s_plan a_plan fd_plan
  b_plan : Binds K fd_plan P_plan []
  k_plan : PySem.W.keepIn K (.ref a_plan) = true
  m_plan : mg "_law_plan" = some (.ref a_plan)
  a_at : Addr
  fd_at : FuncData
  F_at : Fun K "_law_at" "_law_at" s_at a_at fd_at
  b_at : Binds K fd_at P_at []
  k_at : PySem.W.keepIn K (.ref a_at) = true
  m_at : mg "_law_at" = some (.ref a_at)
  a_made : Addr
  fd_made : FuncData
  F_made : Fun K "_law_made" "_law_made" s_made a_made fd_made
  b_made : Binds K fd_made P_made []
  k_made : PySem.W.keepIn K (.ref a_made) = true
  m_made : mg "_law_made" = some (.ref a_made)
  a_items : Addr
  fd_items : FuncData
  F_items : Fun K "_law_items" "_law_items" s_items a_items fd_items
  b_items : Binds K fd_items P_items []
  k_items : PySem.W.keepIn K (.ref a_items) = true
  m_items : mg "_law_items" = some (.ref a_items)
  a_sum : Addr
  fd_sum : FuncData
  F_sum : Fun K "_law_sum" "_law_sum" s_sum a_sum fd_sum
  b_sum : Binds K fd_sum P_sum []
  k_sum : PySem.W.keepIn K (.ref a_sum) = true
  m_sum : mg "_law_sum" = some (.ref a_sum)
  a_due : Addr
  fd_due : FuncData
  F_due : Fun K "_law_due" "_law_due" s_due a_due fd_due
  b_due : Binds K fd_due P_due []
  k_due : PySem.W.keepIn K (.ref a_due) = true
  m_due : mg "_law_due" = some (.ref a_due)
  a_greatest : Addr
  fd_greatest : FuncData
  F_greatest : Fun K "_law_greatest" "_law_greatest" s_greatest a_greatest fd_greatest
  b_greatest : Binds K fd_greatest P_greatest []
  k_greatest : PySem.W.keepIn K (.ref a_greatest) = true
  m_greatest : mg "_law_greatest" = some (.ref a_greatest)
  a_within_so : Addr
  fd_within_so : FuncData
  F_within_so : Fun K "_law_within_so" "_law_within_so" s_within_so a_within_so fd_within_so
  b_within_so : Binds K fd_within_so P_within_so []
  k_within_so : PySem.W.keepIn K (.ref a_within_so) = true
  m_within_so : mg "_law_within_so" = some (.ref a_within_so)
  a_so : Addr
  fd_so : FuncData
  F_so : Fun K "_law_so" "_law_so" s_so a_so fd_so
  b_so : Binds K fd_so P_so []
  k_so : PySem.W.keepIn K (.ref a_so) = true
  m_so : mg "_law_so" = some (.ref a_so)
  a_law : Addr
  fd_law : FuncData
  F_law : Fun K "law" "law" s_law a_law fd_law
  b_law : Binds K fd_law P_law []
  k_law : PySem.W.keepIn K (.ref a_law) = true
  m_law : mg "law" = some (.ref a_law)
  n_int : mg "int" = none
  n_len : mg "len" = none
  n_list : mg "list" = none
  n_isinstance : mg "isinstance" = none
  n_bool : mg "bool" = none
  n_max : mg "max" = none
  n_str : mg "str" = none
  n_enumerate : mg "enumerate" = none
  n_tuple : mg "tuple" = none
  n_min : mg "min" = none
  n_range : mg "range" = none
  n_sorted : mg "sorted" = none
  n_dict : mg "dict" = none
  n_all : mg "all" = none
  n_zip : mg "zip" = none
  n_sum : mg "sum" = none
  n_super : mg "super" = none
  t_PERIOD : Tok
  m_PERIOD : mg "PERIOD" = some (.int 2000 t_PERIOD)
  r_PERIOD : RelV (.int 2000) (.int 2000 t_PERIOD)
  m_lcm : mg "lcm" = some (.builtin "math.lcm")
  t_FORMS : Tok
  m_FORMS : mg "FORMS" = some (.int 6 t_FORMS)
  r_FORMS : RelV (.int 6) (.int 6 t_FORMS)
  t_BORDERS : Tok
  m_BORDERS : mg "BORDERS" = some (.int 12 t_BORDERS)
  r_BORDERS : RelV (.int 12) (.int 12 t_BORDERS)
  t_LETTERS : Tok
  m_LETTERS : mg "LETTERS" = some (.str "abcdefghijklmnopqrstuvwxyz" t_LETTERS)
  r_LETTERS : RelV (.str "abcdefghijklmnopqrstuvwxyz") (.str "abcdefghijklmnopqrstuvwxyz" t_LETTERS)
  t_DIGITS : Tok
  m_DIGITS : mg "DIGITS" = some (.str "0123456789" t_DIGITS)
  r_DIGITS : RelV (.str "0123456789") (.str "0123456789" t_DIGITS)
  kb_is_within_uses_rule : KBinds K fd_is_within P_is_within ["uses", "rule"] (fun (us ws : List Value) => match us, ws with | [], [w0, w1] => [w1, w0] | _, _ => []) (fun (us ws : List V) => match us, ws with | [], [w0, w1] => [w1, w0] | _, _ => [])
  kb_fullest_uses_rest : KBinds K fd_fullest P_fullest ["uses", "rest"] (fun (us ws : List Value) => match us, ws with | [], [w0, w1] => [w1, w0] | _, _ => []) (fun (us ws : List V) => match us, ws with | [], [w0, w1] => [w1, w0] | _, _ => [])
  cl_Window : Cls K C_Window
  mk_Window : Mk K C_Window a_Window_init
  ty_Window : ClsTy K C_Window
  kt_Window_Rest : PySem.W.kitOne K (.ref C_Window) (.ref C_Rest) = some true
  su_Window : SupAt K C_Window C_Window a_Rest_init "__init__"
  no_Window_text : NoAttr K C_Window "_text"
  no_Window_forms : NoAttr K C_Window "_forms"
  no_Window_period : NoAttr K C_Window "_period"
  no_Window_bend : NoAttr K C_Window "_bend"
  no_Window_width : NoAttr K C_Window "width"
  me_Window_after : Meth K C_Window "_after" a_Window_after
  me_Window_forms : Meth K C_Window "forms" a_Rest_forms
  me_Window_period : Meth K C_Window "period" a_Rest_period
  me_Window_bend : Meth K C_Window "bend" a_Rest_bend
  me_Window_written : Meth K C_Window "written" a_Rest_written
  co_Window : StX.CallO K C_Window a_Rest_call
  cl_Days : Cls K C_Days
  mk_Days : Mk K C_Days a_Days_init
  ty_Days : ClsTy K C_Days
  kt_Days_Rest : PySem.W.kitOne K (.ref C_Days) (.ref C_Rest) = some true
  su_Days : SupAt K C_Days C_Days a_Rest_init "__init__"
  no_Days_text : NoAttr K C_Days "_text"
  no_Days_forms : NoAttr K C_Days "_forms"
  no_Days_period : NoAttr K C_Days "_period"
  no_Days_bend : NoAttr K C_Days "_bend"
  no_Days_every : NoAttr K C_Days "every"
  no_Days_borders : NoAttr K C_Days "_borders"
  me_Days_after : Meth K C_Days "_after" a_Days_after
  me_Days_forms : Meth K C_Days "forms" a_Rest_forms
  me_Days_period : Meth K C_Days "period" a_Rest_period
  me_Days_bend : Meth K C_Days "bend" a_Rest_bend
  me_Days_written : Meth K C_Days "written" a_Rest_written
  co_Days : StX.CallO K C_Days a_Rest_call
  cl_Later : Cls K C_Later
  mk_Later : Mk K C_Later a_Later_init
  ty_Later : ClsTy K C_Later
  kt_Later_Rest : PySem.W.kitOne K (.ref C_Later) (.ref C_Rest) = some true
  su_Later : SupAt K C_Later C_Later a_Rest_init "__init__"
  no_Later_text : NoAttr K C_Later "_text"
  no_Later_forms : NoAttr K C_Later "_forms"
  no_Later_period : NoAttr K C_Later "_period"
  no_Later_bend : NoAttr K C_Later "_bend"
  no_Later_first : NoAttr K C_Later "first"
  no_Later_second : NoAttr K C_Later "second"
  me_Later_after : Meth K C_Later "_after" a_Later_after
  me_Later_forms : Meth K C_Later "forms" a_Rest_forms
  me_Later_period : Meth K C_Later "period" a_Rest_period
  me_Later_bend : Meth K C_Later "bend" a_Rest_bend
  me_Later_written : Meth K C_Later "written" a_Rest_written
  co_Later : StX.CallO K C_Later a_Rest_call
  cl_Sooner : Cls K C_Sooner
  mk_Sooner : Mk K C_Sooner a_Sooner_init
  ty_Sooner : ClsTy K C_Sooner
  kt_Sooner_Rest : PySem.W.kitOne K (.ref C_Sooner) (.ref C_Rest) = some true
  su_Sooner : SupAt K C_Sooner C_Sooner a_Rest_init "__init__"
  no_Sooner_text : NoAttr K C_Sooner "_text"
  no_Sooner_forms : NoAttr K C_Sooner "_forms"
  no_Sooner_period : NoAttr K C_Sooner "_period"
  no_Sooner_bend : NoAttr K C_Sooner "_bend"
  no_Sooner_first : NoAttr K C_Sooner "first"
  no_Sooner_second : NoAttr K C_Sooner "second"
  me_Sooner_after : Meth K C_Sooner "_after" a_Sooner_after
  me_Sooner_forms : Meth K C_Sooner "forms" a_Rest_forms
  me_Sooner_period : Meth K C_Sooner "period" a_Rest_period
  me_Sooner_bend : Meth K C_Sooner "bend" a_Rest_bend
  me_Sooner_written : Meth K C_Sooner "written" a_Rest_written
  co_Sooner : StX.CallO K C_Sooner a_Rest_call
  cl_Next : Cls K C_Next
  mk_Next : Mk K C_Next a_Next_init
  ty_Next : ClsTy K C_Next
  kt_Next_Rest : PySem.W.kitOne K (.ref C_Next) (.ref C_Rest) = some true
  su_Next : SupAt K C_Next C_Next a_Rest_init "__init__"
  no_Next_text : NoAttr K C_Next "_text"
  no_Next_forms : NoAttr K C_Next "_forms"
  no_Next_period : NoAttr K C_Next "_period"
  no_Next_bend : NoAttr K C_Next "_bend"
  no_Next_first : NoAttr K C_Next "first"
  no_Next_second : NoAttr K C_Next "second"
  me_Next_after : Meth K C_Next "_after" a_Next_after
  me_Next_forms : Meth K C_Next "forms" a_Rest_forms
  me_Next_period : Meth K C_Next "period" a_Rest_period
  me_Next_bend : Meth K C_Next "bend" a_Rest_bend
  me_Next_written : Meth K C_Next "written" a_Rest_written
  co_Next : StX.CallO K C_Next a_Rest_call
  cl_Rule : Cls K C_Rule
  mk_Rule : Mk K C_Rule a_Rule_init
  no_Rule_name : NoAttr K C_Rule "name"
  no_Rule_chips : NoAttr K C_Rule "chips"
  no_Rule_rest : NoAttr K C_Rule "rest"

/-! ### the bag -/
/-- what stands in a law's bag, the list l behind it -/
abbrev bagL (l : Addr) (i r s c : Int) : HO := .lst [.ref l, .int i, .int r, .int s, .int c]
structure Bag (K : PySem.W.Frag) (G0 G : Hp) (b : Addr) (β : HO) : Prop where
  nb : G b = none
  sm : Same G0 G
  ex : ∃ (l : Addr) (ns : List Int) (i r s c : Int), β = bagL l i r s c ∧ SqL K G0 l (ns.map V.int) ∧ 0 ≤ i ∧ 0 ≤ r ∧ 0 ≤ s ∧ s < 2147483647
theorem Bag.up0 {K : PySem.W.Frag} {G0 G G' : Hp} {b : Addr} {β : HO} (h : Bag K G0 G b β) (e : Same G0 G') (n : G' b = none) : Bag K G0 G' b β := ⟨n, e, h.ex⟩
theorem Bag.up {K : PySem.W.Frag} {G0 G G' : Hp} {b : Addr} {β : HO} (h : Bag K G0 G b β) (e : Same G G') (n : G' b = none) : Bag K G0 G' b β := h.up0 (h.sm.trans e) n
def spDraw (K : PySem.W.Frag) : Sp := fun vs H Q _ => ∃ (G0 G : Hp) (b : Addr) (β : HO) (n : Int), vs = [.ref b, .int n] ∧ H = upd G b β ∧ Bag K G0 G b β ∧ 0 < n ∧ n < 2 ^ 30 ∧
  ∀ d β', 0 ≤ d → d < n → Bag K G0 G b β' → Q (.int d) (upd G b β')
theorem mod_bd {x m : Int} (h : 0 < m) : 0 ≤ x % m ∧ x % m < m := ⟨Int.emod_nonneg _ (by omega), Int.emod_lt_of_pos _ h⟩
theorem ix_ints {ns : List Int} {i : Int} (h0 : 0 ≤ i) (h1 : i < ((ns.map V.int).length : Nat)) : ∃ z, atI (ns.map V.int) i = some (.int z) := by
  rw [List.length_map] at h1
  obtain ⟨j, rfl⟩ := Int.eq_ofNat_of_zero_le h0
  have hj : j < ns.length := by omega
  exact ⟨ns[j], atI_nat (by rw [List.getElem?_map, List.getElem?_eq_getElem hj]; rfl)⟩
theorem at_mem {α : Type} {xs : List α} {d : Int} (h0 : 0 ≤ d) (h1 : d < (xs.length : Nat)) : ∃ v, atI xs d = some v ∧ v ∈ xs := by
  obtain ⟨j, rfl⟩ := Int.eq_ofNat_of_zero_le h0
  have hj : j < xs.length := by omega
  exact ⟨xs[j], atI_nat (List.getElem?_eq_getElem hj), List.getElem_mem hj⟩
/-- one of some things by a draw -/
def spOf (K : PySem.W.Frag) : Sp := fun vs H Q _ => ∃ (G0 G : Hp) (b : Addr) (β : HO) (x : V), vs = [.ref b, x] ∧ H = upd G b β ∧ Bag K G0 G b β ∧
  match x with
  | .ref p => ∃ xs, SqL K G p xs ∧ 0 < xs.length ∧ xs.length < 2 ^ 30 ∧ ∀ v β', v ∈ xs → Bag K G0 G b β' → Q v (upd G b β')
  | .str z => 0 < z.length ∧ z.length ≤ 1000000 ∧ ∀ c β', c ∈ z.cps.toList → Bag K G0 G b β' → Q (.str ⟨#[c]⟩) (upd G b β')
  | _ => False
theorem k_draw {K : PySem.W.Frag} {G0 G : Hp} {b : Addr} {β : HO} {n : Int} {Q : VK} {E : XK} (hb : Bag K G0 G b β) (h0 : 0 < n) (h1 : n < 2 ^ 30) (k : ∀ d β', 0 ≤ d → d < n → Bag K G0 G b β' → Q (.int d) (upd G b β')) : spDraw K [.ref b, .int n] (upd G b β) Q E :=
  ⟨G0, G, b, β, n, rfl, rfl, hb, h0, h1, k⟩
theorem k_of {K : PySem.W.Frag} {G0 G : Hp} {b p : Addr} {β : HO} {xs : List V} {Q : VK} {E : XK} (hb : Bag K G0 G b β) (hx : SqL K G p xs) (h0 : 0 < xs.length) (h1 : xs.length < 2 ^ 30) (k : ∀ v β', v ∈ xs → Bag K G0 G b β' → Q v (upd G b β')) : spOf K [.ref b, .ref p] (upd G b β) Q E :=
  ⟨G0, G, b, β, .ref p, rfl, rfl, hb, xs, hx, h0, h1, k⟩
section
variable {w : World} {K : PySem.W.Frag} {mg : Str → Option Value} {base : Heap}
theorem ok_draw (T : Tx K mg) : FnOk P w K mg base CX0 1 T.a_draw T.fd_draw P_draw (spDraw K) := by
  refine T.F_draw.ok sc_draw (fun vs H Q E h => ?_) (fun cdv A outer s H vs Q E hr h => ?_)
  · obtain ⟨G0, G, b, β, n, rfl, _⟩ := h
    rfl
  · obtain ⟨G0, G, b, β, n, rfl, rfl, ⟨nb, sm0, l, ns, i, r, sd, c, rfl, hl, hi, hr0, hs0, hs1⟩, hn0, hn1, k⟩ := h
    have nd := sc_draw.nd
    refine ⟨_, (pss_cons (ps_asg (pe_op kop_add (pe_ix (kix K) (kv (i := 0) v_draw_law_bag_here) pe_int (fun _ _ => rfl)) pe_int) (pg_sub (kv (i := 0) v_draw_law_bag_here) pe_int set_list))
      (kss_meet (ps_if (PW.pt (pw_and (pt_cmpR op_eq (pe_ix (kix K) (kv (i := 0) v_draw_law_bag_here) pe_int (fun _ _ => rfl)) pe_int (nomark _)) (pw_and1 (pt_cmpR op_lt (pe_ix (kix K) (kv (i := 0) v_draw_law_bag_here) pe_int (fun _ _ => rfl)) (kcB b_len (by decide) (by decide) (kc_len K) g_draw_len T.n_len (pa_cons (pe_ix (kix K) (kv (i := 0) v_draw_law_bag_here) pe_int (fun _ _ => rfl)) pa_nil)) (nomark _))))) (pss_cons (ks_setL (i := 2) nd l_draw_law_item (pe_ix (kix K) (pe_ix (kix K) (kv (i := 0) v_draw_law_bag_here) pe_int (fun _ _ => rfl)) (pe_ix (kix K) (kv (i := 0) v_draw_law_bag_here) pe_int (fun _ _ => rfl)) (fun _ _ => rfl)))
      (pss_cons (ps_asg (pe_op kop_add (pe_ix (kix K) (kv (i := 0) v_draw_law_bag_here) pe_int (fun _ _ => rfl)) pe_int) (pg_sub (kv (i := 0) v_draw_law_bag_here) pe_int set_list))
      (pss_one (ps_if (pt_cmpR op_ge (kv (i := 2) v_draw_law_item) (pe_op op_pow pe_int pe_int) (nomark _)) (pss_one (ps_asg (kv (i := 2) v_draw_law_item) (pg_sub (kv (i := 0) v_draw_law_bag_here) pe_int set_list))) (pss_one (ps_asg (pe_op op_mod (kcT b_int (by decide) (by decide) kc_int g_draw_int T.n_int (pa_cons (pe_op kop_add (pe_op kop_add (pe_op op_mul (pe_ix (kix K) (kv (i := 0) v_draw_law_bag_here) pe_int (fun _ _ => rfl)) pe_int) (pe_op op_mul (pe_op op_mod (kcT b_int (by decide) (by decide) kc_int g_draw_int T.n_int (pa_cons (kv (i := 2) v_draw_law_item) pa_nil)) pe_int) pe_int)) pe_int) pa_nil)) pe_int) (pg_sub (kv (i := 0) v_draw_law_bag_here) pe_int set_list))))))) pss_nil)
      (pss_cons (ps_if (pt_cmpR op_gt (pe_ix (kix K) (kv (i := 0) v_draw_law_bag_here) pe_int (fun _ _ => rfl)) pe_int (nomark _)) (pss_cons (ks_setL (i := 3) nd l_draw_law_digit (pe_op op_mod (kcT b_int (by decide) (by decide) kc_int g_draw_int T.n_int (pa_cons (pe_ix (kix K) (kv (i := 0) v_draw_law_bag_here) pe_int (fun _ _ => rfl)) pa_nil)) (kv (i := 1) v_draw_law_limit)))
      (pss_cons (ps_asg (pe_op op_fdiv (pe_ix (kix K) (kv (i := 0) v_draw_law_bag_here) pe_int (fun _ _ => rfl)) (kv (i := 1) v_draw_law_limit)) (pg_sub (kv (i := 0) v_draw_law_bag_here) pe_int set_list))
      (pss_one (ps_ret (kv (i := 3) v_draw_law_digit))))) pss_nil)
      (pss_cons (ps_asg (pe_op op_mod (kcT b_int (by decide) (by decide) kc_int g_draw_int T.n_int (pa_cons (pe_op kop_add (pe_op kop_add (pe_op op_pow (pe_ix (kix K) (kv (i := 0) v_draw_law_bag_here) pe_int (fun _ _ => rfl)) pe_int) (pe_op op_mul (pe_ix (kix K) (kv (i := 0) v_draw_law_bag_here) pe_int (fun _ _ => rfl)) pe_int)) pe_int) pa_nil)) pe_int) (pg_sub (kv (i := 0) v_draw_law_bag_here) pe_int set_list))
      (pss_one (ps_ret (pe_op op_mod (kcT b_int (by decide) (by decide) kc_int g_draw_int T.n_int (pa_cons (pe_op kop_add (pe_op op_fdiv (pe_ix (kix K) (kv (i := 0) v_draw_law_bag_here) pe_int (fun _ _ => rfl)) pe_int) (pe_op op_mul (pe_op op_mod (kcT b_int (by decide) (by decide) kc_int g_draw_int T.n_int (pa_cons (pe_ix (kix K) (kv (i := 0) v_draw_law_bag_here) pe_int (fun _ _ => rfl)) pa_nil)) pe_int) pe_int)) pa_nil)) (kv (i := 1) v_draw_law_limit)))))))), ?_⟩
    walk_at "ss"
    refine k_meet (fun σ H => ∃ i r s v, σ = [some (.ref b), some (.int n), v, none] ∧ H = upd G b (bagL l i r s (c + 1)) ∧ 0 ≤ i ∧ 0 ≤ r ∧ 0 ≤ s ∧ s < 2147483647) ?_ ?_
    · have hl' : SqL K (upd G b (bagL l i r sd (c + 1))) l (ns.map V.int) := (up_same nb).seq (sm0.seq hl)
      walk_at "ss"
      refine k_d (fun h0 => ?_) (fun h0 => ?_)
      · walk_at "ss"
        refine k_d (fun h1 => ?_) (fun h1 => ?_)
        · obtain ⟨z, hz⟩ := ix_ints hi h1
          walk_at "ss"
          refine k_ixL hl' hz ?_
          walk_at "ss"
          refine k_d (fun h2 => ?_) (fun h2 => ?_)
          · walk_at "ss"
            have e18 : (10 : Int) ^ Int.toNat 18 = 1000000000000000000 := by decide
            rw [e18] at h2
            exact ⟨i + 1, z, sd, _, rfl, rfl, by omega, by omega, hs0, hs1⟩
          · walk_at "ss"
            exact ⟨i + 1, r, _, _, rfl, rfl, by omega, by omega, (mod_bd (by decide)).1, Int.lt_trans (mod_bd (by decide)).2 (by decide)⟩
        · walk_at "ss"
          exact ⟨i, r, sd, _, rfl, rfl, hi, hr0, hs0, hs1⟩
      · walk_at "ss"
        exact ⟨i, r, sd, _, rfl, rfl, hi, hr0, hs0, hs1⟩
    · rintro σ H ⟨i, r, sd, v, rfl, rfl, hi, hr0, hs0, hs1⟩
      walk_at "ss"
      refine k_d (fun h0 => ?_) (fun h0 => ?_)
      · walk_at "ss"
        have q := mod_bd (x := r) hn0
        exact k _ _ q.1 q.2 ⟨nb, sm0, l, ns, _, _, _, _, rfl, hl, hi, Int.ediv_nonneg hr0 (by omega), hs0, hs1⟩
      · walk_at "ss"
        exact k _ _ (mod_bd hn0).1 (mod_bd hn0).2 ⟨nb, sm0, l, ns, _, _, _, _, rfl, hl, hi, hr0, (mod_bd (by decide)).1, Int.lt_trans (mod_bd (by decide)).2 (by decide)⟩
theorem ok_of (T : Tx K mg) : FnOk P w K mg base CX0 2 T.a_of T.fd_of P_of (spOf K) := by
  refine T.F_of.ok sc_of (fun vs H Q E h => ?_) (fun cdv A outer s H vs Q E hr h => ?_)
  · obtain ⟨G0, G, b, β, x, rfl, _⟩ := h
    rfl
  · obtain ⟨G0, G, b, β, x, rfl, rfl, hb, h⟩ := h
    have nd := sc_of.nd
    refine ⟨_, (pss_one (ps_ret (pe_ix (kix K) (kv (i := 1) v_of_law_things) (pe_call (ok_draw T) (hr.mono (by first | decide | omega)) g_of_law_draw T.m_draw T.k_draw T.b_draw .nil pass0 (pa_cons (kv (i := 0) v_of_law_bag_here) (pa_cons (kcB b_len (by decide) (by decide) (kc_len K) g_of_len T.n_len (pa_cons (kv (i := 1) v_of_law_things) pa_nil)) pa_nil))) (fun _ _ => rfl)))), ?_⟩
    cases x with
    | ref p =>
      obtain ⟨xs, hx, hl0, hl1, k⟩ := h
      have hx' : ∀ β', SqL K (upd G b β') p xs := fun β' => (up_same hb.nb).seq hx
      have hx1 := hx' β
      walk_at "ss"
      refine k_draw hb (by omega) (by omega) fun d β' h0 h1 hb' => ?_
      obtain ⟨v, hv, hm⟩ := at_mem h0 h1
      refine k_ixL (hx' _) hv ?_
      exact k v β' hm hb'
    | str z =>
      obtain ⟨hl0, hl1, k⟩ := h
      walk_at "ss"
      refine k_lenS (small_size hl1) ?_
      walk_at "ss"
      refine k_draw hb (by omega) (by omega) fun d β' h0 h1 hb' => ?_
      obtain ⟨c, hc, hm⟩ := at_mem (xs := z.cps.toList) h0 (by rw [Array.length_toList]; exact h1)
      refine k_ixS (small_size hl1) hc ?_
      exact k c β' hm hb'
    | _ => exact h.elim
/-- the bag of a script -/
def spBag (K : PySem.W.Frag) : Sp := fun vs H Q _ => ∃ (a : Addr) (ns : List Int), vs = [.ref a] ∧ SqL K H a (ns.map V.int) ∧ ∀ b G β, Same H G → Bag K G G b β → Q (.ref b) (upd G b β)
theorem ok_bag (T : Tx K mg) : FnOk P w K mg base CX0 1 T.a_bag T.fd_bag P_bag (spBag K) := by
  refine T.F_bag.ok sc_bag (fun vs H Q E h => ?_) (fun cdv A outer s H vs Q E hr h => ?_)
  · obtain ⟨a, ns, rfl, _⟩ := h
    rfl
  · obtain ⟨a, ns, rfl, hl, k⟩ := h
    have nd := sc_bag.nd
    refine ⟨_, (pss_cons (ks_setL (i := 1) nd l_bag_law_seed pe_int)
      (pss_cons (ps_for PassesOwn.never rfl (kpi_list K (pe_slice (ksl_list K) (kv (i := 0) v_bag_law_script) po_none (po_some pe_int))) (kgL (i := 2) nd l_bag_law_item) (pss_one (ks_setL (i := 1) nd l_bag_law_seed (pe_op op_mod (kcT b_int (by decide) (by decide) kc_int g_bag_int T.n_int (pa_cons (pe_op kop_add (pe_op kop_add (pe_op op_mul (kv (i := 1) v_bag_law_seed) pe_int) (pe_op op_mod (kcT b_int (by decide) (by decide) kc_int g_bag_int T.n_int (pa_cons (kv (i := 2) v_bag_law_item) pa_nil)) pe_int)) pe_int) pa_nil)) pe_int))))
      (pss_one (ps_ret (pe_lst (pa_cons (kcT b_list (by decide) (by decide) (kc_list K) g_bag_list T.n_list (pa_cons (pe_slice (ksl_list K) (kv (i := 0) v_bag_law_script) po_none (po_some pe_int)) pa_nil)) (pa_cons pe_int (pa_cons pe_int (pa_cons (kv (i := 1) v_bag_law_seed) (pa_cons pe_int pa_nil)))))))))), ?_⟩
    walk_at "ss"
    refine k_slL hl ?_
    intro p np
    obtain ⟨ms, hms⟩ := cut_ints (ns := ns) (lo := none) (hi := some 63)
    rw [hms]
    have e1 := same_new (o := .lst (ms.map V.int)) np
    refine k_iL (SqL.of upd_same) ?_
    refine k_forList (ms.map V.int) (fun i σ H' => ∃ sd v, σ = [some (.ref a), some (.int sd), v] ∧ H' = upd H p (.lst (ms.map V.int)) ∧ 0 ≤ sd ∧ sd < 2147483647) ⟨_, _, rfl, rfl, by decide, by decide⟩ ?_ ?_ ?_
    · rintro i σ H' _ ⟨sd, v, rfl, rfl, _⟩
      exact SqL.of upd_same
    · rintro i x σ H' hx ⟨sd, v, rfl, rfl, h0, h1⟩
      obtain ⟨z, rfl⟩ : ∃ z, x = V.int z := by
        rw [List.getElem?_map] at hx
        cases e : ms[i]? with
        | none => rw [e] at hx; cases hx
        | some u => rw [e] at hx; exact ⟨u, (Option.some.inj hx).symm⟩
      walk_at "ss"
      exact ⟨_, _, rfl, rfl, (mod_bd (by decide)).1, Int.lt_trans (mod_bd (by decide)).2 (by decide)⟩
    · rintro σ H' ⟨sd, v, rfl, rfl, h0, h1⟩
      walk_at "ss"
      refine k_slL (e1.seq hl) ?_
      rw [hms]
      intro q nq
      have e2 := same_new (o := .lst (ms.map V.int)) nq
      walk_at "ss"
      refine k_listL (SqL.of upd_same) ?_
      intro l nl
      have e3 := same_new (o := .lst (ms.map V.int)) nl
      walk_at "ss"
      intro b nb
      exact k b _ _ ((e1.trans e2).trans e3) ⟨nb, Same.refl _, l, ms, 0, 0, sd, 0, rfl, SqL.of upd_same, by decide, by decide, h0, h1⟩
end

/-! ### rests as data -/
inductive Op where | later | sooner | next
inductive Plan where | win (w : Int) | days (bs : List Int) (p : Int) | op (o : Op) (a b : Plan)
def baseOf (bs : List Int) : Int := bs.getLast?.getD 0
def dayAt (bs : List Int) (p t : Int) : Int := match bs.find? (fun b => decide (t < b)) with
  | some b => b
  | none => baseOf bs + ((t - baseOf bs) / p + 1) * p
def mx (i j : Int) : Int := if j > i then j else i
def mn (i j : Int) : Int := if j < i then j else i
def lcmI (a b : Int) : Int := ((Nat.lcm a.natAbs b.natAbs : Nat) : Int)
def Plan.at : Plan → Int → Int
  | .win w, t => t + w
  | .days bs p, t => dayAt bs p t
  | .op .later a b, t => mx (a.at t) (b.at t)
  | .op .sooner a b, t => mn (a.at t) (b.at t)
  | .op .next a b, t => b.at (a.at t)
def Plan.forms : Plan → Nat
  | .win _ => 1
  | .days _ _ => 1
  | .op _ a b => 1 + a.forms + b.forms
def Plan.period : Plan → Int
  | .win _ => 1
  | .days _ p => p
  | .op _ a b => lcmI a.period b.period
def Plan.bend : Plan → Int
  | .win _ => 0
  | .days bs _ => baseOf bs
  | .op _ a b => mx a.bend b.bend
def Asc : Int → List Int → Prop
  | _, [] => True
  | l, b :: r => l < b ∧ Asc b r
def Plan.Ok : Plan → Prop
  | .win w => 1 ≤ w ∧ w ≤ 1000
  | .days bs p => Asc 0 bs ∧ (∀ b ∈ bs, b ≤ 1000) ∧ bs.length ≤ 12 ∧ 1 ≤ p ∧ p ≤ 2000
  | .op o a b => a.Ok ∧ b.Ok ∧ (Plan.op o a b).forms ≤ 6 ∧ (Plan.op o a b).period ≤ 2000
theorem Plan.forms_pos (p : Plan) : 0 < p.forms := by cases p <;> simp [Plan.forms] <;> omega
theorem lcmI_nn (a b : Int) : 0 ≤ lcmI a b := Int.natCast_nonneg _
theorem period_pos : ∀ {p : Plan}, p.Ok → 0 < p.period ∧ p.period ≤ 2000
  | .win _, _ => ⟨by show (0 : Int) < 1; decide, by show (1 : Int) ≤ 2000; decide⟩
  | .days bs p, h => by
    obtain ⟨_, _, _, h1, h2⟩ := h
    exact ⟨by show 0 < p; omega, h2⟩
  | .op o a b, h => by
    obtain ⟨ha, hb, _, h2⟩ := h
    have q1 := (period_pos ha).1
    have q2 := (period_pos hb).1
    refine ⟨?_, h2⟩
    show 0 < lcmI a.period b.period
    have : 0 < Nat.lcm a.period.natAbs b.period.natAbs := Nat.lcm_pos (by omega) (by omega)
    unfold lcmI
    omega
/-! ### rests as objects -/
section
variable {K : PySem.W.Frag} {mg : Str → Option Value}
def cOp (T : Tx K mg) : Op → Addr
  | .later => T.C_Later
  | .sooner => T.C_Sooner
  | .next => T.C_Next
abbrev nW1 : List Str := ["width"]
abbrev nD1 : List Str := ["every", "_borders"]
abbrev nO1 : List Str := ["first", "second"]
abbrev n4 : List Str := ["_text", "_forms", "_period", "_bend"]
abbrev nWin : List Str := ["_text", "_forms", "_period", "_bend", "width"]
abbrev nDays : List Str := ["_text", "_forms", "_period", "_bend", "every", "_borders"]
abbrev nOp : List Str := ["_text", "_forms", "_period", "_bend", "first", "second"]
inductive RestAt (T : Tx K mg) (F : Addr → Prop) (H : Hp) : Addr → Plan → Prop where
  | win {a dx : Addr} {tx : Str} {w : Int} (h : H a = some (.ins T.C_Window dx (FL nWin [.str tx, .int 1, .int 1, .int 0, .int w]))) (ht : tx.length ≤ 1000) : RestAt T F H a (.win w)
  | days {a dx l : Addr} {tx : Str} {bs : List Int} {p : Int} (h : H a = some (.ins T.C_Days dx (FL nDays [.str tx, .int 1, .int p, .int (baseOf bs), .int p, .ref l]))) (hl : H l = some (.lst (bs.map V.int))) (ht : tx.length ≤ 1000) (hF : ¬ F l) : RestAt T F H a (.days bs p)
  | op {a dx a1 a2 : Addr} {tx : Str} {o : Op} {p q : Plan} (h : H a = some (.ins (cOp T o) dx (FL nOp [.str tx, .int ((Plan.op o p q).forms : Nat), .int (Plan.op o p q).period, .int (Plan.op o p q).bend, .ref a1, .ref a2])))
      (h1 : RestAt T F H a1 p) (h2 : RestAt T F H a2 q) (ht : tx.length ≤ 1000 * (Plan.op o p q).forms) : RestAt T F H a (.op o p q)
theorem RestAt.up {T : Tx K mg} {F : Addr → Prop} {H H' : Hp} (e : Same H H') : ∀ {a : Addr} {p : Plan}, RestAt T F H a p → RestAt T F H' a p := by
  intro a p h
  induction h with
  | win h ht => exact .win (e _ _ h) ht
  | days h hl ht hF => exact .days (e _ _ h) (e _ _ hl) ht hF
  | op h h1 h2 ht i1 i2 => exact .op (e _ _ h) i1 i2 ht
/-- its class, among the five -/
inductive IsC (T : Tx K mg) : Addr → Prop where
  | win : IsC T T.C_Window
  | days : IsC T T.C_Days
  | op (o : Op) : IsC T (cOp T o)
theorem RestAt.four {T : Tx K mg} {F : Addr → Prop} {H : Hp} {a : Addr} {p : Plan} (h : RestAt T F H a p) : ∃ (C dx : Addr) (ns : List Str) (vs : List V) (tx : Str), IsC T C ∧ (ns = nW1 ∨ ns = nD1 ∨ ns = nO1) ∧ tx.length ≤ 1000 * p.forms ∧
    H a = some (.ins C dx (FL (n4 ++ ns) ([V.str tx, .int (p.forms : Nat), .int p.period, .int p.bend] ++ vs))) := by
  cases h with
  | win h ht => exact ⟨_, _, _, _, _, .win, .inl rfl, by show _ ≤ 1000 * 1; omega, h⟩
  | days h hl ht hF => exact ⟨_, _, _, _, _, .days, .inr (.inl rfl), by show _ ≤ 1000 * 1; omega, h⟩
  | op h h1 h2 ht => exact ⟨_, _, _, _, _, .op _, .inr (.inr rfl), ht, h⟩
theorem IsC.cl {T : Tx K mg} {C : Addr} (h : IsC T C) : Cls K C := by
  cases h with
  | win => exact T.cl_Window
  | days => exact T.cl_Days
  | op o => cases o <;> first | exact T.cl_Later | exact T.cl_Sooner | exact T.cl_Next
theorem IsC.ty {T : Tx K mg} {C : Addr} (h : IsC T C) : ClsTy K C := by
  cases h with
  | win => exact T.ty_Window
  | days => exact T.ty_Days
  | op o => cases o <;> first | exact T.ty_Later | exact T.ty_Sooner | exact T.ty_Next
theorem IsC.kt {T : Tx K mg} {C : Addr} (h : IsC T C) : PySem.W.kitOne K (.ref C) (.ref T.C_Rest) = some true := by
  cases h with
  | win => exact T.kt_Window_Rest
  | days => exact T.kt_Days_Rest
  | op o => cases o <;> first | exact T.kt_Later_Rest | exact T.kt_Sooner_Rest | exact T.kt_Next_Rest
theorem IsC.noText {T : Tx K mg} {C : Addr} (h : IsC T C) : NoAttr K C "_text" := by
  cases h with
  | win => exact T.no_Window_text
  | days => exact T.no_Days_text
  | op o => cases o <;> first | exact T.no_Later_text | exact T.no_Sooner_text | exact T.no_Next_text
theorem IsC.noForms {T : Tx K mg} {C : Addr} (h : IsC T C) : NoAttr K C "_forms" := by
  cases h with
  | win => exact T.no_Window_forms
  | days => exact T.no_Days_forms
  | op o => cases o <;> first | exact T.no_Later_forms | exact T.no_Sooner_forms | exact T.no_Next_forms
theorem IsC.noPeriod {T : Tx K mg} {C : Addr} (h : IsC T C) : NoAttr K C "_period" := by
  cases h with
  | win => exact T.no_Window_period
  | days => exact T.no_Days_period
  | op o => cases o <;> first | exact T.no_Later_period | exact T.no_Sooner_period | exact T.no_Next_period
theorem IsC.noBend {T : Tx K mg} {C : Addr} (h : IsC T C) : NoAttr K C "_bend" := by
  cases h with
  | win => exact T.no_Window_bend
  | days => exact T.no_Days_bend
  | op o => cases o <;> first | exact T.no_Later_bend | exact T.no_Sooner_bend | exact T.no_Next_bend
end
section
variable {w : World} {K : PySem.W.Frag} {mg : Str → Option Value} {base : Heap}
/-! ### is_number, Rest -/
def spNum : Sp := fun vs H Q _ => ∃ v lo hi : Int, vs = [.int v, .int lo, .int hi] ∧ lo ≤ v ∧ v ≤ hi ∧ Q (.bl true) H
theorem ok_is_number (T : Tx K mg) : FnOk P w K mg base CX0 1 T.a_is_number T.fd_is_number P_is_number spNum := by
  refine T.F_is_number.ok sc_is_number (fun vs H Q E h => ?_) (fun cdv A outer s H vs Q E hr h => ?_)
  · obtain ⟨v, lo, hi, rfl, _⟩ := h
    rfl
  · obtain ⟨v, lo, hi, rfl, h0, h1, k⟩ := h
    have nd := sc_is_number.nd
    refine ⟨_, (pss_one (ps_ret (pe_and (kcB b_isinstance (by decide) (by decide) (kc_isi K) g_is_number_isinstance T.n_isinstance (pa_cons (kv (i := 0) v_is_number_value) (pa_cons (kty_int g_is_number_int T.n_int) pa_nil))) (pe_and (pe_not (kcB b_isinstance (by decide) (by decide) (kc_isi K) g_is_number_isinstance T.n_isinstance (pa_cons (kv (i := 0) v_is_number_value) (pa_cons (kty_bool g_is_number_bool T.n_bool) pa_nil)))) (pe_one (pe_chain op_le op_le (kv (i := 1) v_is_number_least) (kv (i := 0) v_is_number_value) (kv (i := 2) v_is_number_most))))))), ?_⟩
    walk_at "ss"
    refine k_dt h0 ?_
    walk_at "ss"
    show Q (.bl (decide (v ≤ hi))) H
    rw [decide_eq_true h1]
    exact k
def spRestInit (T : Tx K mg) : Sp := fun vs H Q _ => ∃ (a C dx : Addr) (tx : Str) (f p b : Int), vs = [.ref a, .str tx, .int f, .int p, .int b] ∧ IsC T C ∧ H a = some (.ins C dx []) ∧ Q .non (upd H a (.ins C dx (FL n4 [.str tx, .int f, .int p, .int b])))
theorem ok_Rest_init (T : Tx K mg) : FnOk P w K mg base CX0 1 T.a_Rest_init T.fd_Rest_init P_Rest_init (spRestInit T) := by
  refine T.F_Rest_init.ok sc_Rest_init (fun vs H Q E h => ?_) (fun cdv A outer s H vs Q E hr h => ?_)
  · obtain ⟨a, C, dx, tx, f, p, b, rfl, _⟩ := h
    rfl
  · obtain ⟨a, C, dx, tx, f, p, b, rfl, hC, ha, k⟩ := h
    have nd := sc_Rest_init.nd
    refine ⟨_, (pss_cons (kps_fld K (kv (i := 0) v_Rest_init_self) (kv (i := 1) v_Rest_init_text))
      (pss_cons (kps_fld K (kv (i := 0) v_Rest_init_self) (kv (i := 2) v_Rest_init_forms))
      (pss_cons (kps_fld K (kv (i := 0) v_Rest_init_self) (kv (i := 3) v_Rest_init_period))
      (pss_one (kps_fld K (kv (i := 0) v_Rest_init_self) (kv (i := 4) v_Rest_init_bend)))))), ?_⟩
    walk_at "ss"
    refine k_putAt (ns := []) (vs := []) ha hC.cl hC.noText rfl (by decide +kernel) (by decide) ?_
    walk_at "ss"
    refine k_putTop hC.cl hC.noForms rfl (by decide +kernel) (by decide) ?_
    walk_at "ss"
    refine k_putTop hC.cl hC.noPeriod rfl (by decide +kernel) (by decide) ?_
    walk_at "ss"
    refine k_putTop hC.cl hC.noBend rfl (by decide +kernel) (by decide) ?_
    exact k
def spForms (T : Tx K mg) : Sp := fun vs H Q _ => ∃ F a p, vs = [.ref a] ∧ RestAt T F H a p ∧ Q (.int (p.forms : Nat)) H
def spPeriod (T : Tx K mg) : Sp := fun vs H Q _ => ∃ F a p, vs = [.ref a] ∧ RestAt T F H a p ∧ Q (.int p.period) H
def spBend (T : Tx K mg) : Sp := fun vs H Q _ => ∃ F a p, vs = [.ref a] ∧ RestAt T F H a p ∧ Q (.int p.bend) H
def spWritten (T : Tx K mg) : Sp := fun vs H Q _ => ∃ F a p, vs = [.ref a] ∧ RestAt T F H a p ∧ ∀ tx : Str, tx.length ≤ 1000 * p.forms → Q (.str tx) H
theorem pos4 {x : Str} {ns : List Str} {i : Nat} (h : pos? x n4 = some i) : pos? x (n4 ++ ns) = some i := by
  have key : ∀ (l : List Str) (i : Nat), pos? x l = some i → pos? x (l ++ ns) = some i := by
    intro l
    induction l with
    | nil => intro i h; cases h
    | cons n r ih =>
      intro i h
      unfold pos? at h
      show pos? x (n :: (r ++ ns)) = some i
      unfold pos?
      by_cases e : n == x
      · rw [if_pos e] at h ⊢
        exact h
      · rw [if_neg e] at h ⊢
        cases hp : pos? x r with
        | none => rw [hp] at h; cases h
        | some j =>
          rw [hp] at h
          rw [ih j hp]
          exact h
  exact key _ _ h
theorem ok_Rest_forms (T : Tx K mg) : FnOk P w K mg base CX0 1 T.a_Rest_forms T.fd_Rest_forms P_Rest_forms (spForms T) := by
  refine T.F_Rest_forms.ok sc_Rest_forms (fun vs H Q E h => ?_) (fun cdv A outer s H vs Q E hr h => ?_)
  · obtain ⟨F, a, p, rfl, _⟩ := h
    rfl
  · obtain ⟨F, a, p, rfl, ha, k⟩ := h
    obtain ⟨C, dx, ns, vs, tx, hC, _, ht, he⟩ := ha.four
    refine ⟨_, (pss_one (ps_ret (kpe_fld K (kv (i := 0) v_Rest_forms_self)))), ?_⟩
    walk_at "ss"
    exact k_fldAt he hC.cl hC.noForms (pos4 (x := "_forms") (i := 1) (by decide +kernel)) rfl k
theorem ok_Rest_period (T : Tx K mg) : FnOk P w K mg base CX0 1 T.a_Rest_period T.fd_Rest_period P_Rest_period (spPeriod T) := by
  refine T.F_Rest_period.ok sc_Rest_period (fun vs H Q E h => ?_) (fun cdv A outer s H vs Q E hr h => ?_)
  · obtain ⟨F, a, p, rfl, _⟩ := h
    rfl
  · obtain ⟨F, a, p, rfl, ha, k⟩ := h
    obtain ⟨C, dx, ns, vs, tx, hC, _, ht, he⟩ := ha.four
    refine ⟨_, (pss_one (ps_ret (kpe_fld K (kv (i := 0) v_Rest_period_self)))), ?_⟩
    walk_at "ss"
    exact k_fldAt he hC.cl hC.noPeriod (pos4 (x := "_period") (i := 2) (by decide +kernel)) rfl k
theorem ok_Rest_bend (T : Tx K mg) : FnOk P w K mg base CX0 1 T.a_Rest_bend T.fd_Rest_bend P_Rest_bend (spBend T) := by
  refine T.F_Rest_bend.ok sc_Rest_bend (fun vs H Q E h => ?_) (fun cdv A outer s H vs Q E hr h => ?_)
  · obtain ⟨F, a, p, rfl, _⟩ := h
    rfl
  · obtain ⟨F, a, p, rfl, ha, k⟩ := h
    obtain ⟨C, dx, ns, vs, tx, hC, _, ht, he⟩ := ha.four
    refine ⟨_, (pss_one (ps_ret (kpe_fld K (kv (i := 0) v_Rest_bend_self)))), ?_⟩
    walk_at "ss"
    exact k_fldAt he hC.cl hC.noBend (pos4 (x := "_bend") (i := 3) (by decide +kernel)) rfl k
theorem ok_Rest_written (T : Tx K mg) : FnOk P w K mg base CX0 1 T.a_Rest_written T.fd_Rest_written P_Rest_written (spWritten T) := by
  refine T.F_Rest_written.ok sc_Rest_written (fun vs H Q E h => ?_) (fun cdv A outer s H vs Q E hr h => ?_)
  · obtain ⟨F, a, p, rfl, _⟩ := h
    rfl
  · obtain ⟨F, a, p, rfl, ha, k⟩ := h
    obtain ⟨C, dx, ns, vs, tx, hC, _, ht, he⟩ := ha.four
    refine ⟨_, (pss_one (ps_ret (kpe_fld K (kv (i := 0) v_Rest_written_self)))), ?_⟩
    walk_at "ss"
    exact k_fldAt he hC.cl hC.noText (pos4 (x := "_text") (i := 0) (by decide +kernel)) rfl (k tx ht)
abbrev OneSp (T : Tx K mg) (sp0 : Sp) : Addr → Sp → Prop := fun C sp => IsC T C ∧ sp = sp0
theorem disp_forms (T : Tx K mg) : ∀ C sp, OneSp T (spForms T) C sp → ∃ g fd ps, Cls K C ∧ Meth K C "forms" g ∧ FnOk P w K mg base CX0 1 g fd ps sp ∧ Binds K fd ps [] := by
  rintro C sp ⟨hC, rfl⟩
  refine ⟨_, _, _, hC.cl, ?_, ok_Rest_forms T, T.b_Rest_forms⟩
  cases hC with
  | win => exact T.me_Window_forms
  | days => exact T.me_Days_forms
  | op o => cases o <;> first | exact T.me_Later_forms | exact T.me_Sooner_forms | exact T.me_Next_forms
theorem disp_period (T : Tx K mg) : ∀ C sp, OneSp T (spPeriod T) C sp → ∃ g fd ps, Cls K C ∧ Meth K C "period" g ∧ FnOk P w K mg base CX0 1 g fd ps sp ∧ Binds K fd ps [] := by
  rintro C sp ⟨hC, rfl⟩
  refine ⟨_, _, _, hC.cl, ?_, ok_Rest_period T, T.b_Rest_period⟩
  cases hC with
  | win => exact T.me_Window_period
  | days => exact T.me_Days_period
  | op o => cases o <;> first | exact T.me_Later_period | exact T.me_Sooner_period | exact T.me_Next_period
theorem disp_bend (T : Tx K mg) : ∀ C sp, OneSp T (spBend T) C sp → ∃ g fd ps, Cls K C ∧ Meth K C "bend" g ∧ FnOk P w K mg base CX0 1 g fd ps sp ∧ Binds K fd ps [] := by
  rintro C sp ⟨hC, rfl⟩
  refine ⟨_, _, _, hC.cl, ?_, ok_Rest_bend T, T.b_Rest_bend⟩
  cases hC with
  | win => exact T.me_Window_bend
  | days => exact T.me_Days_bend
  | op o => cases o <;> first | exact T.me_Later_bend | exact T.me_Sooner_bend | exact T.me_Next_bend
theorem disp_written (T : Tx K mg) : ∀ C sp, OneSp T (spWritten T) C sp → ∃ g fd ps, Cls K C ∧ Meth K C "written" g ∧ FnOk P w K mg base CX0 1 g fd ps sp ∧ Binds K fd ps [] := by
  rintro C sp ⟨hC, rfl⟩
  refine ⟨_, _, _, hC.cl, ?_, ok_Rest_written T, T.b_Rest_written⟩
  cases hC with
  | win => exact T.me_Window_written
  | days => exact T.me_Days_written
  | op o => cases o <;> first | exact T.me_Later_written | exact T.me_Sooner_written | exact T.me_Next_written
end

section
variable {w : World} {K : PySem.W.Frag} {mg : Str → Option Value} {base : Heap}
/-- a method that no rest has in its own dict -/
theorem no_meth {m : Str} {ns : List Str} {vs : List V} (h : nin m n4 = true) (h1 : nin m ["width", "every", "_borders", "first", "second"] = true) (hn : ns = nW1 ∨ ns = nD1 ∨ ns = nO1) : (FL (n4 ++ ns) vs).lookup m = none := by
  refine fl_no ?_
  unfold nin at h1
  simp only [nin, Bool.and_eq_true] at h h1 ⊢
  rcases hn with rfl | rfl | rfl <;> simp [nin, h, h1]
theorem k_rest {T : Tx K mg} {F : Addr → Prop} {H : Hp} {a : Addr} {p : Plan} {m : Str} {E : XK} {sp0 : Sp} {σ : L2.St} {Q : VK} {ta : TE} (ha : RestAt T F H a p) (h : nin m n4 = true) (h1 : nin m ["width", "every", "_borders", "first", "second"] = true)
    (hσ : ∀ Q : VK, Q (.ref a) H → ta σ H Q) (k : sp0 [.ref a] H Q E) : tMethP (OneSp T sp0) m E ta tNil σ H Q := by
  obtain ⟨C, dx, ns, vs, tx, hC, hn, _, he⟩ := ha.four
  refine hσ _ ?_
  exact ⟨a, C, dx, _, sp0, rfl, he, ⟨hC, rfl⟩, no_meth h h1 hn, k⟩
def spJoined (T : Tx K mg) : Sp := fun vs H Q _ => ∃ (F : Addr → Prop) (wd : Str) (a b : Addr) (o : Op) (p q : Plan), vs = [.str wd, .ref a, .ref b] ∧ wd.length ≤ 10 ∧ RestAt T F H a p ∧ RestAt T F H b q ∧ p.Ok ∧ q.Ok ∧ (Plan.op o p q).forms ≤ 6 ∧ (Plan.op o p q).period ≤ 2000 ∧
  ∀ (t : Addr) (tx : Str) (H' : Hp), tx.length ≤ 1000 * (Plan.op o p q).forms → Same H H' → H' t = some (.tup [.str tx, .int ((Plan.op o p q).forms : Nat), .int (Plan.op o p q).period, .int (Plan.op o p q).bend]) → Q (.ref t) H'
theorem ok_joined (T : Tx K mg) : FnOk P w K mg base CX0 2 T.a_joined T.fd_joined P_joined (spJoined T) := by
  refine T.F_joined.ok sc_joined (fun vs H Q E h => ?_) (fun cdv A outer s H vs Q E hr h => ?_)
  · obtain ⟨F, wd, a, b, o, p, q, rfl, _⟩ := h
    rfl
  · obtain ⟨F, wd, a, b, o, p, q, rfl, hw, ha, hb, op, oq, hf, hp, k⟩ := h
    have nd := sc_joined.nd
    refine ⟨_, (pss_cons (ps_for PassesOwn.never rfl (kpi_tup K (pe_tup (pa_cons (kv (i := 1) v_joined_first) (pa_cons (kv (i := 2) v_joined_second) pa_nil)))) (kgL (i := 3) nd l_joined_value) (pss_one (ps_if (pt_not (pt_val (kcB b_isinstance (by decide) (by decide) (kc_isi K) g_joined_isinstance T.n_isinstance (pa_cons (kv (i := 3) v_joined_value) (pa_cons (kcls g_joined_Rest T.m_Rest) pa_nil))))) (pss_one ps_never) pss_nil)))
      (pss_cons (ks_setL (i := 4) nd l_joined_forms (pe_op kop_add (pe_op kop_add pe_int (kpe_methP0 (disp_forms T) (hr.mono (by decide)) pass0 (kv (i := 1) v_joined_first))) (kpe_methP0 (disp_forms T) (hr.mono (by decide)) pass0 (kv (i := 2) v_joined_second))))
      (pss_cons (ps_if (pt_cmpR op_gt (kv (i := 4) v_joined_forms) (pe_glob g_joined_FORMS T.m_FORMS T.r_FORMS) (nomark _)) (pss_one ps_never) pss_nil)
      (pss_cons (ks_setL (i := 5) nd l_joined_period (pe_callBfun kcr_lcm g_joined_lcm T.m_lcm (pa_cons (kpe_methP0 (disp_period T) (hr.mono (by decide)) pass0 (kv (i := 1) v_joined_first)) (pa_cons (kpe_methP0 (disp_period T) (hr.mono (by decide)) pass0 (kv (i := 2) v_joined_second)) pa_nil))))
      (pss_cons (ps_if (pt_cmpR op_gt (kv (i := 5) v_joined_period) (pe_glob g_joined_PERIOD T.m_PERIOD T.r_PERIOD) (nomark _)) (pss_one ps_never) pss_nil)
      (pss_cons (ks_setL (i := 6) nd l_joined_bend (kcB b_max (by decide) (by decide) (kc_max2 rfl) g_joined_max T.n_max (pa_cons (kpe_methP0 (disp_bend T) (hr.mono (by decide)) pass0 (kv (i := 1) v_joined_first)) (pa_cons (kpe_methP0 (disp_bend T) (hr.mono (by decide)) pass0 (kv (i := 2) v_joined_second)) pa_nil))))
      (pss_one (ps_ret (pe_tup (pa_cons (pe_joined (.cons (pe_fmt (kv (i := 0) v_joined_word)) (.cons pe_str (.cons (pe_fmt (kpe_methP0 (disp_written T) (hr.mono (by decide)) pass0 (kv (i := 1) v_joined_first))) (.cons pe_str (.cons (pe_fmt (kpe_methP0 (disp_written T) (hr.mono (by decide)) pass0 (kv (i := 2) v_joined_second))) (.cons pe_str .nil))))))) (pa_cons (kv (i := 4) v_joined_forms) (pa_cons (kv (i := 5) v_joined_period) (pa_cons (kv (i := 6) v_joined_bend) pa_nil))))))))))))), ?_⟩
    walk_at "ss"
    intro tp np
    have e1 := same_new (o := .tup [V.ref a, V.ref b]) np
    have ha1 := ha.up e1
    have hb1 := hb.up e1
    refine k_iT (SqT.of upd_same) ?_
    refine k_forTup [V.ref a, V.ref b] (fun i σ H' => H' = upd H tp (.tup [V.ref a, V.ref b]) ∧ ∃ v, σ = [some (.str wd), some (.ref a), some (.ref b), v, none, none, none]) ⟨rfl, none, rfl⟩ ?_ ?_ ?_
    · rintro i σ H' _ ⟨rfl, _⟩
      exact SqT.of upd_same
    · rintro i x σ H' hx ⟨rfl, v, rfl⟩
      have hm := List.mem_of_getElem? hx
      have key : ∃ c r, x = V.ref c ∧ RestAt T F (upd H tp (.tup [V.ref a, V.ref b])) c r := by
        simp only [List.mem_cons, List.not_mem_nil, or_false] at hm
        rcases hm with rfl | rfl
        · exact ⟨a, p, rfl, ha1⟩
        · exact ⟨b, q, rfl, hb1⟩
      obtain ⟨c, r, rfl, hc⟩ := key
      obtain ⟨C, dx, ns, vs, tx, hC, hn, _, he⟩ := hc.four
      walk_at "ss"
      refine k_isiO (ty_own hC.ty he) hC.kt ?_
      walk_at "ss"
      exact ⟨rfl, _, rfl⟩
    · rintro σ H' ⟨rfl, v, rfl⟩
      walk_at "ss"
      refine k_rest ha1 (by decide +kernel) (by decide +kernel) (fun Q q => ⟨_, rfl, q⟩) ⟨F, a, p, rfl, ha1, ?_⟩
      walk_at "ss"
      refine k_rest hb1 (by decide +kernel) (by decide +kernel) (fun Q q => ⟨_, rfl, q⟩) ⟨F, b, q, rfl, hb1, ?_⟩
      walk_at "ss"
      have ef : (1 : Int) + (p.forms : Nat) + (q.forms : Nat) = ((Plan.op o p q).forms : Nat) := by
        show _ = ((1 + p.forms + q.forms : Nat) : Int)
        omega
      rw [ef]
      refine k_df (by omega) ?_
      walk_at "ss"
      refine k_rest ha1 (by decide +kernel) (by decide +kernel) (fun Q q => ⟨_, rfl, q⟩) ⟨F, a, p, rfl, ha1, ?_⟩
      walk_at "ss"
      refine k_rest hb1 (by decide +kernel) (by decide +kernel) (fun Q q => ⟨_, rfl, q⟩) ⟨F, b, q, rfl, hb1, ?_⟩
      walk_at "ss"
      have pp := period_pos op
      have pq := period_pos oq
      refine ⟨p.period, q.period, rfl, by omega, by omega, by omega, by omega, ?_⟩
      walk_at "ss"
      refine k_df (show ¬ (2000 < (Plan.op o p q).period) by omega) ?_
      walk_at "ss"
      refine k_rest ha1 (by decide +kernel) (by decide +kernel) (fun Q q => ⟨_, rfl, q⟩) ⟨F, a, p, rfl, ha1, ?_⟩
      walk_at "ss"
      refine k_rest hb1 (by decide +kernel) (by decide +kernel) (fun Q q => ⟨_, rfl, q⟩) ⟨F, b, q, rfl, hb1, ?_⟩
      walk_at "ss"
      have hff : (Plan.op o p q).forms = 1 + p.forms + q.forms := rfl
      have l1 : ("(" : Str).length = 1 := by decide +kernel
      have l2 : (", " : Str).length = 2 := by decide +kernel
      have l3 : (")" : Str).length = 1 := by decide +kernel
      refine k_fmtS (by omega) ?_
      refine k_jsV (by simp only [PySem.Str.length_append, len_empty]; omega) ?_
      walk_at "ss"
      refine k_jsV (by simp only [PySem.Str.length_append, len_empty, l1]; omega) ?_
      walk_at "ss"
      refine k_rest ha1 (by decide +kernel) (by decide +kernel) (fun Q q => ⟨_, rfl, q⟩) ⟨F, a, p, rfl, ha1, fun t1 ht1 => ?_⟩
      refine k_fmtS (by omega) ?_
      refine k_jsV (by simp only [PySem.Str.length_append, len_empty, l1]; omega) ?_
      walk_at "ss"
      refine k_jsV (by simp only [PySem.Str.length_append, len_empty, l1, l2]; omega) ?_
      walk_at "ss"
      refine k_rest hb1 (by decide +kernel) (by decide +kernel) (fun Q q => ⟨_, rfl, q⟩) ⟨F, b, q, rfl, hb1, fun t2 ht2 => ?_⟩
      refine k_fmtS (by omega) ?_
      refine k_jsV (by simp only [PySem.Str.length_append, len_empty, l1, l2]; omega) ?_
      walk_at "ss"
      refine k_jsV (by simp only [PySem.Str.length_append, len_empty, l1, l2, l3]; omega) ?_
      walk_at "ss"
      intro t nt
      exact k t _ _ (by simp only [PySem.Str.length_append, len_empty, l1, l2, l3]; omega) (e1.trans (same_new nt)) upd_same

def spWinInit (T : Tx K mg) : Sp := fun vs H Q _ => ∃ (F : Addr → Prop) (a dx : Addr) (n : Int), vs = [.ref a, .int n] ∧ 1 ≤ n ∧ n ≤ 1000 ∧ H a = some (.ins T.C_Window dx []) ∧ ∀ H', SameBut a H H' → RestAt T F H' a (.win n) → Q .non H'
theorem ok_Window_init (T : Tx K mg) : FnOk P w K mg base CX0 2 T.a_Window_init T.fd_Window_init P_Window_init (spWinInit T) := by
  obtain ⟨cl, cld, csl, hce⟩ := T.ce_Window_init
  refine T.F_Window_init.ok sc_Window_init hce T.b_Window_init (fun vs H Q E h => ?_) (fun A outer s H vs Q E hr h => ?_)
  · obtain ⟨F, a, dx, n, rfl, _⟩ := h
    rfl
  · obtain ⟨F, a, dx, n, rfl, h0, h1, ha, k⟩ := h
    have nd := sc_Window_init.nd
    refine ⟨_, (psa_cons (pst_of (ps_if (pt_not (pt_val (pe_call (ok_is_number T) (hr.mono (by first | decide | omega)) g_Window_init_is_number T.m_is_number T.k_is_number T.b_is_number .nil pass0 (pa_cons (kv (i := 1) v_Window_init_width) (pa_cons pe_int (pa_cons pe_int pa_nil)))))) (pss_one ps_never) pss_nil))
      (psa_cons (kpst_super K T.sd_Window_init rfl rfl g_Window_init_super fr_Window_init cc_look rfl (locB_ok l_Window_init_self) (by decide) (ok_Rest_init T) (hr.mono (by decide)) T.b_Rest_init .nil pass0 (pa_cons (pe_joined (.cons pe_str (.cons (pe_fmt (kv (i := 1) v_Window_init_width)) .nil))) (pa_cons pe_int (pa_cons pe_int (pa_cons pe_int pa_nil)))))
      (psa_one (pst_of (kps_fld K (kv (i := 0) v_Window_init_self) (kv (i := 1) v_Window_init_width)))))), ?_⟩
    walk_at "ss"
    refine ⟨n, 1, 1000, rfl, h0, h1, ?_⟩
    walk_at "ss"
    refine k_sup rfl ha T.su_Window fun q H1 nq e1 s1 hq => ?_
    walk_at "ss"
    have l1 : ("window " : Str).length = 7 := by decide +kernel
    have l2 : (Str.ofString (toString n)).length ≤ 5 := len_text (k := 4) (by decide) (by omega)
    refine k_jsV (by simp only [PySem.Str.length_append, len_empty, l1]; omega) ?_
    walk_at "ss"
    refine k_fmtI (by omega) ?_
    refine k_jsV (by simp only [PySem.Str.length_append, len_empty, l1]; omega) ?_
    walk_at "ss"
    refine ⟨hq, ?_⟩
    refine ⟨a, _, dx, _, 1, 1, 0, rfl, .win, s1 _ _ ha, ?_⟩
    walk_at "ss"
    refine k_putTop T.cl_Window T.no_Window_width rfl (by decide +kernel) (by decide) ?_
    exact k _ ((SameBut.of s1).put) (.win upd_same (by simp only [PySem.Str.length_append, len_empty, l1]; omega))
end

section
variable {w : World} {K : PySem.W.Frag} {mg : Str → Option Value} {base : Heap}
theorem baseOf_snoc (l : List Int) (b : Int) : baseOf (l ++ [b]) = b := by simp [baseOf]
theorem asc_lt : ∀ {l : Int} {bs : List Int}, Asc l bs → ∀ b ∈ bs, l < b
  | _, [], _, b, hb => by cases hb
  | l, c :: r, h, b, hb => by
    obtain ⟨h1, h2⟩ := h
    rcases List.mem_cons.mp hb with rfl | hb
    · exact h1
    · exact Int.lt_trans h1 (asc_lt h2 b hb)
theorem txtJoin_len (a : Str) (ys : List Str) : (Txt.join a ys).length ≤ (ys.map (·.length)).sum + ys.length * a.length := by
  show (Builtin.Str.glued a ys).length ≤ _
  rw [StrLaws.glued_eq_join]
  exact StrLaws.join_length_le a ys
theorem sum_le {B : Nat} : ∀ {ys : List Str}, (∀ y ∈ ys, y.length ≤ B) → (ys.map (·.length)).sum ≤ ys.length * B
  | [], _ => Nat.zero_le _
  | y :: r, h => by
    have h1 := h y (List.mem_cons_self ..)
    have h2 := sum_le (ys := r) fun z hz => h z (List.mem_cons_of_mem _ hz)
    simp only [List.map_cons, List.sum_cons, List.length_cons, Nat.add_mul, Nat.one_mul]
    omega
def daysW (ys : List Str) (p : Int) : List Str := [("days" : Str)] ++ ys ++ [("then" : Str), Str.ofString (toString p)]
def spDaysInit (T : Tx K mg) : Sp := fun vs H Q _ => ∃ (F : Addr → Prop) (a dx l : Addr) (bs : List Int) (p : Int), (∀ x, F x → H x ≠ none) ∧ vs = [.ref a, .ref l, .int p] ∧ (Plan.days bs p).Ok ∧ H a = some (.ins T.C_Days dx []) ∧ H l = some (.lst (bs.map V.int)) ∧ ∀ H', SameBut a H H' → RestAt T F H' a (.days bs p) → Q .non H'
theorem ok_Days_init (T : Tx K mg) : FnOk P w K mg base CX0 2 T.a_Days_init T.fd_Days_init P_Days_init (spDaysInit T) := by
  obtain ⟨cl, cld, csl, hce⟩ := T.ce_Days_init
  refine T.F_Days_init.ok sc_Days_init hce T.b_Days_init (fun vs H Q E h => ?_) (fun A outer s H vs Q E hr h => ?_)
  · obtain ⟨F, a, dx, l, bs, p, _, rfl, _⟩ := h
    rfl
  · obtain ⟨F, a, dx, l, bs, p, hFH, rfl, ⟨hasc, hle, hlen, hp1, hp2⟩, ha, hl, k⟩ := h
    have nd := sc_Days_init.nd
    refine ⟨_, (psa_cons (pst_of (ps_if (pt_not (pt_val (kcB b_isinstance (by decide) (by decide) (kc_isiT K) g_Days_init_isinstance T.n_isinstance (pa_cons (kv (i := 1) v_Days_init_borders) (pa_cons (pe_tup (pa_cons (kty_list g_Days_init_list T.n_list) (pa_cons (kty_tuple g_Days_init_tuple T.n_tuple) pa_nil))) pa_nil))))) (pss_one ps_never) pss_nil))
      (psa_cons (pst_of (ps_if (pt_cmpR op_gt (kcB b_len (by decide) (by decide) (kc_len K) g_Days_init_len T.n_len (pa_cons (kv (i := 1) v_Days_init_borders) pa_nil)) (pe_glob g_Days_init_BORDERS T.m_BORDERS T.r_BORDERS) (nomark _)) (pss_one ps_never) pss_nil))
      (psa_cons (pst_of (ks_setL (i := 4) nd l_Days_init_last pe_int))
      (psa_cons (pst_of (ps_for PassesOwn.never rfl (kpi_enum K g_Days_init_enumerate T.n_enumerate (pa_cons (kv (i := 1) v_Days_init_borders) pa_nil)) (kpg_tup K 2 rfl (pgs_cons (kgL (i := 5) nd l_Days_init_at) (pgs_cons (kgL (i := 6) nd l_Days_init_border) pgs_nil))) (pss_cons (ps_if (pt_not (pt_val (pe_call (ok_is_number T) (hr.mono (by first | decide | omega)) g_Days_init_is_number T.m_is_number T.k_is_number T.b_is_number .nil pass0 (pa_cons (kv (i := 6) v_Days_init_border) (pa_cons (pe_op kop_add (kv (i := 4) v_Days_init_last) pe_int) (pa_cons pe_int pa_nil)))))) (pss_one ps_never) pss_nil)
      (pss_one (ks_setL (i := 4) nd l_Days_init_last (kv (i := 6) v_Days_init_border))))))
      (psa_cons (pst_of (ps_if (pt_not (pt_val (pe_call (ok_is_number T) (hr.mono (by first | decide | omega)) g_Days_init_is_number T.m_is_number T.k_is_number T.b_is_number .nil pass0 (pa_cons (kv (i := 2) v_Days_init_every) (pa_cons pe_int (pa_cons pe_int pa_nil)))))) (pss_one ps_never) pss_nil))
      (psa_cons (pst_of (ks_setL (i := 7) nd l_Days_init_words (pe_op kop_add (pe_op kop_add (pe_lst (pa_cons pe_str pa_nil)) (pe_lc (own := [("border", 6)]) rfl nd (kpi_list K (kv (i := 1) v_Days_init_borders)) ok_cs_Days_init_1 (fun _ _ _ _ _ => (kgL (i := 6) nd l_Days_init_1_border)) (fun _ _ _ _ _ => pts_nil) (fun _ _ _ _ _ => (kcT b_str (by decide) (by decide) kc_str g_Days_init_1_str T.n_str (pa_cons (kv (i := 6) v_Days_init_1_border) pa_nil))))) (pe_lst (pa_cons pe_str (pa_cons (kcT b_str (by decide) (by decide) kc_str g_Days_init_str T.n_str (pa_cons (kv (i := 2) v_Days_init_every) pa_nil)) pa_nil))))))
      (psa_cons (kpst_super K T.sd_Days_init rfl rfl g_Days_init_super fr_Days_init cc_look rfl (locB_ok l_Days_init_self) (by decide) (ok_Rest_init T) (hr.mono (by decide)) T.b_Rest_init .nil pass0 (pa_cons (kpe_join K pe_str (kv (i := 7) v_Days_init_words)) (pa_cons pe_int (pa_cons (kv (i := 2) v_Days_init_every) (pa_cons (kv (i := 4) v_Days_init_last) pa_nil)))))
      (psa_cons (pst_of (kps_fld K (kv (i := 0) v_Days_init_self) (kv (i := 2) v_Days_init_every)))
      (psa_one (pst_of (kps_fld K (kv (i := 0) v_Days_init_self) (kcT b_list (by decide) (by decide) (kc_list K) g_Days_init_list T.n_list (pa_cons (kv (i := 1) v_Days_init_borders) pa_nil))))))))))))), ?_⟩
    walk_at "ss"
    intro t1 n1
    generalize e1 : upd H t1 _ = H1
    have s1 := upd_sm e1 n1
    have h1 := upd_at e1
    have hl1 := s1 _ _ hl
    have ha1 := s1 _ _ ha
    clear e1
    walk_at "ss"
    refine k_df (by rw [List.length_map]; omega) ?_
    walk_at "ss"
    refine ⟨l, _, rfl, SqL.of hl1, ?_⟩
    refine k_forIt (walk_enum (xs := bs.map V.int)) (fun i σ H' => ∃ dn rs v5 v6, bs = dn ++ rs ∧ dn.length = i ∧ Asc (baseOf dn) rs ∧ σ = [some (V.ref a), some (V.ref l), some (V.int p), some (V.ref T.C_Days), some (V.int (baseOf dn)), v5, v6, none] ∧ Same H1 H') ⟨[], bs, none, none, rfl, rfl, hasc, rfl, Same.refl _⟩ ?_ ?_ ?_
    · rintro i σ H' _ ⟨dn, rs, v5, v6, _, _, _, _, sm⟩
      exact SqL.of (sm _ _ hl1)
    · rintro i x σ H' H'' hi ⟨dn, rs, v5, v6, eb, ei, hrs, rfl, sm⟩ ⟨tp, y1, y2, rfl, nt, rfl, ey1, ey2⟩
      obtain rfl : V.int (i : Nat) = y1 := Option.some.inj ey1
      have ey2 : (bs.map V.int)[i]? = some y2 := ey2
      rw [List.length_map] at hi
      cases rs with
      | nil => rw [eb, List.append_nil] at hi; omega
      | cons c r =>
        have hc : y2 = V.int c := by
          rw [eb, List.map_append, List.getElem?_append_right (by simp [ei]), List.length_map, ei] at ey2
          simp at ey2
          exact ey2.symm
        subst hc
        obtain ⟨hc1, hc2⟩ := hrs
        have hc3 := hle c (by rw [eb]; simp)
        walk_at "ss"
        refine ⟨c, baseOf dn + 1, 1000, rfl, by omega, hc3, ?_⟩
        walk_at "ss"
        exact ⟨dn ++ [c], r, _, _, by rw [eb]; simp, by simp [ei], by rw [baseOf_snoc]; exact hc2, by rw [baseOf_snoc]; rfl, sm.trans (same_new nt)⟩
    · rintro σ H2 ⟨dn, rs, v5, v6, eb, ei, hrs, rfl, sm⟩
      have er : rs = [] := by
        have := congrArg List.length eb
        rw [List.length_append, ei, List.length_map] at this
        exact List.length_eq_zero_iff.mp (by omega)
      subst er
      rw [List.append_nil] at eb
      subst eb
      have sm0 := sm
      have hl2 := sm _ _ hl1
      have ha2 := sm _ _ ha1
      walk_at "ss"
      refine ⟨p, 1, 2000, rfl, hp1, hp2, ?_⟩
      walk_at "ss"
      intro t3 n3
      generalize e3 : upd H2 t3 _ = H3
      have s3 := upd_sm e3 n3
      have h3 := upd_at e3
      clear e3
      walk_at "ss"
      refine k_iL (SqL.of (s3 _ _ hl2)) ?_
      intro D nD
      refine k_lcList (bs.map V.int) (fun i H' => ∃ ys : List Str, ys.length = i ∧ (∀ y ∈ ys, y.length ≤ 5) ∧ H' D = some (.lst (ys.map V.str)) ∧ SameBut D H3 H') ⟨[], rfl, fun y hy => (by cases hy), upd_same, (SameBut.refl _ _).put⟩ ?_ ?_ ?_
      · rintro i H' _ ⟨ys, _, _, hD, sm⟩
        exact SqL.of (sm _ _ (ne_of_none (s3 _ _ hl2) nD) (s3 _ _ hl2))
      · rintro i x H' hx ⟨ys, ey, hy, hD, sm⟩
        have hm := List.mem_of_getElem? hx
        obtain ⟨z, hz, rfl⟩ := List.mem_map.mp hm
        have hi := (List.getElem?_eq_some_iff.mp hx).1
        rw [List.length_map] at hi
        have hz1 := hle z hz
        have hz0 := asc_lt hasc z hz
        refine k_gName ?_
        refine ⟨rfl, ?_⟩
        walk_at "ss"
        refine k_str1 (by omega) ?_
        refine ⟨_, hD, small_lt (by rw [List.length_map]; omega), ys ++ [Str.ofString (toString z)], by simp [ey], ?_, by rw [upd_same, List.map_append]; rfl, sm.put⟩
        intro y hy'
        rcases List.mem_append.mp hy' with h | h
        · exact hy y h
        · rw [List.mem_singleton] at h
          subst h
          exact len_text (k := 4) (by decide) (by omega)
      · rintro H4 ⟨ys, ey, hy, hD, sm⟩
        rw [List.length_map] at ey
        have h34 := sm _ _ (ne_of_none h3 nD) h3
        have ha4 := sm _ _ (ne_of_none (s3 _ _ ha2) nD) (s3 _ _ ha2)
        have hl4 := sm _ _ (ne_of_none (s3 _ _ hl2) nD) (s3 _ _ hl2)
        have sH4 : Same H H4 := fun b o h => sm b o (ne_of_none (s3 _ _ (sm0 _ _ (s1 _ _ h))) nD) (s3 _ _ (sm0 _ _ (s1 _ _ h)))
        refine k_addL h34 hD (by simp; omega) ?_
        intro t5 n5
        generalize e5 : upd H4 t5 _ = H5
        have s5 := upd_sm e5 n5
        have h5 := upd_at e5
        clear e5
        walk_at "ss"
        refine k_str1 (by omega) ?_
        walk_at "ss"
        intro t6 n6
        generalize e6 : upd H5 t6 _ = H6
        have s6 := upd_sm e6 n6
        have h6 := upd_at e6
        clear e6
        refine k_addL (s6 _ _ h5) h6 (by simp; omega) ?_
        intro t7 n7
        generalize e7 : upd H6 t7 _ = H7
        have s7 := upd_sm e7 n7
        have h7 := upd_at e7
        clear e7
        have s47 := (s5.trans s6).trans s7
        walk_at "ss"
        refine k_sup rfl (s47 _ _ ha4) T.su_Days fun q H8 nq e8 s8 hq => ?_
        walk_at "ss"
        have l1 : ("days" : Str).length = 4 := by decide +kernel
        have l2 : ("then" : Str).length = 4 := by decide +kernel
        have l3 : (" " : Str).length = 1 := by decide +kernel
        have l4 : (Str.ofString (toString p)).length ≤ 5 := len_text (k := 4) (by decide) (by omega)
        have q7 : H8 t7 = some (.lst ((daysW ys p).map V.str)) := by
          rw [s8 _ _ h7]
          unfold daysW
          simp only [List.map_append, List.map_cons, List.map_nil]
        have lz : ∀ y ∈ daysW ys p, y.length ≤ 5 := by
          intro y hy'
          unfold daysW at hy'
          simp only [List.mem_append, List.mem_cons, List.not_mem_nil, or_false] at hy'
          rcases hy' with (rfl | h) | rfl | rfl
          · omega
          · exact hy y h
          · omega
          · exact l4
        have ll : (daysW ys p).length ≤ 15 := by
          unfold daysW
          simp only [List.length_append, List.length_cons, List.length_nil]
          omega
        have lsum := sum_le lz
        have lj := txtJoin_len " " (daysW ys p)
        have lm1 : (daysW ys p).length * 5 ≤ 15 * 5 := Nat.mul_le_mul_right 5 ll
        rw [l3] at lj
        refine k_joinL (SqL.of q7) (by rw [l3]; omega) fun out eo => ?_
        walk_at "ss"
        refine ⟨hq, ?_⟩
        refine ⟨a, _, dx, _, 1, p, baseOf bs, rfl, .days, s8 _ _ (s47 _ _ ha4), ?_⟩
        walk_at "ss"
        refine k_putTop T.cl_Days T.no_Days_every rfl (by decide +kernel) (by decide) ?_
        walk_at "ss"
        have hl8 := s8 _ _ (s47 _ _ hl4)
        have nla : l ≠ a := ne_of hl8 (s8 _ _ (s47 _ _ ha4)) (by intro z; cases z)
        refine k_listL (SqL.of ((upd_ne nla).trans hl8)) ?_
        intro l2 n9
        have na9 : a ≠ l2 := fun z => by rw [← z, upd_same] at n9; cases n9
        walk_at "ss"
        refine k_putAt ((upd_ne na9).trans upd_same) T.cl_Days T.no_Days_borders rfl (by decide +kernel) (by decide) ?_
        refine k _ ?_ (.days upd_same ((upd_ne (Ne.symm na9)).trans upd_same) (by rw [eo]; omega) (fun z => ?_))
        · refine SameBut.put ?_
          intro b o nb hb
          rw [upd_ne, upd_ne nb]
          · exact s8 _ _ (s47 _ _ (sH4 _ _ hb))
          · intro z
            rw [← z, upd_ne nb, s8 _ _ (s47 _ _ (sH4 _ _ hb))] at n9
            cases n9
        · cases hb : H l2 with
          | none => exact hFH _ z hb
          | some o =>
            rw [upd_ne (Ne.symm na9), s8 _ _ (s47 _ _ (sH4 _ _ hb))] at n9
            cases n9
end

section
variable {w : World} {K : PySem.W.Frag} {mg : Str → Option Value} {base : Heap}
theorem RestAt.upBut {T : Tx K mg} {F : Addr → Prop} {H H' : Hp} {z C dx : Addr} (hz : H z = some (.ins C dx [])) (e : SameBut z H H') : ∀ {a : Addr} {p : Plan}, RestAt T F H a p → RestAt T F H' a p := by
  intro a p h
  induction h with
  | win h ht => exact .win (e _ _ (ne_of h hz (by intro q; cases q)) h) ht
  | days h hl ht hF => exact .days (e _ _ (ne_of h hz (by intro q; cases q)) h) (e _ _ (ne_of hl hz (by intro q; cases q)) hl) ht hF
  | op h h1 h2 ht i1 i2 => exact .op (e _ _ (ne_of h hz (by intro q; cases q)) h) i1 i2 ht
def spOpInit (T : Tx K mg) (o : Op) : Sp := fun vs H Q _ => ∃ (F : Addr → Prop) (a dx a1 a2 : Addr) (p q : Plan), vs = [.ref a, .ref a1, .ref a2] ∧ (Plan.op o p q).Ok ∧ H a = some (.ins (cOp T o) dx []) ∧ RestAt T F H a1 p ∧ RestAt T F H a2 q ∧ ∀ H', SameBut a H H' → RestAt T F H' a (.op o p q) → Q .non H'
theorem ok_Later_init (T : Tx K mg) : FnOk P w K mg base CX0 3 T.a_Later_init T.fd_Later_init P_Later_init (spOpInit T .later) := by
  obtain ⟨cl, cld, csl, hce⟩ := T.ce_Later_init
  refine T.F_Later_init.ok sc_Later_init hce T.b_Later_init (fun vs H Q E h => ?_) (fun A outer s H vs Q E hr h => ?_)
  · obtain ⟨F, a, dx, a1, a2, p, q, rfl, _⟩ := h
    rfl
  · obtain ⟨F, a, dx, a1, a2, p, q, rfl, ⟨op, oq, hf, hp⟩, ha, h1, h2, k⟩ := h
    have nd := sc_Later_init.nd
    have ha : H a = some (.ins T.C_Later dx []) := ha
    refine ⟨_, (psa_cons (pst_of (ps_asg (pe_call (ok_joined T) (hr.mono (by first | decide | omega)) g_Later_init_joined T.m_joined T.k_joined T.b_joined .nil pass0 (pa_cons pe_str (pa_cons (kv (i := 1) v_Later_init_first) (pa_cons (kv (i := 2) v_Later_init_second) pa_nil)))) (kpg_tup K 4 rfl (pgs_cons (kgL (i := 4) nd l_Later_init_text) (pgs_cons (kgL (i := 5) nd l_Later_init_forms) (pgs_cons (kgL (i := 6) nd l_Later_init_period) (pgs_cons (kgL (i := 7) nd l_Later_init_bend) pgs_nil)))))))
      (psa_cons (kpst_super K T.sd_Later_init rfl rfl g_Later_init_super fr_Later_init cc_look rfl (locB_ok l_Later_init_self) (by decide) (ok_Rest_init T) (hr.mono (by decide)) T.b_Rest_init .nil pass0 (pa_cons (kv (i := 4) v_Later_init_text) (pa_cons (kv (i := 5) v_Later_init_forms) (pa_cons (kv (i := 6) v_Later_init_period) (pa_cons (kv (i := 7) v_Later_init_bend) pa_nil)))))
      (psa_cons (pst_of (kps_fld K (kv (i := 0) v_Later_init_self) (kv (i := 1) v_Later_init_first)))
      (psa_one (pst_of (kps_fld K (kv (i := 0) v_Later_init_self) (kv (i := 2) v_Later_init_second))))))), ?_⟩
    walk_at "ss"
    refine ⟨F, _, a1, a2, .later, p, q, rfl, by decide +kernel, h1, h2, op, oq, hf, hp, fun t tx H1 htx s1 ht => ?_⟩
    walk_at "ss"
    refine k_sup rfl (s1 _ _ ha) T.su_Later fun qq H2 nq e2 s2 hq => ?_
    walk_at "ss"
    refine ⟨hq, ?_⟩
    refine ⟨a, _, dx, tx, _, _, _, rfl, .op .later, s2 _ _ (s1 _ _ ha), ?_⟩
    walk_at "ss"
    refine k_putTop T.cl_Later T.no_Later_first rfl (by decide +kernel) (by decide) ?_
    walk_at "ss"
    refine k_putTop T.cl_Later T.no_Later_second rfl (by decide +kernel) (by decide) ?_
    have sb : SameBut a H (upd H2 a (.ins T.C_Later dx (FL (n4 ++ [("first" : Str)] ++ [("second" : Str)]) ([V.str tx, .int ((Plan.op .later p q).forms : Nat), .int (Plan.op .later p q).period, .int (Plan.op .later p q).bend] ++ [V.ref a1] ++ [V.ref a2])))) := (SameBut.of (s1.trans s2)).put
    exact k _ sb (.op upd_same (h1.upBut ha sb) (h2.upBut ha sb) htx)
theorem ok_Sooner_init (T : Tx K mg) : FnOk P w K mg base CX0 3 T.a_Sooner_init T.fd_Sooner_init P_Sooner_init (spOpInit T .sooner) := by
  obtain ⟨cl, cld, csl, hce⟩ := T.ce_Sooner_init
  refine T.F_Sooner_init.ok sc_Sooner_init hce T.b_Sooner_init (fun vs H Q E h => ?_) (fun A outer s H vs Q E hr h => ?_)
  · obtain ⟨F, a, dx, a1, a2, p, q, rfl, _⟩ := h
    rfl
  · obtain ⟨F, a, dx, a1, a2, p, q, rfl, ⟨op, oq, hf, hp⟩, ha, h1, h2, k⟩ := h
    have nd := sc_Sooner_init.nd
    have ha : H a = some (.ins T.C_Sooner dx []) := ha
    refine ⟨_, (psa_cons (pst_of (ps_asg (pe_call (ok_joined T) (hr.mono (by first | decide | omega)) g_Sooner_init_joined T.m_joined T.k_joined T.b_joined .nil pass0 (pa_cons pe_str (pa_cons (kv (i := 1) v_Sooner_init_first) (pa_cons (kv (i := 2) v_Sooner_init_second) pa_nil)))) (kpg_tup K 4 rfl (pgs_cons (kgL (i := 4) nd l_Sooner_init_text) (pgs_cons (kgL (i := 5) nd l_Sooner_init_forms) (pgs_cons (kgL (i := 6) nd l_Sooner_init_period) (pgs_cons (kgL (i := 7) nd l_Sooner_init_bend) pgs_nil)))))))
      (psa_cons (kpst_super K T.sd_Sooner_init rfl rfl g_Sooner_init_super fr_Sooner_init cc_look rfl (locB_ok l_Sooner_init_self) (by decide) (ok_Rest_init T) (hr.mono (by decide)) T.b_Rest_init .nil pass0 (pa_cons (kv (i := 4) v_Sooner_init_text) (pa_cons (kv (i := 5) v_Sooner_init_forms) (pa_cons (kv (i := 6) v_Sooner_init_period) (pa_cons (kv (i := 7) v_Sooner_init_bend) pa_nil)))))
      (psa_cons (pst_of (kps_fld K (kv (i := 0) v_Sooner_init_self) (kv (i := 1) v_Sooner_init_first)))
      (psa_one (pst_of (kps_fld K (kv (i := 0) v_Sooner_init_self) (kv (i := 2) v_Sooner_init_second))))))), ?_⟩
    walk_at "ss"
    refine ⟨F, _, a1, a2, .sooner, p, q, rfl, by decide +kernel, h1, h2, op, oq, hf, hp, fun t tx H1 htx s1 ht => ?_⟩
    walk_at "ss"
    refine k_sup rfl (s1 _ _ ha) T.su_Sooner fun qq H2 nq e2 s2 hq => ?_
    walk_at "ss"
    refine ⟨hq, ?_⟩
    refine ⟨a, _, dx, tx, _, _, _, rfl, .op .sooner, s2 _ _ (s1 _ _ ha), ?_⟩
    walk_at "ss"
    refine k_putTop T.cl_Sooner T.no_Sooner_first rfl (by decide +kernel) (by decide) ?_
    walk_at "ss"
    refine k_putTop T.cl_Sooner T.no_Sooner_second rfl (by decide +kernel) (by decide) ?_
    have sb : SameBut a H (upd H2 a (.ins T.C_Sooner dx (FL (n4 ++ [("first" : Str)] ++ [("second" : Str)]) ([V.str tx, .int ((Plan.op .sooner p q).forms : Nat), .int (Plan.op .sooner p q).period, .int (Plan.op .sooner p q).bend] ++ [V.ref a1] ++ [V.ref a2])))) := (SameBut.of (s1.trans s2)).put
    exact k _ sb (.op upd_same (h1.upBut ha sb) (h2.upBut ha sb) htx)
theorem ok_Next_init (T : Tx K mg) : FnOk P w K mg base CX0 3 T.a_Next_init T.fd_Next_init P_Next_init (spOpInit T .next) := by
  obtain ⟨cl, cld, csl, hce⟩ := T.ce_Next_init
  refine T.F_Next_init.ok sc_Next_init hce T.b_Next_init (fun vs H Q E h => ?_) (fun A outer s H vs Q E hr h => ?_)
  · obtain ⟨F, a, dx, a1, a2, p, q, rfl, _⟩ := h
    rfl
  · obtain ⟨F, a, dx, a1, a2, p, q, rfl, ⟨op, oq, hf, hp⟩, ha, h1, h2, k⟩ := h
    have nd := sc_Next_init.nd
    have ha : H a = some (.ins T.C_Next dx []) := ha
    refine ⟨_, (psa_cons (pst_of (ps_asg (pe_call (ok_joined T) (hr.mono (by first | decide | omega)) g_Next_init_joined T.m_joined T.k_joined T.b_joined .nil pass0 (pa_cons pe_str (pa_cons (kv (i := 1) v_Next_init_first) (pa_cons (kv (i := 2) v_Next_init_second) pa_nil)))) (kpg_tup K 4 rfl (pgs_cons (kgL (i := 4) nd l_Next_init_text) (pgs_cons (kgL (i := 5) nd l_Next_init_forms) (pgs_cons (kgL (i := 6) nd l_Next_init_period) (pgs_cons (kgL (i := 7) nd l_Next_init_bend) pgs_nil)))))))
      (psa_cons (kpst_super K T.sd_Next_init rfl rfl g_Next_init_super fr_Next_init cc_look rfl (locB_ok l_Next_init_self) (by decide) (ok_Rest_init T) (hr.mono (by decide)) T.b_Rest_init .nil pass0 (pa_cons (kv (i := 4) v_Next_init_text) (pa_cons (kv (i := 5) v_Next_init_forms) (pa_cons (kv (i := 6) v_Next_init_period) (pa_cons (kv (i := 7) v_Next_init_bend) pa_nil)))))
      (psa_cons (pst_of (kps_fld K (kv (i := 0) v_Next_init_self) (kv (i := 1) v_Next_init_first)))
      (psa_one (pst_of (kps_fld K (kv (i := 0) v_Next_init_self) (kv (i := 2) v_Next_init_second))))))), ?_⟩
    walk_at "ss"
    refine ⟨F, _, a1, a2, .next, p, q, rfl, by decide +kernel, h1, h2, op, oq, hf, hp, fun t tx H1 htx s1 ht => ?_⟩
    walk_at "ss"
    refine k_sup rfl (s1 _ _ ha) T.su_Next fun qq H2 nq e2 s2 hq => ?_
    walk_at "ss"
    refine ⟨hq, ?_⟩
    refine ⟨a, _, dx, tx, _, _, _, rfl, .op .next, s2 _ _ (s1 _ _ ha), ?_⟩
    walk_at "ss"
    refine k_putTop T.cl_Next T.no_Next_first rfl (by decide +kernel) (by decide) ?_
    walk_at "ss"
    refine k_putTop T.cl_Next T.no_Next_second rfl (by decide +kernel) (by decide) ?_
    have sb : SameBut a H (upd H2 a (.ins T.C_Next dx (FL (n4 ++ [("first" : Str)] ++ [("second" : Str)]) ([V.str tx, .int ((Plan.op .next p q).forms : Nat), .int (Plan.op .next p q).period, .int (Plan.op .next p q).bend] ++ [V.ref a1] ++ [V.ref a2])))) := (SameBut.of (s1.trans s2)).put
    exact k _ sb (.op upd_same (h1.upBut ha sb) (h2.upBut ha sb) htx)
/-! ### the moments -/
def spAftW (T : Tx K mg) : Sp := fun vs H Q _ => ∃ F a t n, vs = [.ref a, .int t] ∧ RestAt T F H a (.win n) ∧ Q (.int ((Plan.win n).at t)) H
def spAftD (T : Tx K mg) : Sp := fun vs H Q _ => ∃ F a t bs p, vs = [.ref a, .int t] ∧ RestAt T F H a (.days bs p) ∧ (Plan.days bs p).Ok ∧ Q (.int ((Plan.days bs p).at t)) H
def spAftO (T : Tx K mg) (o : Op) (d : Nat) : Sp := fun vs H Q _ => ∃ F a t p q, vs = [.ref a, .int t] ∧ RestAt T F H a (.op o p q) ∧ p.Ok ∧ q.Ok ∧ p.forms ≤ d + 1 ∧ q.forms ≤ d + 1 ∧ Q (.int ((Plan.op o p q).at t)) H
inductive RA (T : Tx K mg) (d : Nat) : Addr → Sp → Prop where
  | win : RA T d T.C_Window (spAftW T)
  | days : RA T d T.C_Days (spAftD T)
  | op (o : Op) (d' : Nat) (h : d' < d) : RA T d (cOp T o) (spAftO T o d')
theorem ok_Window_after (T : Tx K mg) : FnOk P w K mg base CX0 1 T.a_Window_after T.fd_Window_after P_Window_after (spAftW T) := by
  refine T.F_Window_after.ok sc_Window_after (fun vs H Q E h => ?_) (fun cdv A outer s H vs Q E hr h => ?_)
  · obtain ⟨F, a, t, n, rfl, _⟩ := h
    rfl
  · obtain ⟨F, a, t, n, rfl, ha, k⟩ := h
    cases ha with
    | win h ht =>
      refine ⟨_, (pss_one (ps_ret (pe_op kop_add (kv (i := 1) v_Window_after_t) (kpe_fld K (kv (i := 0) v_Window_after_self))))), ?_⟩
      walk_at "ss"
      refine k_fldAt h T.cl_Window T.no_Window_width (i := 4) (by decide +kernel) rfl ?_
      walk_at "ss"
      exact k
theorem asc_base : ∀ {l : Int} {bs : List Int}, Asc l bs → ∀ b ∈ bs, b ≤ baseOf bs
  | _, [], _, b, hb => by cases hb
  | l, [c], _, b, hb => by
    rw [List.mem_singleton] at hb
    subst hb
    exact Int.le_refl _
  | l, c :: e :: r, h, b, hb => by
    obtain ⟨h1, h2⟩ := h
    have ih := asc_base h2
    have eb : baseOf (c :: e :: r) = baseOf (e :: r) := by simp [baseOf]
    rw [eb]
    rcases List.mem_cons.mp hb with rfl | hb
    · exact Int.le_trans (Int.le_of_lt h2.1) (ih e (List.mem_cons_self ..))
    · exact ih b hb
theorem find_take {bs : List Int} {i : Nat} {t c : Int} (h : ∀ b ∈ bs.take i, ¬ t < b) (hc : bs[i]? = some c) (hi : t < c) : bs.find? (fun b => decide (t < b)) = some c := by
  have e : bs = bs.take i ++ c :: bs.drop (i + 1) := by
    obtain ⟨hi', rfl⟩ := List.getElem?_eq_some_iff.mp hc
    rw [List.getElem_cons_drop, List.take_append_drop]
  rw [e, List.find?_append, List.find?_eq_none.mpr (by simpa using h)]
  simp [hi]
theorem take_step {bs : List Int} {i : Nat} {t c : Int} (h : ∀ b ∈ bs.take i, ¬ t < b) (hc : bs[i]? = some c) (hi : ¬ t < c) : ∀ b ∈ bs.take (i + 1), ¬ t < b := by
  intro b hb
  rw [List.take_add_one, hc, List.mem_append] at hb
  rcases hb with hb | hb
  · exact h b hb
  · simp at hb
    subst hb
    exact hi
theorem dayAt_none {bs : List Int} {p t : Int} (h : ∀ b ∈ bs, ¬ t < b) : dayAt bs p t = baseOf bs + ((t - baseOf bs) / p + 1) * p := by
  unfold dayAt
  rw [List.find?_eq_none.mpr (by simpa using h)]
theorem dayAt_some {bs : List Int} {p t c : Int} (h : bs.find? (fun b => decide (t < b)) = some c) : dayAt bs p t = c := by
  unfold dayAt
  rw [h]
theorem map_int_at {bs : List Int} {i : Nat} {x : V} (h : (bs.map V.int)[i]? = some x) : ∃ c, bs[i]? = some c ∧ x = .int c := by
  rw [List.getElem?_map] at h
  cases hb : bs[i]? with
  | none => rw [hb] at h; cases h
  | some c => rw [hb] at h; exact ⟨c, rfl, (Option.some.inj h).symm⟩
theorem ok_Days_after (T : Tx K mg) : FnOk P w K mg base CX0 1 T.a_Days_after T.fd_Days_after P_Days_after (spAftD T) := by
  refine T.F_Days_after.ok sc_Days_after (fun vs H Q E h => ?_) (fun cdv A outer s H vs Q E hr h => ?_)
  · obtain ⟨F, a, t, bs, p, rfl, _⟩ := h
    rfl
  · obtain ⟨F, a, t, bs, p, rfl, ha, ⟨hasc, hle, hlen, hp1, hp2⟩, k⟩ := h
    have nd := sc_Days_after.nd
    cases ha with
    | days h hl ht hF =>
      rename_i dx l tx
      have kn : (∀ b ∈ bs, ¬ t < b) → Q (.int (baseOf bs + ((t - baseOf bs) / p + 1) * p)) H := fun hn => by
        rw [← dayAt_none hn]
        exact k
      refine ⟨_, (pss_cons (ps_if (pt_cmpR op_lt (kv (i := 1) v_Days_after_t) (kpe_fld K (kv (i := 0) v_Days_after_self)) (nomark _)) (pss_one (ps_for PassesOwn.never rfl (kpi_list K (kpe_fld K (kv (i := 0) v_Days_after_self))) (kgL (i := 2) nd l_Days_after_border) (pss_one (ps_if (pt_cmpR op_gt (kv (i := 2) v_Days_after_border) (kv (i := 1) v_Days_after_t) (nomark _)) (pss_one (ps_ret (kv (i := 2) v_Days_after_border))) pss_nil)))) pss_nil)
      (pss_one (ps_ret (pe_op kop_add (kpe_fld K (kv (i := 0) v_Days_after_self)) (pe_op op_mul (pe_op kop_add (pe_op op_fdiv (pe_op op_sub (kv (i := 1) v_Days_after_t) (kpe_fld K (kv (i := 0) v_Days_after_self))) (kpe_fld K (kv (i := 0) v_Days_after_self))) pe_int) (kpe_fld K (kv (i := 0) v_Days_after_self))))))), ?_⟩
      walk_at "ss"
      refine k_fldAt h T.cl_Days T.no_Days_bend (i := 3) (by decide +kernel) rfl ?_
      walk_at "ss"
      refine k_d (fun hb => ?_) (fun hb => ?_)
      · walk_at "ss"
        refine k_fldAt h T.cl_Days T.no_Days_borders (i := 5) (by decide +kernel) rfl ?_
        refine k_iL (SqL.of hl) ?_
        refine k_forList (bs.map V.int) (fun i σ H' => H' = H ∧ (∃ v, σ = [some (V.ref a), some (V.int t), v]) ∧ ∀ b ∈ bs.take i, ¬ t < b) ⟨rfl, ⟨none, rfl⟩, fun b hb => (by cases hb)⟩ ?_ ?_ ?_
        · rintro i σ _ _ ⟨rfl, _, _⟩
          exact SqL.of hl
        · rintro i x σ _ hx ⟨rfl, ⟨v, rfl⟩, hn⟩
          obtain ⟨c, hc, rfl⟩ := map_int_at hx
          walk_at "ss"
          refine k_d (fun h1 => ?_) (fun h1 => ?_)
          · walk_at "ss"
            have e := dayAt_some (p := p) (find_take hn hc h1)
            rw [← e]
            exact k
          · walk_at "ss"
            exact ⟨rfl, ⟨_, rfl⟩, take_step hn hc h1⟩
        · rintro σ _ ⟨rfl, ⟨v, rfl⟩, hn⟩
          rw [List.length_map, List.take_length] at hn
          walk_at "ss"
          refine k_fldAt h T.cl_Days T.no_Days_bend (i := 3) (by decide +kernel) rfl ?_
          walk_at "ss"
          refine k_fldAt h T.cl_Days T.no_Days_bend (i := 3) (by decide +kernel) rfl ?_
          walk_at "ss"
          refine k_fldAt h T.cl_Days T.no_Days_every (i := 4) (by decide +kernel) rfl ?_
          walk_at "ss"
          refine k_fldAt h T.cl_Days T.no_Days_every (i := 4) (by decide +kernel) rfl ?_
          refine k_I (.inr ⟨by omega, by omega⟩) ?_
          exact kn hn
      · walk_at "ss"
        refine k_fldAt h T.cl_Days T.no_Days_bend (i := 3) (by decide +kernel) rfl ?_
        walk_at "ss"
        refine k_fldAt h T.cl_Days T.no_Days_bend (i := 3) (by decide +kernel) rfl ?_
        walk_at "ss"
        refine k_fldAt h T.cl_Days T.no_Days_every (i := 4) (by decide +kernel) rfl ?_
        walk_at "ss"
        refine k_fldAt h T.cl_Days T.no_Days_every (i := 4) (by decide +kernel) rfl ?_
        refine k_I (.inr ⟨by omega, by omega⟩) ?_
        refine kn fun b hb' => ?_
        have := asc_base hasc b hb'
        omega
abbrev DispRA (w : World) (base : Heap) (T : Tx K mg) (d : Nat) : Prop := ∀ C sp, RA T d C sp → ∃ g fd ps, Cls K C ∧ Meth K C "_after" g ∧ FnOk P w K mg base CX0 (d + 1) g fd ps sp ∧ Binds K fd ps []
theorem k_meth {R : Addr → Sp → Prop} {m : Str} {E : XK} {ta : TE} {t : TA} {σ : L2.St} {H : Hp} {Q : VK} (h : ta σ H fun x H1 => ∃ a C dx fs sp, x = V.ref a ∧ H1 a = some (.ins C dx fs) ∧ R C sp ∧ fs.lookup m = none ∧ t σ H1 fun vs H2 => sp (x :: vs) H2 Q E) : tMethP R m E ta t σ H Q := h
/-- one method call on a rest, its forms at most d + 1 -/
theorem rest_after {T : Tx K mg} {F : Addr → Prop} {d : Nat} {H : Hp} {a : Addr} {p : Plan} (ha : RestAt T F H a p) (ok : p.Ok) (hd : p.forms ≤ d + 1) : ∃ C dx fs sp, H a = some (.ins C dx fs) ∧ RA T d C sp ∧ fs.lookup ("_after" : Str) = none ∧ ∀ (t : Int) (H' : Hp) (Q : VK) (E : XK), Same H H' → Q (.int (p.at t)) H' → sp [.ref a, .int t] H' Q E := by
  have g : ∃ C dx ns vs, (ns = nW1 ∨ ns = nD1 ∨ ns = nO1) ∧ H a = some (.ins C dx (FL (n4 ++ ns) vs)) := by
    obtain ⟨C, dx, ns, vs, tx, hC, hn, _, he⟩ := ha.four
    exact ⟨C, dx, ns, _, hn, he⟩
  obtain ⟨C, dx, ns, vs, hn, he⟩ := g
  have nm := no_meth (vs := vs) (m := "_after") (by decide +kernel) (by decide +kernel) hn
  refine ⟨C, dx, FL (n4 ++ ns) vs, ?_⟩
  cases ha with
  | win h ht =>
    obtain rfl : C = T.C_Window := (HO.ins.inj (Option.some.inj (he.symm.trans h))).1
    exact ⟨_, he, .win, nm, fun t H' Q E sm k => ⟨F, a, t, _, rfl, .win (sm _ _ h) ht, k⟩⟩
  | days h hl ht hF =>
    obtain rfl : C = T.C_Days := (HO.ins.inj (Option.some.inj (he.symm.trans h))).1
    exact ⟨_, he, .days, nm, fun t H' Q E sm k => ⟨F, a, t, _, _, rfl, .days (sm _ _ h) (sm _ _ hl) ht hF, ok, k⟩⟩
  | op h h1 h2 ht =>
    rename_i dx' a1 a2 tx o p q
    obtain rfl : C = cOp T o := (HO.ins.inj (Option.some.inj (he.symm.trans h))).1
    obtain ⟨o1, o2, _, _⟩ := ok
    have f1 := p.forms_pos
    have f2 := q.forms_pos
    have hd : 1 + p.forms + q.forms ≤ d + 1 := hd
    exact ⟨_, he, .op o (d - 1) (by omega), nm, fun t H' Q E sm k => ⟨F, a, t, p, q, rfl, .op (sm _ _ h) (h1.up sm) (h2.up sm) ht, o1, o2, by omega, by omega, k⟩⟩
theorem ok_Later_after (T : Tx K mg) (d : Nat) (dA : DispRA w base T d) : FnOk P w K mg base CX0 (d + 2) T.a_Later_after T.fd_Later_after P_Later_after (spAftO T .later d) := by
  refine T.F_Later_after.ok sc_Later_after (fun vs H Q E h => ?_) (fun cdv A outer s H vs Q E hr h => ?_)
  · obtain ⟨F, a, t, p, q, rfl, _⟩ := h
    rfl
  · obtain ⟨F, a, t, p, q, rfl, ha, op, oq, fp, fq, k⟩ := h
    cases ha with
    | op h h1 h2 ht =>
      rename_i dx a1 a2 tx
      obtain ⟨C1, dx1, fs1, sp1, e1, r1, l1, g1⟩ := rest_after h1 op fp
      obtain ⟨C2, dx2, fs2, sp2, e2, r2, l2, g2⟩ := rest_after h2 oq fq
      refine ⟨_, (pss_one (ps_ret (kcB b_max (by decide) (by decide) (kc_max2 rfl) g_Later_after_max T.n_max (pa_cons (kpe_methP dA (hr.mono (by omega)) pass0 (kpe_fld K (kv (i := 0) v_Later_after_self)) (pa_cons (kv (i := 1) v_Later_after_t) pa_nil)) (pa_cons (kpe_methP dA (hr.mono (by omega)) pass0 (kpe_fld K (kv (i := 0) v_Later_after_self)) (pa_cons (kv (i := 1) v_Later_after_t) pa_nil)) pa_nil))))), ?_⟩
      walk_at "ss"
      refine k_meth ?_
      walk_at "ss"
      refine k_fldAt h T.cl_Later T.no_Later_first (i := 4) (by decide +kernel) rfl ?_
      refine ⟨a1, C1, dx1, fs1, sp1, rfl, e1, r1, l1, ?_⟩
      walk_at "ss"
      refine g1 _ _ _ _ (Same.refl _) ?_
      walk_at "ss"
      refine k_meth ?_
      walk_at "ss"
      refine k_fldAt h T.cl_Later T.no_Later_second (i := 5) (by decide +kernel) rfl ?_
      refine ⟨a2, C2, dx2, fs2, sp2, rfl, e2, r2, l2, ?_⟩
      walk_at "ss"
      refine g2 _ _ _ _ (Same.refl _) ?_
      walk_at "ss"
      exact k
theorem ok_Sooner_after (T : Tx K mg) (d : Nat) (dA : DispRA w base T d) : FnOk P w K mg base CX0 (d + 2) T.a_Sooner_after T.fd_Sooner_after P_Sooner_after (spAftO T .sooner d) := by
  refine T.F_Sooner_after.ok sc_Sooner_after (fun vs H Q E h => ?_) (fun cdv A outer s H vs Q E hr h => ?_)
  · obtain ⟨F, a, t, p, q, rfl, _⟩ := h
    rfl
  · obtain ⟨F, a, t, p, q, rfl, ha, op, oq, fp, fq, k⟩ := h
    cases ha with
    | op h h1 h2 ht =>
      rename_i dx a1 a2 tx
      obtain ⟨C1, dx1, fs1, sp1, e1, r1, l1, g1⟩ := rest_after h1 op fp
      obtain ⟨C2, dx2, fs2, sp2, e2, r2, l2, g2⟩ := rest_after h2 oq fq
      refine ⟨_, (pss_one (ps_ret (kcB b_min (by decide) (by decide) (kc_min2 rfl) g_Sooner_after_min T.n_min (pa_cons (kpe_methP dA (hr.mono (by omega)) pass0 (kpe_fld K (kv (i := 0) v_Sooner_after_self)) (pa_cons (kv (i := 1) v_Sooner_after_t) pa_nil)) (pa_cons (kpe_methP dA (hr.mono (by omega)) pass0 (kpe_fld K (kv (i := 0) v_Sooner_after_self)) (pa_cons (kv (i := 1) v_Sooner_after_t) pa_nil)) pa_nil))))), ?_⟩
      walk_at "ss"
      refine k_meth ?_
      walk_at "ss"
      refine k_fldAt h T.cl_Sooner T.no_Sooner_first (i := 4) (by decide +kernel) rfl ?_
      refine ⟨a1, C1, dx1, fs1, sp1, rfl, e1, r1, l1, ?_⟩
      walk_at "ss"
      refine g1 _ _ _ _ (Same.refl _) ?_
      walk_at "ss"
      refine k_meth ?_
      walk_at "ss"
      refine k_fldAt h T.cl_Sooner T.no_Sooner_second (i := 5) (by decide +kernel) rfl ?_
      refine ⟨a2, C2, dx2, fs2, sp2, rfl, e2, r2, l2, ?_⟩
      walk_at "ss"
      refine g2 _ _ _ _ (Same.refl _) ?_
      walk_at "ss"
      exact k
theorem ok_Next_after (T : Tx K mg) (d : Nat) (dA : DispRA w base T d) : FnOk P w K mg base CX0 (d + 2) T.a_Next_after T.fd_Next_after P_Next_after (spAftO T .next d) := by
  refine T.F_Next_after.ok sc_Next_after (fun vs H Q E h => ?_) (fun cdv A outer s H vs Q E hr h => ?_)
  · obtain ⟨F, a, t, p, q, rfl, _⟩ := h
    rfl
  · obtain ⟨F, a, t, p, q, rfl, ha, op, oq, fp, fq, k⟩ := h
    cases ha with
    | op h h1 h2 ht =>
      rename_i dx a1 a2 tx
      obtain ⟨C1, dx1, fs1, sp1, e1, r1, l1, g1⟩ := rest_after h1 op fp
      obtain ⟨C2, dx2, fs2, sp2, e2, r2, l2, g2⟩ := rest_after h2 oq fq
      refine ⟨_, (pss_one (ps_ret (kpe_methP dA (hr.mono (by omega)) pass0 (kpe_fld K (kv (i := 0) v_Next_after_self)) (pa_cons (kpe_methP dA (hr.mono (by omega)) pass0 (kpe_fld K (kv (i := 0) v_Next_after_self)) (pa_cons (kv (i := 1) v_Next_after_t) pa_nil)) pa_nil)))), ?_⟩
      walk_at "ss"
      refine k_meth ?_
      walk_at "ss"
      refine k_fldAt h T.cl_Next T.no_Next_second (i := 5) (by decide +kernel) rfl ?_
      refine ⟨a2, C2, dx2, fs2, sp2, rfl, e2, r2, l2, ?_⟩
      walk_at "ss"
      refine k_meth ?_
      walk_at "ss"
      refine k_fldAt h T.cl_Next T.no_Next_first (i := 4) (by decide +kernel) rfl ?_
      refine ⟨a1, C1, dx1, fs1, sp1, rfl, e1, r1, l1, ?_⟩
      walk_at "ss"
      refine g1 _ _ _ _ (Same.refl _) ?_
      walk_at "ss"
      refine g2 _ _ _ _ (Same.refl _) ?_
      exact k
theorem disp_after (T : Tx K mg) : ∀ d, DispRA w base T d := by
  intro d
  induction d using Nat.strongRecOn with
  | _ d ih =>
    intro C sp hC
    cases hC with
    | win => exact ⟨_, _, _, T.cl_Window, T.me_Window_after, (ok_Window_after T).mono (by omega), T.b_Window_after⟩
    | days => exact ⟨_, _, _, T.cl_Days, T.me_Days_after, (ok_Days_after T).mono (by omega), T.b_Days_after⟩
    | op o d' h =>
      cases o with
      | later => exact ⟨_, _, _, T.cl_Later, T.me_Later_after, (ok_Later_after T d' (ih d' h)).mono (by omega), T.b_Later_after⟩
      | sooner => exact ⟨_, _, _, T.cl_Sooner, T.me_Sooner_after, (ok_Sooner_after T d' (ih d' h)).mono (by omega), T.b_Sooner_after⟩
      | next => exact ⟨_, _, _, T.cl_Next, T.me_Next_after, (ok_Next_after T d' (ih d' h)).mono (by omega), T.b_Next_after⟩
def spCall (T : Tx K mg) : Sp := fun vs H Q _ => ∃ F a t p, vs = [.ref a, .int t] ∧ RestAt T F H a p ∧ p.Ok ∧ Q (.int (p.at t)) H
theorem forms_le {p : Plan} (h : p.Ok) : p.forms ≤ 6 := by
  cases p with
  | win => exact (by decide : 1 ≤ 6)
  | days => exact (by decide : 1 ≤ 6)
  | op o a b => exact h.2.2.1
theorem ok_Rest_call (T : Tx K mg) : FnOk P w K mg base CX0 7 T.a_Rest_call T.fd_Rest_call P_Rest_call (spCall T) := by
  refine T.F_Rest_call.ok sc_Rest_call (fun vs H Q E h => ?_) (fun cdv A outer s H vs Q E hr h => ?_)
  · obtain ⟨F, a, t, p, rfl, _⟩ := h
    rfl
  · obtain ⟨F, a, t, p, rfl, ha, op, k⟩ := h
    obtain ⟨C1, dx1, fs1, sp1, e1, r1, l1, g1⟩ := rest_after ha op (forms_le op)
    refine ⟨_, (pss_one (ps_ret (kpe_methP (disp_after T 5) (hr.mono (by decide)) pass0 (kv (i := 0) v_Rest_call_self) (pa_cons (kv (i := 1) v_Rest_call_t) pa_nil)))), ?_⟩
    walk_at "ss"
    refine k_meth ?_
    walk_at "ss"
    refine ⟨a, C1, dx1, fs1, sp1, rfl, e1, r1, l1, ?_⟩
    walk_at "ss"
    refine g1 _ _ _ _ (Same.refl _) ?_
    exact k
theorem disp_call (T : Tx K mg) : ∀ C sp, OneSp T (spCall T) C sp → ∃ g fd ps, StX.CallO K C g ∧ FnOk P w K mg base CX0 7 g fd ps sp ∧ Binds K fd ps [] := by
  rintro C sp ⟨hC, rfl⟩
  refine ⟨_, _, _, ?_, ok_Rest_call T, T.b_Rest_call⟩
  cases hC with
  | win => exact T.co_Window
  | days => exact T.co_Days
  | op o => cases o <;> first | exact T.co_Later | exact T.co_Sooner | exact T.co_Next
theorem k_thing {R : Addr → Sp → Prop} {E : XK} {tf : TE} {t : TA} {σ : L2.St} {H : Hp} {Q : VK} (h : tf σ H fun y H1 => ∃ a C sp, y = V.ref a ∧ R C sp ∧ t σ H1 fun vs H2 => (∃ dx fs, H2 a = some (.ins C dx fs)) ∧ sp (V.ref a :: vs) H2 Q E) : tCallP R E tf t σ H Q := h
theorem rest_call {T : Tx K mg} {F : Addr → Prop} {H : Hp} {a : Addr} {p : Plan} (ha : RestAt T F H a p) (ok : p.Ok) : ∃ C, OneSp T (spCall T) C (spCall T) ∧ ∀ (t : Int) (H' : Hp) (Q : VK) (E : XK), Same H H' → Q (.int (p.at t)) H' → (∃ dx fs, H' a = some (.ins C dx fs)) ∧ spCall T [.ref a, .int t] H' Q E := by
  obtain ⟨C, dx, ns, vs, tx, hC, _, _, he⟩ := ha.four
  exact ⟨C, ⟨hC, rfl⟩, fun t H' Q E sm k => ⟨⟨_, _, sm _ _ he⟩, F, a, t, p, rfl, ha.up sm, ok, k⟩⟩
end

section
variable {w : World} {K : PySem.W.Frag} {mg : Str → Option Value} {base : Heap}
/-! ### the law's own common multiple -/
def spLcm : Sp := fun vs H Q _ => ∃ a b : Int, vs = [.int a, .int b] ∧ 0 < a ∧ 0 < b ∧ a < 2 ^ 40 ∧ b < 2 ^ 40 ∧ (a < 2 ^ 29 ∨ b < 2 ^ 29) ∧ Q (.int (lcmI a b)) H
theorem ok_llcm (T : Tx K mg) : FnOk P w K mg base CX0 1 T.a_llcm T.fd_llcm P_llcm spLcm := by
  refine T.F_llcm.ok sc_llcm (fun vs H Q E h => ?_) (fun cdv A outer s H vs Q E hr h => ?_)
  · obtain ⟨i, j, rfl, _⟩ := h
    rfl
  · obtain ⟨a, b, rfl, ha, hb, ha1, hb1, hab, k⟩ := h
    have nd := sc_llcm.nd
    refine ⟨_, (pss_cons (ps_par (i := 2) (j := 3) rfl nd rfl rfl (by decide) (locB_ok l_llcm_law_one) (locB_ok l_llcm_law_two) (pa_cons (kv (i := 0) v_llcm_law_a) (pa_cons (kv (i := 1) v_llcm_law_b) pa_nil)) (by rfl))
      (pss_cons (ps_while PassesOwn.never (pt_cmpR op_gt (kv (i := 3) v_llcm_law_two) pe_int (nomark _)) (pss_one (ps_par (i := 2) (j := 3) rfl nd rfl rfl (by decide) (locB_ok l_llcm_law_one) (locB_ok l_llcm_law_two) (pa_cons (kv (i := 3) v_llcm_law_two) (pa_cons (pe_op op_mod (kcT b_int (by decide) (by decide) kc_int g_llcm_int T.n_int (pa_cons (kv (i := 2) v_llcm_law_one) pa_nil)) (kv (i := 3) v_llcm_law_two)) pa_nil)) (by rfl))))
      (pss_one (ps_ret (pe_op op_mul (pe_op op_fdiv (kv (i := 0) v_llcm_law_a) (kv (i := 2) v_llcm_law_one)) (kv (i := 1) v_llcm_law_b)))))), ?_⟩
    walk_at "ss"
    refine k_while (fun m σ H' => H' = H ∧ ∃ x y : Int, σ = [some (.int a), some (.int b), some (.int x), some (.int y)] ∧ 0 < x ∧ 0 ≤ y ∧ Nat.gcd x.natAbs y.natAbs = Nat.gcd a.natAbs b.natAbs ∧ m = y.toNat) b.toNat ⟨rfl, a, b, rfl, ha, by omega, rfl, rfl⟩ ?_
    rintro m σ H1 ⟨rfl, x, y, rfl, hx, hy, hg, rfl⟩
    walk_at "ss"
    refine k_d (fun h0 => ?_) (fun h0 => ?_)
    · refine ⟨fun σ' H' => H' = H1 ∧ σ' = [some (.int a), some (.int b), some (.int y), some (.int (x % y))], ?_, ?_⟩
      · rintro σ' H' ⟨rfl, rfl⟩
        have q := mod_bd (x := x) h0
        refine ⟨(x % y).toNat, by omega, rfl, y, x % y, rfl, h0, q.1, ?_, rfl⟩
        rw [← hg]
        obtain ⟨n, rfl⟩ := Int.eq_ofNat_of_zero_le (Int.le_of_lt hx)
        obtain ⟨j, rfl⟩ := Int.eq_ofNat_of_zero_le hy
        rw [← Int.natCast_emod, Int.natAbs_natCast, Int.natAbs_natCast, Int.natAbs_natCast, Nat.gcd_comm j, ← Nat.gcd_rec, Nat.gcd_comm]
      · refine k_par ?_
        walk_at "ss"
        exact ⟨rfl, rfl⟩
    · obtain rfl : y = 0 := by omega
      have hxl : x ≤ a ∧ x ≤ b := by
        have e1 : x.natAbs = Nat.gcd a.natAbs b.natAbs := by simpa using hg
        have e2 : x.natAbs ≤ a.natAbs := by rw [e1]; exact Nat.gcd_le_left _ (by omega)
        have e3 : x.natAbs ≤ b.natAbs := by rw [e1]; exact Nat.gcd_le_right _ (by omega)
        omega
      have hx2 : x < 1073741824 := by omega
      walk_at "ss"
      have e : a / x * b = lcmI a b := by
        obtain ⟨n, rfl⟩ := Int.eq_ofNat_of_zero_le (Int.le_of_lt ha)
        obtain ⟨j, rfl⟩ := Int.eq_ofNat_of_zero_le (Int.le_of_lt hb)
        obtain ⟨g, rfl⟩ := Int.eq_ofNat_of_zero_le (Int.le_of_lt hx)
        have hg' : g = Nat.gcd n j := by simpa using hg
        unfold lcmI
        rw [Int.natAbs_natCast, Int.natAbs_natCast, hg', ← Int.natCast_ediv, ← Int.natCast_mul]
        congr 1
        rw [Nat.lcm, Nat.div_mul_right_comm (Nat.gcd_dvd_left n j)]
      show Q (V.int (a / x * b)) H1
      rw [e]
      exact k
end

/-! ### plans on the heap -/
def opS : Op → Str
  | .later => "later"
  | .sooner => "sooner"
  | .next => "next"
inductive PlanAt (H : Hp) : Addr → Plan → Prop where
  | win {a : Addr} {w : Int} (h : H a = some (.tup [.str "window", .int w])) : PlanAt H a (.win w)
  | days {a e : Addr} {bs : List Int} {p : Int} (h : H a = some (.tup [.str "days", .ref e, .int p])) (he : H e = some (.tup (bs.map V.int))) : PlanAt H a (.days bs p)
  | op {a a1 a2 : Addr} {o : Op} {p q : Plan} (h : H a = some (.tup [.str (opS o), .ref a1, .ref a2])) (h1 : PlanAt H a1 p) (h2 : PlanAt H a2 q) : PlanAt H a (.op o p q)
theorem PlanAt.upB {H H' : Hp} {B : Addr} {xs : List V} (hB : H B = some (.lst xs)) (e : SameBut B H H') : ∀ {a : Addr} {p : Plan}, PlanAt H a p → PlanAt H' a p := by
  intro a p h
  induction h with
  | win h => exact .win (e _ _ (ne_of h hB (by intro q; cases q)) h)
  | days h he => exact .days (e _ _ (ne_of h hB (by intro q; cases q)) h) (e _ _ (ne_of he hB (by intro q; cases q)) he)
  | op h h1 h2 i1 i2 => exact .op (e _ _ (ne_of h hB (by intro q; cases q)) h) i1 i2
theorem PlanAt.up {H H' : Hp} (e : Same H H') : ∀ {a : Addr} {p : Plan}, PlanAt H a p → PlanAt H' a p := by
  intro a p h
  induction h with
  | win h => exact .win (e _ _ h)
  | days h he => exact .days (e _ _ h) (e _ _ he)
  | op h h1 h2 i1 i2 => exact .op (e _ _ h) i1 i2
theorem same_put {G G' : Hp} {L : Addr} {o : HO} (h : Same G G') (n : G L = none) : Same G (upd G' L o) := fun a u e => by
  rw [upd_ne (ne_of_none e n)]
  exact h _ _ e
theorem asc_snoc : ∀ {l c : Int} {bs : List Int}, Asc l bs → bs.getLast?.getD l < c → Asc l (bs ++ [c])
  | _, _, [], _, h => ⟨h, trivial⟩
  | l, c, [x], h, hc => ⟨h.1, hc, trivial⟩
  | l, c, x :: y :: r, h, hc => ⟨h.1, asc_snoc h.2 (by
      rw [List.getLast?_cons_cons] at hc
      cases hz : (y :: r).getLast? with
      | none => simp at hz
      | some z => rw [hz] at hc; exact hc)⟩
theorem new_facts {G G' : Hp} {b t : Addr} {o β : HO} (hb : G b = none) (n : upd G b β t = none) (e : upd G t o = G') : G' b = none ∧ Same G G' ∧ G' t = some o ∧ t ≠ b ∧ G t = none := by
  obtain ⟨h1, h2⟩ := up_none n
  subst e
  exact ⟨by rw [upd_ne (Ne.symm h2)]; exact hb, same_new h1, upd_same, h2, h1⟩
theorem k_ifI {c : Prop} [Decidable c] {i j : Int} {n : Nat} {σ : L2.St} {H : Hp} {Q : VK} (h2 : σ[n]? = some (some (.int j))) (h : Q (.int (if c then i else j)) H) : if decide c = true then tC (.int i) σ H Q else tVar n σ H Q := by
  by_cases e : c
  · rw [if_pos e] at h
    rw [decide_eq_true e]
    exact k_t h
  · rw [if_neg e] at h
    rw [decide_eq_false e]
    exact k_f ⟨_, h2, h⟩
theorem k_bm {K : PySem.W.Frag} {T : String} {r : V → List V → Hp → VK → Prop} {to : TE} {t : TA} {σ : L2.St} {H : Hp} {Q : VK} (h : to σ H fun x H1 => tyV K T x H1 ∧ t σ H1 fun xs H2 => r x xs H2 Q) : tBM K T r to t σ H Q := h
theorem k_app {l : Addr} {xs : List V} {y : V} {H : Hp} {Q : VK} (h : H l = some (.lst xs)) (hz : xs.length < 1000) (k : Q .non (upd H l (.lst (xs ++ [y])))) : rAppend (.ref l) [y] H Q := ⟨l, xs, y, rfl, rfl, h, small_lt (by omega), k⟩
theorem lcmI_one (a : Int) (h : 0 < a) : lcmI a 1 = a := by
  obtain ⟨n, rfl⟩ := Int.eq_ofNat_of_zero_le (Int.le_of_lt h)
  simp [lcmI]
theorem lcmI_self (a : Int) (h : 0 < a) : lcmI a a = a := by
  obtain ⟨n, rfl⟩ := Int.eq_ofNat_of_zero_le (Int.le_of_lt h)
  simp [lcmI]
theorem lcmI_pos {a b : Int} (h : 0 < a) (h' : 0 < b) : 0 < lcmI a b := by
  have : 0 < Nat.lcm a.natAbs b.natAbs := Nat.lcm_pos (by omega) (by omega)
  unfold lcmI
  omega
theorem dvd_lcmI_left (a b : Int) : a ∣ lcmI a b := by
  unfold lcmI
  exact Int.natAbs_dvd.mp (Int.natCast_dvd_natCast.mpr (Nat.dvd_lcm_left _ _))
theorem dvd_lcmI_right (a b : Int) : b ∣ lcmI a b := by
  unfold lcmI
  exact Int.natAbs_dvd.mp (Int.natCast_dvd_natCast.mpr (Nat.dvd_lcm_right _ _))
theorem lcmI_dvd {a b c : Int} (h1 : a ∣ c) (h2 : b ∣ c) : lcmI a b ∣ c := by
  unfold lcmI
  refine Int.dvd_natAbs.mp (Int.natCast_dvd_natCast.mpr (Nat.lcm_dvd ?_ ?_))
  · exact Int.natAbs_dvd_natAbs.mpr h1
  · exact Int.natAbs_dvd_natAbs.mpr h2
section
variable {w : World} {K : PySem.W.Frag} {mg : Str → Option Value} {base : Heap}
def spLeaf (K : PySem.W.Frag) : Sp := fun vs H Q _ => ∃ (G0 G : Hp) (b : Addr) (β : HO) (wide : Int) (B : Addr) (x hi : Int), vs = [.ref b, .int wide, .ref B] ∧ H = upd G b β ∧ Bag K G0 G b β ∧ G0 B = none ∧ G B = some (.lst [.int x, .int hi]) ∧
  1 ≤ wide ∧ wide ≤ 1000 ∧ 1 ≤ x ∧ x ≤ hi ∧ hi ≤ 2000 ∧ ∀ (a : Addr) (p : Plan) (G' : Hp) (β' : HO) (x' : Int), SameBut B G G' → G' B = some (.lst [.int x', .int hi]) → Bag K G0 G' b β' → PlanAt G' a p → p.Ok → p.forms = 1 → x ∣ x' → p.period ∣ x' → 1 ≤ x' → x' ≤ hi → Q (.ref a) (upd G' b β')
theorem ok_leaf (T : Tx K mg) : FnOk P w K mg base CX0 3 T.a_leaf T.fd_leaf P_leaf (spLeaf K) := by
  refine T.F_leaf.ok sc_leaf (fun vs H Q E h => ?_) (fun cdv A outer s H vs Q E hr h => ?_)
  · obtain ⟨G0, G, b, β, wide, B, x, hi, rfl, _⟩ := h
    rfl
  · obtain ⟨G0, G, b, β, wide, B, x, hi, rfl, rfl, hb, hB0, hB, hw0, hw1, hx0, hx1, hh, k⟩ := h
    have nd := sc_leaf.nd
    refine ⟨_, (pss_cons (ps_if (pt_cmpR op_eq (pe_call (ok_draw T) (hr.mono (by first | decide | omega)) g_leaf_law_draw T.m_draw T.k_draw T.b_draw .nil pass0 (pa_cons (kv (i := 0) v_leaf_law_bag_here) (pa_cons pe_int pa_nil))) pe_int (nomark _)) (pss_one (ps_ret (pe_tup (pa_cons pe_str (pa_cons (pe_op kop_add pe_int (pe_call (ok_draw T) (hr.mono (by first | decide | omega)) g_leaf_law_draw T.m_draw T.k_draw T.b_draw .nil pass0 (pa_cons (kv (i := 0) v_leaf_law_bag_here) (pa_cons (kv (i := 1) v_leaf_law_wide) pa_nil)))) pa_nil))))) pss_nil)
      (pss_cons (ks_setL (i := 3) nd l_leaf_law_gap (pe_op kop_add pe_int (pe_call (ok_draw T) (hr.mono (by first | decide | omega)) g_leaf_law_draw T.m_draw T.k_draw T.b_draw .nil pass0 (pa_cons (kv (i := 0) v_leaf_law_bag_here) (pa_cons (pe_ifExp (pt_cmpR op_gt (kv (i := 1) v_leaf_law_wide) pe_int (nomark _)) pe_int (kv (i := 1) v_leaf_law_wide)) pa_nil)))))
      (kss_meet (ps_if (pt_cmpR op_gt (pe_call (ok_llcm T) (hr.mono (by first | decide | omega)) g_leaf_law_lcm T.m_llcm T.k_llcm T.b_llcm .nil pass0 (pa_cons (pe_ix (kix K) (kv (i := 2) v_leaf_law_box) pe_int (fun _ _ => rfl)) (pa_cons (kv (i := 3) v_leaf_law_gap) pa_nil))) (pe_ix (kix K) (kv (i := 2) v_leaf_law_box) pe_int (fun _ _ => rfl)) (nomark _)) (pss_one (ks_setL (i := 3) nd l_leaf_law_gap (pe_call (ok_of T) (hr.mono (by first | decide | omega)) g_leaf_law_of T.m_of T.k_of T.b_of .nil pass0 (pa_cons (kv (i := 0) v_leaf_law_bag_here) (pa_cons (pe_lst (pa_cons pe_int (pa_cons (pe_ix (kix K) (kv (i := 2) v_leaf_law_box) pe_int (fun _ _ => rfl)) pa_nil))) pa_nil))))) pss_nil)
      (pss_cons (ps_asg (pe_call (ok_llcm T) (hr.mono (by first | decide | omega)) g_leaf_law_lcm T.m_llcm T.k_llcm T.b_llcm .nil pass0 (pa_cons (pe_ix (kix K) (kv (i := 2) v_leaf_law_box) pe_int (fun _ _ => rfl)) (pa_cons (kv (i := 3) v_leaf_law_gap) pa_nil))) (pg_sub (kv (i := 2) v_leaf_law_box) pe_int set_list))
      (pss_cons (ps_par (i := 4) (j := 5) rfl nd rfl rfl (by decide) (locB_ok l_leaf_law_edges) (locB_ok l_leaf_law_edge) (pa_cons (pe_lst pa_nil) (pa_cons pe_int pa_nil)) (by rfl))
      (pss_cons (ps_for PassesOwn.never rfl (pi_range1 g_leaf_range T.n_range (pa_cons (pe_call (ok_of T) (hr.mono (by first | decide | omega)) g_leaf_law_of T.m_of T.k_of T.b_of .nil pass0 (pa_cons (kv (i := 0) v_leaf_law_bag_here) (pa_cons (pe_lst (pa_cons pe_int (pa_cons pe_int (pa_cons pe_int (pa_cons pe_int (pa_cons pe_int (pa_cons pe_int (pa_cons pe_int (pa_cons pe_int (pa_cons pe_int (pa_cons pe_int pa_nil))))))))))) pa_nil))) pa_nil)) (kgL (i := 6) nd l_leaf_law_k) (pss_cons (ks_setL (i := 5) nd l_leaf_law_edge (pe_op kop_add (pe_op kop_add (kv (i := 5) v_leaf_law_edge) pe_int) (pe_call (ok_draw T) (hr.mono (by first | decide | omega)) g_leaf_law_draw T.m_draw T.k_draw T.b_draw .nil pass0 (pa_cons (kv (i := 0) v_leaf_law_bag_here) (pa_cons (kcB b_min (by decide) (by decide) (kc_min2 rfl) g_leaf_min T.n_min (pa_cons (kv (i := 1) v_leaf_law_wide) (pa_cons pe_int pa_nil))) pa_nil)))))
      (pss_one (ps_expr (pe_bm PySem.F.plainAttrs_list PySem.F.slot_list_append PySem.F.type_list_append mt_append (kv (i := 4) v_leaf_law_edges) (pa_cons (kv (i := 5) v_leaf_law_edge) pa_nil))))))
      (pss_one (ps_ret (pe_tup (pa_cons pe_str (pa_cons (kcT b_tuple (by decide) (by decide) (kc_tuple K) g_leaf_tuple T.n_tuple (pa_cons (kv (i := 4) v_leaf_law_edges) pa_nil)) (pa_cons (kv (i := 3) v_leaf_law_gap) pa_nil)))))))))))), ?_⟩
    walk_at "ss"
    refine k_draw hb (by decide) (by decide) fun d β1 d0 d1 hb => ?_
    walk_at "ss"
    refine k_d (fun _ => ?_) (fun _ => ?_)
    · walk_at "ss"
      refine k_draw hb (by omega) (by omega) fun d β1 d0 d1 hb => ?_
      walk_at "ss"
      intro t nt_t
      rw [upd_swap (up_none nt_t).2]
      generalize eG_t : upd _ t _ = G'
      obtain ⟨nb', sm, ht, nt_t, nG_t⟩ := new_facts hb.nb nt_t eG_t
      clear eG_t
      exact k t (.win (1 + d)) G' _ x (SameBut.of sm) (sm _ _ hB) (hb.up sm nb') (.win ht) ⟨by omega, by omega⟩ rfl (Int.dvd_refl x) (Int.one_dvd x) hx0 hx1
    · walk_at "ss"
      refine k_ifI rfl ?_
      have hm : 0 < (if 900 < wide then 2000 else wide) ∧ (if 900 < wide then 2000 else wide) ≤ 2000 := by split <;> omega
      generalize (if 900 < wide then (2000 : Int) else wide) = m at hm
      walk_at "ss"
      refine k_draw hb hm.1 (by omega) fun d β2 d0 d1 hb => ?_
      walk_at "ss"
      refine k_meet (fun σ H' => ∃ (g : Int) (G' : Hp) (β' : HO), σ = [some (.ref b), some (.int wide), some (.ref B), some (.int g), none, none, none] ∧ H' = upd G' b β' ∧ Same G G' ∧ Bag K G0 G' b β' ∧ 0 < g ∧ g ≤ 2000 ∧ lcmI x g ≤ hi) ?_ ?_
      · have hB2 := up_get (β := β2) hb.nb hB
        walk_at "ss"
        refine ⟨x, 1 + d, rfl, by omega, by omega, by omega, by omega, .inl (by omega), ?_⟩
        walk_at "ss"
        refine k_d (fun h1 => ?_) (fun h1 => ?_)
        · walk_at "ss"
          intro t nt_t
          rw [upd_swap (up_none nt_t).2]
          generalize eG_t : upd _ t _ = G'
          obtain ⟨nb', sm, ht, nt_t, nG_t⟩ := new_facts hb.nb nt_t eG_t
          clear eG_t
          walk_at "ss"
          refine k_of (hb.up sm nb') (SqL.of ht) (by simp) (by simp) fun v β3 hv hb3 => ?_
          walk_at "ss"
          simp only [List.mem_cons, List.not_mem_nil, or_false] at hv
          rcases hv with rfl | rfl
          · exact ⟨1, G', β3, rfl, rfl, sm, hb3, by omega, by omega, by rw [lcmI_one x (by omega)]; exact hx1⟩
          · exact ⟨x, G', β3, rfl, rfl, sm, hb3, by omega, by omega, by rw [lcmI_self x (by omega)]; exact hx1⟩
        · walk_at "ss"
          exact ⟨1 + d, G, β2, rfl, rfl, Same.refl _, hb, by omega, by omega, by omega⟩
      · rintro σ H' ⟨g, G1, β3, rfl, rfl, sm1, hb, hg0, hg1, hl⟩
        have hlp := lcmI_pos (a := x) (b := g) (by omega) hg0
        have hB1 := sm1 _ _ hB
        have hB3 := up_get (β := β3) hb.nb hB1
        have nBb : B ≠ b := ne_of_none hB1 hb.nb
        walk_at "ss"
        refine ⟨x, g, rfl, by omega, by omega, by omega, by omega, .inl (by omega), ?_⟩
        walk_at "ss"
        rw [upd_swap nBb]
        generalize eG2 : upd G1 B _ = G2
        have nb2 : G2 b = none := by rw [← eG2, upd_ne (Ne.symm nBb)]; exact hb.nb
        have hb2 : Bag K G0 G2 b β3 := hb.up0 (by rw [← eG2]; exact same_put hb.sm hB0) nb2
        have sB : SameBut B G G2 := by rw [← eG2]; exact (SameBut.of sm1).put
        have hBx : G2 B = some (.lst [.int (lcmI x g), .int hi]) := by rw [← eG2]; exact upd_same
        clear eG2
        walk_at "ss"
        intro L nt_L
        rw [upd_swap (up_none nt_L).2]
        generalize eG_L : upd _ L _ = G3
        obtain ⟨nb3, sm3, hL, nt_L, nG_L⟩ := new_facts hb2.nb nt_L eG_L
        clear eG_L
        have hb3 := hb2.up sm3 nb3
        walk_at "ss"
        walk_at "ss"
        intro t5 nt_t5
        rw [upd_swap (up_none nt_t5).2]
        generalize eG_t5 : upd _ t5 _ = G4
        obtain ⟨nb4, sm4, ht4, nt_t5, nG_t5⟩ := new_facts hb3.nb nt_t5 eG_t5
        clear eG_t5
        have hb4 := hb3.up sm4 nb4
        walk_at "ss"
        refine k_of hb4 (SqL.of ht4) (by simp) (by simp) fun v β5 hv hb5 => ?_
        obtain ⟨n, rfl, hn0, hn1⟩ : ∃ n : Int, v = V.int n ∧ 0 ≤ n ∧ n ≤ 12 := by
          simp only [List.mem_cons, List.not_mem_nil, or_false] at hv
          rcases hv with rfl | rfl | rfl | rfl | rfl | rfl | rfl | rfl | rfl | rfl <;> exact ⟨_, rfl, by decide, by decide⟩
        walk_at "ss"
        refine k_r1 ⟨by omega, by omega⟩ ?_
        refine k_forRange (fun i σ H' => ∃ (bs : List Int) (G' : Hp) (β' : HO) (kv : Option V), σ = [some (.ref b), some (.int wide), some (.ref B), some (.int g), some (.ref L), some (.int (baseOf bs)), kv] ∧ H' = upd G' b β' ∧ Bag K G0 G' b β' ∧ Same G2 G' ∧ G' L = some (.lst (bs.map V.int)) ∧ Asc 0 bs ∧ bs.length = i ∧ 0 ≤ baseOf bs ∧ baseOf bs ≤ 80 * i) ⟨[], G4, β5, none, rfl, rfl, hb5, sm3.trans sm4, sm4 _ _ hL, trivial, rfl, by decide, by decide⟩ ?_ ?_
        · rintro i σ H' hii ⟨bs, G', β', kv, rfl, rfl, hb6, sm6, hL6, hasc, hlen, hb0, hb1⟩
          walk_at "ss"
          refine k_draw hb6 (show 0 < (if (80 : Int) < wide then 80 else wide) by split <;> omega) (by split <;> omega) fun d β7 d0 d1 hb7 => ?_
          have d2 : d < 80 := by
            have : (if (80 : Int) < wide then 80 else wide) ≤ 80 := by split <;> omega
            omega
          walk_at "ss"
          refine k_bm ?_
          walk_at "ss"
          refine ⟨.inl ⟨rfl, _, SqL.of (up_get hb7.nb hL6)⟩, ?_⟩
          walk_at "ss"
          refine k_app (up_get hb7.nb hL6) (by rw [List.length_map]; omega) ?_
          rw [upd_swap nt_L]
          have es : bs.map V.int ++ [V.int (baseOf bs + 1 + d)] = (bs ++ [baseOf bs + 1 + d]).map V.int := by rw [List.map_append]; rfl
          rw [es]
          refine ⟨bs ++ [baseOf bs + 1 + d], _, β7, _, by rw [baseOf_snoc]; rfl, rfl, hb7.up0 (same_put hb7.sm ?_) (by rw [upd_ne (Ne.symm nt_L)]; exact hb7.nb), same_put sm6 nG_L, upd_same, asc_snoc hasc ?_, by simp [hlen], ?_, ?_⟩
          · cases hz : G0 L with
            | none => rfl
            | some o => exact absurd (hb2.sm _ _ hz) (by rw [nG_L]; intro z; cases z)
          · show baseOf bs < _
            omega
          · rw [baseOf_snoc]; omega
          · rw [baseOf_snoc]; omega
        · rintro σ H' ⟨bs, G', β', kv, rfl, rfl, hb6, sm6, hL6, hasc, hlen, hb0, hb1⟩
          walk_at "ss"
          refine k_tupleL (SqL.of (up_get hb6.nb hL6)) ?_
          intro te nt_te
          rw [upd_swap (up_none nt_te).2]
          generalize eG_te : upd _ te _ = G7
          obtain ⟨nb7, sm7, he, nt_te, nG_te⟩ := new_facts hb6.nb nt_te eG_te
          clear eG_te
          walk_at "ss"
          have hb7 := hb6.up sm7 nb7
          intro tt nt_tt
          rw [upd_swap (up_none nt_tt).2]
          generalize eG_tt : upd _ tt _ = G8
          obtain ⟨nb8, sm8, htt, nt_tt, nG_tt⟩ := new_facts hb7.nb nt_tt eG_tt
          clear eG_tt
          have hb8 := hb7.up sm8 nb8
          have sm28 := (sm6.trans sm7).trans sm8
          refine k tt (.days bs g) G8 β' (lcmI x g) (sB.trans (SameBut.of sm28)) (sm28 _ _ hBx) hb8 (.days htt (sm8 _ _ he)) ⟨hasc, fun c hc => ?_, by omega, by omega, hg1⟩ rfl (dvd_lcmI_left _ _) (dvd_lcmI_right _ _) (by omega) hl
          have := asc_base hasc c hc
          omega
end

theorem two_at {α : Type} : ∀ (j : Nat) (l : List α), j + 1 < l.length → ∃ A x y B, l = A ++ x :: y :: B ∧ A.length = j
  | 0, x :: y :: B, _ => ⟨[], x, y, B, rfl, rfl⟩
  | j + 1, x :: l, h => by
    obtain ⟨A, u, v, B, rfl, rfl⟩ := two_at j l (by simpa using h)
    exact ⟨x :: A, u, v, B, rfl, rfl⟩
theorem erase_two {α : Type} (x y : α) (B : List α) : ∀ A : List α, (A ++ x :: y :: B).eraseIdx (A.length + 1) = A ++ x :: B
  | [] => rfl
  | a :: A => by
    show a :: (A ++ x :: y :: B).eraseIdx (A.length + 1) = _
    rw [erase_two x y B A]
    rfl
theorem set_at {α : Type} (x z : α) (B : List α) : ∀ A : List α, (A ++ x :: B).set A.length z = A ++ z :: B
  | [] => rfl
  | a :: A => by
    show a :: (A ++ x :: B).set A.length z = _
    rw [set_at x z B A]
    rfl
theorem seqI {j n : Nat} (h : j < n) : seqIndex? (j : Int) n = some j := by
  have := PySem.StrLaws.seqIndex_nonneg (i := (j : Int)) (n := n) (by omega) (by omega)
  simpa using this
theorem ixNn {j n : Nat} (h : j < n) : ixN n (j : Int) = some j := by
  unfold ixN
  rw [if_pos (by omega)]
  simp; omega
def tot (l : List (Addr × Plan)) : Nat := (l.map fun z => z.2.forms + 1).sum
abbrev rf (l : List (Addr × Plan)) : List V := l.map fun z => V.ref z.1
section
variable {w : World} {K : PySem.W.Frag} {mg : Str → Option Value} {base : Heap}
def spJn (K : PySem.W.Frag) : Sp := fun vs H Q _ => ∃ (G0 G : Hp) (b : Addr) (β : HO) (L : Addr) (l : List (Addr × Plan)) (c : Int), vs = [.ref b, .ref L] ∧ H = upd G b β ∧ Bag K G0 G b β ∧ G L = some (.lst (rf l)) ∧ l ≠ [] ∧
  (∀ z ∈ l, PlanAt G z.1 z.2 ∧ z.2.Ok ∧ z.2.period ∣ c) ∧ tot l ≤ 6 ∧ 0 < c ∧ c ≤ 2000 ∧ ∀ (a : Addr) (p : Plan) (G' : Hp) (β' : HO), Same G G' → Bag K G0 G' b β' → PlanAt G' a p → p.Ok → p.forms + 1 = tot l → Q (.ref a) (upd G' b β')
theorem ok_ljoined (T : Tx K mg) : FnOk P w K mg base CX0 3 T.a_ljoined T.fd_ljoined P_ljoined (spJn K) := by
  refine T.F_ljoined.ok sc_ljoined (fun vs H Q E h => ?_) (fun cdv A outer s H vs Q E hr h => ?_)
  · obtain ⟨G0, G, b, β, L, l, c, rfl, _⟩ := h
    rfl
  · obtain ⟨G0, G, b, β, L, l, c, rfl, rfl, hb, hL, hne, hall, htot, hc0, hc1, k⟩ := h
    have nd := sc_ljoined.nd
    have hlen : l.length ≤ 6 := by
      have : ∀ m : List (Addr × Plan), m.length ≤ tot m := by
        intro m
        induction m with
        | nil => exact Nat.le_refl _
        | cons z r ih => simp only [tot, List.map_cons, List.sum_cons, List.length_cons] at ih ⊢; omega
      exact Nat.le_trans (this l) htot
    refine ⟨_, (pss_cons (ks_setL (i := 2) nd l_ljoined_law_some (kcT b_list (by decide) (by decide) (kc_list K) g_ljoined_list T.n_list (pa_cons (kv (i := 1) v_ljoined_law_parts) pa_nil)))
      (pss_cons (ps_for PassesOwn.never rfl (pi_range1 g_ljoined_range T.n_range (pa_cons (pe_op op_sub (kcB b_len (by decide) (by decide) (kc_len K) g_ljoined_len T.n_len (pa_cons (kv (i := 1) v_ljoined_law_parts) pa_nil)) pe_int) pa_nil)) (kgL (i := 3) nd l_ljoined_law_k) (pss_cons (ks_setL (i := 4) nd l_ljoined_law_j (pe_call (ok_draw T) (hr.mono (by first | decide | omega)) g_ljoined_law_draw T.m_draw T.k_draw T.b_draw .nil pass0 (pa_cons (kv (i := 0) v_ljoined_law_bag_here) (pa_cons (pe_op op_sub (kcB b_len (by decide) (by decide) (kc_len K) g_ljoined_len T.n_len (pa_cons (kv (i := 2) v_ljoined_law_some) pa_nil)) pe_int) pa_nil))))
      (pss_cons (ks_setL (i := 5) nd l_ljoined_law_two (pe_bm PySem.F.plainAttrs_list PySem.F.slot_list_pop PySem.F.type_list_pop mt_popAt (kv (i := 2) v_ljoined_law_some) (pa_cons (pe_op kop_add (kv (i := 4) v_ljoined_law_j) pe_int) pa_nil)))
      (pss_one (ps_asg (pe_tup (pa_cons (pe_call (ok_of T) (hr.mono (by first | decide | omega)) g_ljoined_law_of T.m_of T.k_of T.b_of .nil pass0 (pa_cons (kv (i := 0) v_ljoined_law_bag_here) (pa_cons (pe_lst (pa_cons pe_str (pa_cons pe_str (pa_cons pe_str pa_nil)))) pa_nil))) (pa_cons (pe_ix (kix K) (kv (i := 2) v_ljoined_law_some) (kv (i := 4) v_ljoined_law_j) (fun _ _ => rfl)) (pa_cons (kv (i := 5) v_ljoined_law_two) pa_nil)))) (pg_sub (kv (i := 2) v_ljoined_law_some) (kv (i := 4) v_ljoined_law_j) set_list))))))
      (pss_one (ps_ret (pe_ix (kix K) (kv (i := 2) v_ljoined_law_some) pe_int (fun _ _ => rfl)))))), ?_⟩
    walk_at "ss"
    refine k_listL (SqL.of (up_get hb.nb hL)) ?_
    intro S nt_S
    rw [upd_swap (up_none nt_S).2]
    generalize eG_S : upd _ S _ = G1
    obtain ⟨nb1, sm1, hS, nt_S, nG_S⟩ := new_facts hb.nb nt_S eG_S
    clear eG_S
    walk_at "ss"
    have hL1 := sm1 _ _ hL
    have hb1 := hb.up sm1 nb1
    refine k_lenL (SqL.of (up_get hb1.nb hL1)) ?_
    walk_at "ss"
    refine k_r1 ⟨by simp; omega, by simp; omega⟩ ?_
    have el : ((((rf l).length : Nat) : Int) - 1).toNat = l.length - 1 := by rw [List.length_map]; omega
    rw [el]
    have hpos : 0 < l.length := List.length_pos_iff.mpr hne
    refine k_forRange (fun i σ H' => ∃ (l' : List (Addr × Plan)) (G' : Hp) (β' : HO) (v3 v4 v5 : Option V), σ = [some (.ref b), some (.ref L), some (.ref S), v3, v4, v5] ∧ H' = upd G' b β' ∧ Bag K G0 G' b β' ∧ Same G G' ∧ G' S = some (.lst (rf l')) ∧
      (∀ z ∈ l', PlanAt G' z.1 z.2 ∧ z.2.Ok ∧ z.2.period ∣ c) ∧ tot l' = tot l ∧ l'.length + i = l.length) ⟨l, G1, β, none, none, none, rfl, rfl, hb1, sm1, hS, fun z hz => ⟨(hall z hz).1.up sm1, (hall z hz).2⟩, rfl, rfl⟩ ?_ ?_
    · rintro i σ H' hi ⟨l', G', β', v3, v4, v5, rfl, rfl, hb2, sm2, hS2, hall2, ht2, hl2⟩
      walk_at "ss"
      refine k_draw hb2 (by rw [List.length_map]; omega) (by rw [List.length_map]; omega) fun d β3 d0 d1 hb3 => ?_
      rw [List.length_map] at d1
      obtain ⟨j, rfl⟩ := Int.eq_ofNat_of_zero_le d0
      obtain ⟨A, x, y, B, rfl, rfl⟩ := two_at j l' (by omega)
      walk_at "ss"
      refine k_bm ?_
      walk_at "ss"
      refine ⟨.inl ⟨rfl, _, SqL.of (up_get hb3.nb hS2)⟩, ?_⟩
      walk_at "ss"
      have eA : (rf (A ++ x :: y :: B)) = rf A ++ V.ref x.1 :: V.ref y.1 :: rf B := by simp [rf]
      have eLen : (rf A).length = A.length := List.length_map _
      rw [eA] at hS2
      refine ⟨S, _, _, A.length + 1, V.ref y.1, rfl, rfl, up_get hb3.nb hS2, by omega, by omega, ?_, ?_, ?_⟩
      · have := seqI (j := A.length + 1) (n := (rf A ++ V.ref x.1 :: V.ref y.1 :: rf B).length) (by simp)
        simpa using this
      · rw [← eLen]
        simp
      · have e2 : (rf A ++ V.ref x.1 :: V.ref y.1 :: rf B).eraseIdx (A.length + 1) = rf A ++ V.ref x.1 :: rf B := by rw [← eLen]; exact erase_two _ _ _ _
        rw [e2]
        have nSb : S ≠ b := nt_S
        rw [upd_swap nSb]
        generalize eG4 : upd G' S _ = G4
        have sm4 : Same G G4 := by rw [← eG4]; exact same_put sm2 nG_S
        have hb4 : Bag K G0 G4 b β3 := hb3.up0 (hb.sm.trans sm4) (by rw [← eG4, upd_ne (Ne.symm nSb)]; exact hb3.nb)
        have hS4 : G4 S = some (.lst (rf A ++ V.ref x.1 :: rf B)) := by rw [← eG4]; exact upd_same
        have up4 : ∀ {a : Addr} {p : Plan}, PlanAt G' a p → PlanAt G4 a p := fun h => PlanAt.upB hS2 (by rw [← eG4]; exact (SameBut.refl _ _).put) h
        clear eG4
        walk_at "ss"
        intro t5 nt_t5
        rw [upd_swap (up_none nt_t5).2]
        generalize eG_t5 : upd _ t5 _ = G5
        obtain ⟨nb5, sm5, ht5, nt_t5, nG_t5⟩ := new_facts hb4.nb nt_t5 eG_t5
        clear eG_t5
        have hb5 := hb4.up sm5 nb5
        walk_at "ss"
        refine k_of hb5 (SqL.of ht5) (by simp) (by simp) fun v β6 hv hb6 => ?_
        obtain ⟨o, rfl⟩ : ∃ o : Op, v = V.str (opS o) := by
          simp only [List.mem_cons, List.not_mem_nil, or_false] at hv
          rcases hv with rfl | rfl | rfl
          · exact ⟨.later, rfl⟩
          · exact ⟨.sooner, rfl⟩
          · exact ⟨.next, rfl⟩
        walk_at "ss"
        have hS5 := sm5 _ _ hS4
        refine k_ixL (SqL.of (up_get hb6.nb hS5)) (atI_nat (j := A.length) (v := V.ref x.1) ?_) ?_
        · rw [← eLen]
          simp
        walk_at "ss"
        intro t7 nt_t7
        rw [upd_swap (up_none nt_t7).2]
        generalize eG_t7 : upd _ t7 _ = G7
        obtain ⟨nb7, sm7, ht7, nt_t7, nG_t7⟩ := new_facts hb6.nb nt_t7 eG_t7
        clear eG_t7
        have hb7 := hb6.up sm7 nb7
        have hS7 := sm7 _ _ hS5
        walk_at "ss"
        refine k_setL (up_get hb7.nb hS7) (j := A.length) (ixNn (by simp)) ?_
        rw [upd_swap nSb]
        have eset : (rf A ++ V.ref x.1 :: rf B).set A.length (V.ref t7) = rf (A ++ (t7, Plan.op o x.2 y.2) :: B) := by
          rw [← eLen, set_at]
          simp [rf]
        rw [eset]
        have hx := hall2 x (by simp)
        have hy := hall2 y (by simp)
        have hti : tot (A ++ (t7, Plan.op o x.2 y.2) :: B) = tot (A ++ x :: y :: B) := by
          simp only [tot, List.map_append, List.map_cons, List.sum_append, List.sum_cons, Plan.forms]
          omega
        have pdv : (Plan.op o x.2 y.2).period ∣ c := lcmI_dvd hx.2.2 hy.2.2
        have pok : (Plan.op o x.2 y.2).Ok := by
          refine ⟨hx.2.1, hy.2.1, ?_, Int.le_trans (Int.le_of_dvd hc0 pdv) hc1⟩
          have : (Plan.op o x.2 y.2).forms + 1 ≤ tot (A ++ (t7, Plan.op o x.2 y.2) :: B) := by
            simp only [tot, List.map_append, List.map_cons, List.sum_append, List.sum_cons]
            omega
          omega
        generalize eG9 : upd G7 S _ = G9
        have up9 : ∀ {a : Addr} {p : Plan}, PlanAt G7 a p → PlanAt G9 a p := fun h => PlanAt.upB hS7 (by rw [← eG9]; exact (SameBut.refl _ _).put) h
        have sm49 : ∀ {a : Addr} {p : Plan}, PlanAt G' a p → PlanAt G9 a p := fun h => up9 (((up4 h).up sm5).up sm7)
        refine ⟨A ++ (t7, Plan.op o x.2 y.2) :: B, G9, β6, _, _, _, rfl, rfl, ?_, ?_, ?_, ?_, hti.trans ht2, by simp at hl2 ⊢; omega⟩
        · refine hb7.up0 ?_ ?_
          · rw [← eG9]
            exact same_put hb7.sm (by
              cases hz : G0 S with
              | none => rfl
              | some o => exact absurd (hb.sm _ _ hz) (by rw [nG_S]; intro z; cases z))
          · rw [← eG9, upd_ne (Ne.symm nSb)]
            exact hb7.nb
        · rw [← eG9]
          exact same_put ((sm4.trans sm5).trans sm7) nG_S
        · rw [← eG9]
          exact upd_same
        · intro z hz
          rcases List.mem_append.mp hz with hz | hz
          · have q := hall2 z (List.mem_append_left _ hz)
            exact ⟨sm49 q.1, q.2⟩
          · rcases List.mem_cons.mp hz with rfl | hz
            · exact ⟨.op (by rw [← eG9, upd_ne (ne_of ht7 hS7 (by intro q; cases q))]; exact ht7) (sm49 hx.1) (sm49 hy.1), pok, pdv⟩
            · have q := hall2 z (List.mem_append_right _ (List.mem_cons_of_mem _ (List.mem_cons_of_mem _ hz)))
              exact ⟨sm49 q.1, q.2⟩
    · rintro σ H' ⟨l', G', β', v3, v4, v5, rfl, rfl, hb2, sm2, hS2, hall2, ht2, hl2⟩
      have : l'.length = 1 := by omega
      obtain ⟨z, rfl⟩ := List.length_eq_one_iff.mp this
      walk_at "ss"
      obtain ⟨h1, h2, h3⟩ := hall2 z (List.mem_singleton.mpr rfl)
      exact k _ z.2 G' β' sm2 hb2 h1 h2 (by rw [← ht2]; simp [tot])
end

section
variable {w : World} {K : PySem.W.Frag} {mg : Str → Option Value} {base : Heap}
theorem sb_putN {B L : Addr} {G G' : Hp} {o : HO} (s : SameBut B G G') (n : G L = none) : SameBut B G (upd G' L o) := fun a u h e => by
  rw [upd_ne (ne_of_none e n)]
  exact s _ _ h e
def spPlan (K : PySem.W.Frag) : Sp := fun vs H Q _ => ∃ (G0 G : Hp) (b : Addr) (β : HO) (wide : Int) (B : Addr) (x hi : Int), vs = [.ref b, .int wide, .ref B] ∧ H = upd G b β ∧ Bag K G0 G b β ∧ G0 B = none ∧ G B = some (.lst [.int x, .int hi]) ∧
  1 ≤ wide ∧ wide ≤ 1000 ∧ 1 ≤ x ∧ x ≤ hi ∧ hi ≤ 2000 ∧ ∀ (a : Addr) (p : Plan) (G' : Hp) (β' : HO) (x' : Int), SameBut B G G' → G' B = some (.lst [.int x', .int hi]) → 1 ≤ x' → x' ≤ hi → Bag K G0 G' b β' → PlanAt G' a p → p.Ok → p.forms ≤ 5 → Q (.ref a) (upd G' b β')
theorem ok_plan (T : Tx K mg) : FnOk P w K mg base CX0 4 T.a_plan T.fd_plan P_plan (spPlan K) := by
  refine T.F_plan.ok sc_plan (fun vs H Q E h => ?_) (fun cdv A outer s H vs Q E hr h => ?_)
  · obtain ⟨G0, G, b, β, wide, B, x, hi, rfl, _⟩ := h
    rfl
  · obtain ⟨G0, G, b, β, wide, B, x, hi, rfl, rfl, hb, hB0, hB, hw0, hw1, hx, hxh, hh, k⟩ := h
    have nd := sc_plan.nd
    refine ⟨_, (pss_cons (ks_setL (i := 3) nd l_plan_law_many (pe_call (ok_of T) (hr.mono (by first | decide | omega)) g_plan_law_of T.m_of T.k_of T.b_of .nil pass0 (pa_cons (kv (i := 0) v_plan_law_bag_here) (pa_cons (pe_lst (pa_cons pe_int (pa_cons pe_int (pa_cons pe_int (pa_cons pe_int (pa_cons pe_int pa_nil)))))) pa_nil))))
      (pss_one (ps_ret (pe_call (ok_ljoined T) (hr.mono (by first | decide | omega)) g_plan_law_joined T.m_ljoined T.k_ljoined T.b_ljoined .nil pass0 (pa_cons (kv (i := 0) v_plan_law_bag_here) (pa_cons (pe_lc (own := [("_law_k", 4)]) rfl nd (pi_range1 g_plan_range T.n_range (pa_cons (kv (i := 3) v_plan_law_many) pa_nil)) ok_cs_plan_1 (fun _ _ _ _ _ => (kgL (i := 4) nd l_plan_1_law_k)) (fun _ _ _ _ _ => pts_nil) (fun _ _ _ _ _ => (pe_call (ok_leaf T) (hr.mono (by first | decide | omega)) g_plan_1_law_leaf T.m_leaf T.k_leaf T.b_leaf .nil pass0 (pa_cons (kv (i := 0) v_plan_1_law_bag_here) (pa_cons (kv (i := 1) v_plan_1_law_wide) (pa_cons (kv (i := 2) v_plan_1_law_box) pa_nil)))))) pa_nil)))))), ?_⟩
    walk_at "ss"
    intro t1 nt_t1
    rw [upd_swap (up_none nt_t1).2]
    generalize eG_t1 : upd _ t1 _ = G1
    obtain ⟨nb1, sm1, ht1, nt_t1, nG_t1⟩ := new_facts hb.nb nt_t1 eG_t1
    clear eG_t1
    have hb1 := hb.up sm1 nb1
    have hB1 := sm1 _ _ hB
    walk_at "ss"
    refine k_of hb1 (SqL.of ht1) (by simp) (by simp) fun v β2 hv hb2 => ?_
    obtain ⟨n, rfl, hn0, hn1⟩ : ∃ n : Nat, v = V.int n ∧ 1 ≤ n ∧ n ≤ 3 := by
      simp only [List.mem_cons, List.not_mem_nil, or_false] at hv
      rcases hv with rfl | rfl | rfl | rfl | rfl
      · exact ⟨1, rfl, by decide, by decide⟩
      · exact ⟨2, rfl, by decide, by decide⟩
      · exact ⟨1, rfl, by decide, by decide⟩
      · exact ⟨3, rfl, by decide, by decide⟩
      · exact ⟨2, rfl, by decide, by decide⟩
    walk_at "ss"
    refine k_r1 ⟨by omega, by omega⟩ ?_
    intro D nD
    obtain ⟨nD1, nDb⟩ := up_none nD
    have nBD : B ≠ D := ne_of_none hB1 nD1
    refine k_lcRange (n := n) (fun i H' => ∃ (l : List (Addr × Plan)) (G' : Hp) (β' : HO) (x' : Int), H' = upd G' b β' ∧ Bag K G0 G' b β' ∧ SameBut B G1 G' ∧ G' B = some (.lst [.int x', .int hi]) ∧ G' D = some (.lst (rf l)) ∧
      (∀ z ∈ l, PlanAt G' z.1 z.2 ∧ z.2.Ok ∧ z.2.forms = 1 ∧ z.2.period ∣ x') ∧ l.length = i ∧ 1 ≤ x' ∧ x' ≤ hi) ⟨[], _, β2, x, upd_swap nDb, ?_, sb_putN (SameBut.refl _ _) nD1, ?_, upd_same, fun z hz => (by cases hz), rfl, hx, hxh⟩ ?_ ?_
    · exact hb2.up (same_new nD1) (by rw [upd_ne (Ne.symm nDb)]; exact hb2.nb)
    · rw [upd_ne nBD]; exact hB1
    · rintro i H' hii ⟨l, G', β', x', rfl, hb3, sB, hB3, hD, hall, hlen, hx0, hx1⟩
      refine k_gName ?_
      refine ⟨rfl, ?_⟩
      walk_at "ss"
      refine ⟨G0, G', b, β', wide, B, x', hi, rfl, rfl, hb3, hB0, hB3, hw0, hw1, hx0, hx1, hh, fun a p G4 β4 x4 s4 hB4 hb4 ha op fp d1 d2 y0 y1 => ?_⟩
      have hD4 := s4 _ _ (Ne.symm nBD) hD
      refine ⟨_, up_get hb4.nb hD4, small_lt (by rw [List.length_map]; omega), l ++ [(a, p)], upd G4 D (.lst (rf (l ++ [(a, p)]))), β4, x4, ?_, ?_, sb_putN (sB.trans s4) nD1, ?_, upd_same, ?_, by simp [hlen], y0, y1⟩
      · rw [upd_swap nDb]
        simp [rf]
      · refine hb4.up0 (same_put hb4.sm ?_) (by rw [upd_ne (Ne.symm nDb)]; exact hb4.nb)
        cases hz : G0 D with
        | none => rfl
        | some o => exact absurd (hb1.sm _ _ hz) (by rw [nD1]; intro z; cases z)
      · rw [upd_ne nBD]; exact hB4
      · intro z hz
        have up : ∀ {a : Addr} {p : Plan}, PlanAt G4 a p → PlanAt (upd G4 D (.lst (rf (l ++ [(a, p)])))) a p := fun h => h.upB hD4 ((SameBut.refl _ _).put)
        rcases List.mem_append.mp hz with hz | hz
        · obtain ⟨h1, h2, h3, h4⟩ := hall z hz
          exact ⟨(h1.upB hB3 s4).upB hD4 ((SameBut.refl _ _).put), h2, h3, Int.dvd_trans h4 d1⟩
        · rw [List.mem_singleton] at hz
          subst hz
          exact ⟨ha.upB hD4 ((SameBut.refl _ _).put), op, fp, d2⟩
    · rintro H' ⟨l, G', β', x', rfl, hb3, sB, hB3, hD, hall, hlen, hx0, hx1⟩
      walk_at "ss"
      have ht : ∀ m : List (Addr × Plan), (∀ z ∈ m, z.2.forms = 1) → tot m = 2 * m.length := by
        intro m hm
        induction m with
        | nil => rfl
        | cons z r ih =>
          have h1 := hm z (List.mem_cons_self ..)
          have h2 := ih fun y hy => hm y (List.mem_cons_of_mem _ hy)
          simp only [tot, List.map_cons, List.sum_cons, List.length_cons] at h2 ⊢
          omega
      have hl := ht l fun z hz => (hall z hz).2.2.1
      refine ⟨G0, G', b, β', D, l, x', rfl, rfl, hb3, hD, fun z => (by rw [z] at hlen; simp at hlen; omega), fun z hz => ⟨(hall z hz).1, (hall z hz).2.1, (hall z hz).2.2.2⟩, by omega, by omega, by omega, fun a p G4 β4 s4 hb4 ha op fp => ?_⟩
      exact k a p G4 β4 x' (((SameBut.of sm1).trans sB).trans (SameBut.of s4)) (s4 _ _ hB3) hx0 hx1 hb4 ha op (by omega)
/-! ### a plan's moments -/
def spAt (d : Nat) : Sp := fun vs H Q _ => ∃ a p t, vs = [.ref a, .int t] ∧ PlanAt H a p ∧ p.Ok ∧ p.forms ≤ d ∧ Q (.int (p.at t)) H
theorem k_eqT {x : Str} {H : Hp} {Q : VK} (k : Q (.bl true) H) : rEq (.str x) (.str x) H Q := k_eq rfl (by rw [decide_eq_true rfl]; exact k)
theorem k_eqF {x y : Str} {H : Hp} {Q : VK} (h : x ≠ y) (k : Q (.bl false) H) : rEq (.str x) (.str y) H Q := k_eq rfl (by rw [decide_eq_false (fun e => h (V.str.inj e))]; exact k)
theorem ne1 : (("days" : Str)) ≠ "window" := by decide +kernel
theorem neOW (o : Op) : opS o ≠ "window" := by cases o <;> decide +kernel
theorem neOD (o : Op) : opS o ≠ "days" := by cases o <;> decide +kernel
theorem last_at (xs : List V) (h : xs ≠ []) : atI xs (-1) = xs.getLast? := by
  rw [← List.dropLast_concat_getLast h, atI_last]
  simp
/-- the last border, or 0 -/
theorem k_base {K : PySem.W.Frag} {tt : TE} {σ : L2.St} {H : Hp} {Q : VK} {e : Addr} {bs : List Int} (ht : ∀ Q : VK, Q (.ref e) H → tt σ H Q) (he : H e = some (.tup (bs.map V.int))) (k : Q (.int (baseOf bs)) H) :
    tIf (tTruU K tt) (tOp (rIx K) tt (tUn (rU fun i => V.int (-i)) (tC (V.int 1)))) (tC (V.int 0)) σ H Q := by
  refine k_if ?_
  show tt σ H _
  refine ht _ ?_
  refine ⟨!(bs.map V.int).isEmpty, .inr (.inl ⟨_, SqT.of he, rfl⟩), ?_⟩
  cases bs with
  | nil => exact k_f k
  | cons c r =>
    refine k_t ?_
    refine k_op ?_
    refine ht _ ?_
    refine k_un ?_
    refine k_c ?_
    refine k_U ?_
    refine k_ixT (SqT.of he) (v := .int (baseOf (c :: r))) ?_ k
    rw [last_at _ (by simp), List.getLast?_map]
    unfold baseOf
    cases h : (c :: r).getLast? with
    | none => simp at h
    | some z => rfl
theorem ok_at0 (T : Tx K mg) (d : Nat) (ih : FnOk P w K mg base CX0 (d + 1) T.a_at T.fd_at P_at (spAt d)) : FnOk P w K mg base CX0 (d + 2) T.a_at T.fd_at P_at (spAt (d + 1)) := by
  refine T.F_at.ok sc_at (fun vs H Q E h => ?_) (fun cdv A outer s H vs Q E hr h => ?_)
  · obtain ⟨a, p, t, rfl, _⟩ := h
    rfl
  · obtain ⟨a, p, t, rfl, ha, op, hf, k⟩ := h
    have nd := sc_at.nd
    refine ⟨_, (pss_cons (ps_if (pt_cmpR op_eq (pe_ix (kix K) (kv (i := 0) v_at_law_plan_here) pe_int (fun _ _ => rfl)) pe_str (nomark _)) (pss_one (ps_ret (pe_op kop_add (kv (i := 1) v_at_law_s) (pe_ix (kix K) (kv (i := 0) v_at_law_plan_here) pe_int (fun _ _ => rfl))))) pss_nil)
      (pss_cons (ps_if (pt_cmpR op_eq (pe_ix (kix K) (kv (i := 0) v_at_law_plan_here) pe_int (fun _ _ => rfl)) pe_str (nomark _)) (pss_cons (ps_for PassesOwn.never rfl (kpi_tup K (pe_ix (kix K) (kv (i := 0) v_at_law_plan_here) pe_int (fun _ _ => rfl))) (kgL (i := 2) nd l_at_law_edge) (pss_one (ps_if (pt_cmpR op_gt (kv (i := 2) v_at_law_edge) (kv (i := 1) v_at_law_s) (nomark _)) (pss_one (ps_ret (kv (i := 2) v_at_law_edge))) pss_nil)))
      (pss_cons (ks_setL (i := 3) nd l_at_law_base (pe_ifExp (kpt_truth K (pe_ix (kix K) (kv (i := 0) v_at_law_plan_here) pe_int (fun _ _ => rfl))) (pe_ix (kix K) (pe_ix (kix K) (kv (i := 0) v_at_law_plan_here) pe_int (fun _ _ => rfl)) (pe_un un_neg pe_int) (fun _ _ => rfl)) pe_int))
      (pss_one (ps_ret (pe_op kop_add (kv (i := 3) v_at_law_base) (pe_op op_mul (pe_op kop_add (pe_op op_fdiv (pe_op op_sub (kv (i := 1) v_at_law_s) (kv (i := 3) v_at_law_base)) (pe_ix (kix K) (kv (i := 0) v_at_law_plan_here) pe_int (fun _ _ => rfl))) pe_int) (pe_ix (kix K) (kv (i := 0) v_at_law_plan_here) pe_int (fun _ _ => rfl)))))))) pss_nil)
      (pss_cons (ps_if (pt_cmpR op_eq (pe_ix (kix K) (kv (i := 0) v_at_law_plan_here) pe_int (fun _ _ => rfl)) pe_str (nomark _)) (pss_one (ps_ret (pe_call ih (hr.mono (by first | decide | omega)) g_at_law_at T.m_at T.k_at T.b_at .nil pass0 (pa_cons (pe_ix (kix K) (kv (i := 0) v_at_law_plan_here) pe_int (fun _ _ => rfl)) (pa_cons (pe_call ih (hr.mono (by first | decide | omega)) g_at_law_at T.m_at T.k_at T.b_at .nil pass0 (pa_cons (pe_ix (kix K) (kv (i := 0) v_at_law_plan_here) pe_int (fun _ _ => rfl)) (pa_cons (kv (i := 1) v_at_law_s) pa_nil))) pa_nil))))) pss_nil)
      (pss_cons (ps_par (i := 4) (j := 5) rfl nd rfl rfl (by decide) (locB_ok l_at_law_one) (locB_ok l_at_law_two) (pa_cons (pe_call ih (hr.mono (by first | decide | omega)) g_at_law_at T.m_at T.k_at T.b_at .nil pass0 (pa_cons (pe_ix (kix K) (kv (i := 0) v_at_law_plan_here) pe_int (fun _ _ => rfl)) (pa_cons (kv (i := 1) v_at_law_s) pa_nil))) (pa_cons (pe_call ih (hr.mono (by first | decide | omega)) g_at_law_at T.m_at T.k_at T.b_at .nil pass0 (pa_cons (pe_ix (kix K) (kv (i := 0) v_at_law_plan_here) pe_int (fun _ _ => rfl)) (pa_cons (kv (i := 1) v_at_law_s) pa_nil))) pa_nil)) (by rfl))
      (pss_one (ps_ret (pe_ifExp (pt_cmpR op_eq (pe_ix (kix K) (kv (i := 0) v_at_law_plan_here) pe_int (fun _ _ => rfl)) pe_str (nomark _)) (kcB b_max (by decide) (by decide) (kc_max2 rfl) g_at_max T.n_max (pa_cons (kv (i := 4) v_at_law_one) (pa_cons (kv (i := 5) v_at_law_two) pa_nil))) (kcB b_min (by decide) (by decide) (kc_min2 rfl) g_at_min T.n_min (pa_cons (kv (i := 4) v_at_law_one) (pa_cons (kv (i := 5) v_at_law_two) pa_nil)))))))))), ?_⟩
    cases ha with
    | win h =>
      walk_at "ss"
      refine k_eqT ?_
      walk_at "ss"
      exact k
    | days h he =>
      rename_i e bs p
      obtain ⟨hasc, hle, hlen, hp1, hp2⟩ := op
      walk_at "ss"
      refine k_eqF ne1 ?_
      walk_at "ss"
      refine k_eqT ?_
      walk_at "ss"
      refine k_iT (SqT.of he) ?_
      refine k_forTup (bs.map V.int) (fun i σ H' => H' = H ∧ (∃ v, σ = [some (V.ref a), some (V.int t), v, none, none, none]) ∧ ∀ b ∈ bs.take i, ¬ t < b) ⟨rfl, ⟨none, rfl⟩, fun b hb => (by cases hb)⟩ ?_ ?_ ?_
      · rintro i σ _ _ ⟨rfl, _, _⟩
        exact SqT.of he
      · rintro i x σ _ hx ⟨rfl, ⟨v, rfl⟩, hn⟩
        obtain ⟨c, hc, rfl⟩ := map_int_at hx
        walk_at "ss"
        refine k_d (fun h1 => ?_) (fun h1 => ?_)
        · walk_at "ss"
          have e := dayAt_some (p := p) (find_take hn hc h1)
          rw [← e]
          exact k
        · walk_at "ss"
          exact ⟨rfl, ⟨_, rfl⟩, take_step hn hc h1⟩
      · rintro σ _ ⟨rfl, ⟨v, rfl⟩, hn⟩
        rw [List.length_map, List.take_length] at hn
        walk_at "ss"
        refine k_base (fun Q q => k_op (k_var rfl (k_c (k_ixT (SqT.of h) rfl q)))) he ?_
        walk_at "ss"
        have e := dayAt_none (p := p) hn
        show Q (.int (baseOf bs + ((t - baseOf bs) / p + 1) * p)) _
        rw [← e]
        exact k
    | op h h1 h2 =>
      rename_i a1 a2 o p q
      obtain ⟨op, oq, _, _⟩ := op
      have f1 : 1 + p.forms + q.forms ≤ d + 1 := hf
      walk_at "ss"
      refine k_eqF (neOW o) ?_
      walk_at "ss"
      refine k_eqF (neOD o) ?_
      walk_at "ss"
      cases o with
      | next =>
        refine k_eqT ?_
        walk_at "ss"
        refine ⟨a1, p, t, rfl, h1, op, by omega, ?_⟩
        walk_at "ss"
        exact ⟨a2, q, _, rfl, h2, oq, by omega, k⟩
      | later =>
        refine k_eqF (by decide +kernel) ?_
        walk_at "ss"
        refine ⟨a1, p, t, rfl, h1, op, by omega, ?_⟩
        walk_at "ss"
        refine ⟨a2, q, _, rfl, h2, oq, by omega, ?_⟩
        walk_at "ss"
        refine k_eqT ?_
        walk_at "ss"
        exact k
      | sooner =>
        refine k_eqF (by decide +kernel) ?_
        walk_at "ss"
        refine ⟨a1, p, t, rfl, h1, op, by omega, ?_⟩
        walk_at "ss"
        refine ⟨a2, q, _, rfl, h2, oq, by omega, ?_⟩
        walk_at "ss"
        refine k_eqF (by decide +kernel) ?_
        walk_at "ss"
        exact k
theorem okr_at (T : Tx K mg) : ∀ d, FnOk P w K mg base CX0 (d + 1) T.a_at T.fd_at P_at (spAt d)
  | 0 => by
    have h0 : ∀ vs H Q E, spAt 0 vs H Q E → False := fun vs H Q E h => by
      obtain ⟨a, p, t, _, _, _, hf, _⟩ := h
      have := p.forms_pos
      omega
    exact ⟨fun vs H Q E h => (h0 _ _ _ _ h).elim, fun A outer s H args us vs Q E _ _ _ _ h => (h0 _ _ _ _ h).elim⟩
  | d + 1 => ok_at0 T d (okr_at T d)
theorem ok_at (T : Tx K mg) : FnOk P w K mg base CX0 7 T.a_at T.fd_at P_at (spAt 6) := okr_at T 6
/-! ### the rests made of plans -/
def spMade (T : Tx K mg) (d : Nat) : Sp := fun vs H Q _ => ∃ (F : Addr → Prop) (a : Addr) (p : Plan), (∀ x, F x → H x ≠ none) ∧ vs = [.ref a] ∧ PlanAt H a p ∧ p.Ok ∧ p.forms ≤ d ∧ ∀ r H', Same H H' → RestAt T F H' r p → Q (.ref r) H'
theorem k_make {C : Addr} {sp : Sp} {dvs : List V} {E : XK} {t : TA} {σ : L2.St} {H : Hp} {Q : VK} (h : t σ H fun vs H1 => ∀ x dx, H1 x = none → H1 dx = none → dx ≠ x →
  sp (.ref x :: (vs ++ dvs)) (upd (upd H1 dx (.own x)) x (.ins C dx [])) (fun v H2 => v = .non ∧ Q (.ref x) H2) E) : tMake C sp dvs E t σ H Q := h
theorem same_made {H : Hp} {x dx C : Addr} (nx : H x = none) (ndx : H dx = none) (ne : dx ≠ x) : Same H (upd (upd H dx (.own x)) x (.ins C dx [])) := (same_new ndx).trans (same_new (by rw [upd_ne (Ne.symm ne)]; exact nx))
theorem up_nn {H H' : Hp} {x : Addr} (s : Same H H') (h : H x ≠ none) : H' x ≠ none := by
  cases hz : H x with
  | none => exact absurd hz h
  | some o => rw [s _ _ hz]; intro z; cases z
theorem ok_made0 (T : Tx K mg) (d : Nat) (ih : FnOk P w K mg base CX0 (d + 5) T.a_made T.fd_made P_made (spMade T d)) : FnOk P w K mg base CX0 (d + 6) T.a_made T.fd_made P_made (spMade T (d + 1)) := by
  refine T.F_made.ok sc_made (fun vs H Q E h => ?_) (fun cdv A outer s H vs Q E hr h => ?_)
  · obtain ⟨F, a, p, _, rfl, _⟩ := h
    rfl
  · obtain ⟨F, a, p, hFH, rfl, ha, op, hf, k⟩ := h
    have nd := sc_made.nd
    refine ⟨_, (pss_cons (ps_if (pt_cmpR op_eq (pe_ix (kix K) (kv (i := 0) v_made_law_plan_here) pe_int (fun _ _ => rfl)) pe_str (nomark _)) (pss_one (ps_ret (pe_make T.mk_Window (ok_Window_init T) (hr.mono (by first | decide | omega)) g_made_Window T.m_Window T.b_Window_init .nil pass0 (pa_cons (pe_ix (kix K) (kv (i := 0) v_made_law_plan_here) pe_int (fun _ _ => rfl)) pa_nil)))) pss_nil)
      (pss_cons (ps_if (pt_cmpR op_eq (pe_ix (kix K) (kv (i := 0) v_made_law_plan_here) pe_int (fun _ _ => rfl)) pe_str (nomark _)) (pss_one (ps_ret (pe_make T.mk_Days (ok_Days_init T) (hr.mono (by first | decide | omega)) g_made_Days T.m_Days T.b_Days_init .nil pass0 (pa_cons (kcT b_list (by decide) (by decide) (kc_list K) g_made_list T.n_list (pa_cons (pe_ix (kix K) (kv (i := 0) v_made_law_plan_here) pe_int (fun _ _ => rfl)) pa_nil)) (pa_cons (pe_ix (kix K) (kv (i := 0) v_made_law_plan_here) pe_int (fun _ _ => rfl)) pa_nil))))) pss_nil)
      (pss_cons (ps_par (i := 1) (j := 2) rfl nd rfl rfl (by decide) (locB_ok l_made_law_one) (locB_ok l_made_law_two) (pa_cons (pe_call ih (hr.mono (by first | decide | omega)) g_made_law_made T.m_made T.k_made T.b_made .nil pass0 (pa_cons (pe_ix (kix K) (kv (i := 0) v_made_law_plan_here) pe_int (fun _ _ => rfl)) pa_nil)) (pa_cons (pe_call ih (hr.mono (by first | decide | omega)) g_made_law_made T.m_made T.k_made T.b_made .nil pass0 (pa_cons (pe_ix (kix K) (kv (i := 0) v_made_law_plan_here) pe_int (fun _ _ => rfl)) pa_nil)) pa_nil)) (by rfl))
      (pss_cons (ps_if (pt_cmpR op_eq (pe_ix (kix K) (kv (i := 0) v_made_law_plan_here) pe_int (fun _ _ => rfl)) pe_str (nomark _)) (pss_one (ps_ret (pe_make T.mk_Later (ok_Later_init T) (hr.mono (by first | decide | omega)) g_made_Later T.m_Later T.b_Later_init .nil pass0 (pa_cons (kv (i := 1) v_made_law_one) (pa_cons (kv (i := 2) v_made_law_two) pa_nil))))) pss_nil)
      (pss_one (ps_ret (pe_ifExp (pt_cmpR op_eq (pe_ix (kix K) (kv (i := 0) v_made_law_plan_here) pe_int (fun _ _ => rfl)) pe_str (nomark _)) (pe_make T.mk_Sooner (ok_Sooner_init T) (hr.mono (by first | decide | omega)) g_made_Sooner T.m_Sooner T.b_Sooner_init .nil pass0 (pa_cons (kv (i := 1) v_made_law_one) (pa_cons (kv (i := 2) v_made_law_two) pa_nil))) (pe_make T.mk_Next (ok_Next_init T) (hr.mono (by first | decide | omega)) g_made_Next T.m_Next T.b_Next_init .nil pass0 (pa_cons (kv (i := 1) v_made_law_one) (pa_cons (kv (i := 2) v_made_law_two) pa_nil)))))))))), ?_⟩
    cases ha with
    | win h =>
      rename_i w0
      walk_at "ss"
      refine k_eqT ?_
      walk_at "ss"
      refine k_make ?_
      walk_at "ss"
      intro x dx nx ndx ne
      exact ⟨F, x, dx, w0, rfl, op.1, op.2, upd_same, fun H' s r => ⟨rfl, k x H' (SameBut.made nx ndx ne s) r⟩⟩
    | days h he =>
      rename_i e bs p
      walk_at "ss"
      refine k_eqF ne1 ?_
      walk_at "ss"
      refine k_eqT ?_
      walk_at "ss"
      refine k_make ?_
      walk_at "ss"
      refine k_listT (SqT.of he) ?_
      intro l nl
      generalize el : upd H l _ = H1
      have sl := upd_sm el nl
      have hl := upd_at el
      clear el
      have h := sl _ _ h
      walk_at "ss"
      intro x dx nx ndx ne
      exact ⟨F, x, dx, l, bs, p, fun z hz => up_nn (same_made nx ndx ne) (up_nn sl (hFH z hz)), rfl, op, upd_same, same_made nx ndx ne _ _ hl, fun H' s r => ⟨rfl, k x H' (sl.trans (SameBut.made nx ndx ne s)) r⟩⟩
    | op h h1 h2 =>
      rename_i a1 a2 o p q
      have op' := op
      obtain ⟨op, oq, _, _⟩ := op
      have f1 : 1 + p.forms + q.forms ≤ d + 1 := hf
      walk_at "ss"
      refine k_eqF (neOW o) ?_
      walk_at "ss"
      refine k_eqF (neOD o) ?_
      walk_at "ss"
      refine ⟨F, a1, p, hFH, rfl, h1, op, by omega, fun r1 H1 s1 hr1 => ?_⟩
      have h := s1 _ _ h
      walk_at "ss"
      refine ⟨F, a2, q, fun z hz => up_nn s1 (hFH z hz), rfl, h2.up s1, oq, by omega, fun r2 H2 s2 hr2 => ?_⟩
      have h := s2 _ _ h
      have s12 := s1.trans s2
      have hr1 := hr1.up s2
      walk_at "ss"
      cases o with
      | later =>
        refine k_eqT ?_
        walk_at "ss"
        refine k_make ?_
        walk_at "ss"
        intro x dx nx ndx ne
        have sm := same_made (C := T.C_Later) nx ndx ne
        exact ⟨F, x, dx, r1, r2, p, q, rfl, op', upd_same, hr1.up sm, hr2.up sm, fun H' s r => ⟨rfl, k x H' (s12.trans (SameBut.made nx ndx ne s)) r⟩⟩
      | sooner =>
        refine k_eqF (by decide +kernel) ?_
        walk_at "ss"
        refine k_eqT ?_
        walk_at "ss"
        refine k_make ?_
        walk_at "ss"
        intro x dx nx ndx ne
        have sm := same_made (C := T.C_Sooner) nx ndx ne
        exact ⟨F, x, dx, r1, r2, p, q, rfl, op', upd_same, hr1.up sm, hr2.up sm, fun H' s r => ⟨rfl, k x H' (s12.trans (SameBut.made nx ndx ne s)) r⟩⟩
      | next =>
        refine k_eqF (by decide +kernel) ?_
        walk_at "ss"
        refine k_eqF (by decide +kernel) ?_
        walk_at "ss"
        refine k_make ?_
        walk_at "ss"
        intro x dx nx ndx ne
        have sm := same_made (C := T.C_Next) nx ndx ne
        exact ⟨F, x, dx, r1, r2, p, q, rfl, op', upd_same, hr1.up sm, hr2.up sm, fun H' s r => ⟨rfl, k x H' (s12.trans (SameBut.made nx ndx ne s)) r⟩⟩
theorem okr_made (T : Tx K mg) : ∀ d, FnOk P w K mg base CX0 (d + 5) T.a_made T.fd_made P_made (spMade T d)
  | 0 => by
    have h0 : ∀ vs H Q E, spMade T 0 vs H Q E → False := fun vs H Q E h => by
      obtain ⟨F, a, p, _, _, _, _, hf, _⟩ := h
      have := p.forms_pos
      omega
    exact ⟨fun vs H Q E h => (h0 _ _ _ _ h).elim, fun A outer s H args us vs Q E _ _ _ _ h => (h0 _ _ _ _ h).elim⟩
  | d + 1 => ok_made0 T d (okr_made T d)
theorem ok_made (T : Tx K mg) : FnOk P w K mg base CX0 11 T.a_made T.fd_made P_made (spMade T 6) := okr_made T 6
/-! ### what a plan's facts are -/
end

theorem at_gt : ∀ {p : Plan}, p.Ok → ∀ t, t < p.at t
  | .win w, h, t => by show t < t + w; have := h.1; omega
  | .days bs p, ⟨_, _, _, hp, _⟩, t => by
    show t < dayAt bs p t
    cases hf : bs.find? (fun b => decide (t < b)) with
    | some c =>
      rw [dayAt_some hf]
      simpa using List.find?_some hf
    | none =>
      have := List.find?_eq_none.mp hf
      rw [dayAt_none (by simpa using this)]
      have := Int.lt_ediv_add_one_mul_self (t - baseOf bs) (b := p) (by omega)
      omega
  | .op o a b, ⟨ha, hb, _, _⟩, t => by
    have h1 := at_gt ha t
    have h2 := at_gt hb t
    have h3 := at_gt hb (a.at t)
    cases o
    · show t < mx _ _; unfold mx; split <;> omega
    · show t < mn _ _; unfold mn; split <;> omega
    · show t < b.at (a.at t); omega
theorem find_min : ∀ {l : Int} {bs : List Int} {t c d : Int}, Asc l bs → bs.find? (fun b => decide (t < b)) = some c → d ∈ bs → t < d → c ≤ d
  | _, [], _, _, _, _, h, _, _ => by cases h
  | l, b :: r, t, c, d, ⟨h1, h2⟩, h, hd, ht => by
    by_cases e : t < b
    · have : c = b := by simpa [List.find?_cons, e] using h.symm
      subst this
      rcases List.mem_cons.mp hd with rfl | hd
      · exact Int.le_refl _
      · exact Int.le_of_lt (asc_lt h2 d hd)
    · have h : r.find? (fun b => decide (t < b)) = some c := by simpa [List.find?_cons, e] using h
      rcases List.mem_cons.mp hd with rfl | hd
      · omega
      · exact find_min h2 h hd ht
theorem base_mem {bs : List Int} (h : bs ≠ []) : baseOf bs ∈ bs := by
  unfold baseOf
  rw [List.getLast?_eq_some_getLast h]
  exact List.getLast_mem h
theorem at_mono : ∀ {p : Plan}, p.Ok → ∀ {t u : Int}, t ≤ u → p.at t ≤ p.at u
  | .win w, h, t, u, e => by show t + w ≤ u + w; omega
  | .days bs p, ⟨ha, _, _, hp, _⟩, t, u, e => by
    show dayAt bs p t ≤ dayAt bs p u
    cases hu : bs.find? (fun b => decide (u < b)) with
    | some d =>
      rw [dayAt_some hu]
      have h1 : u < d := by simpa using List.find?_some hu
      have h2 := List.mem_of_find?_eq_some hu
      cases ht : bs.find? (fun b => decide (t < b)) with
      | some c =>
        rw [dayAt_some ht]
        exact find_min ha ht h2 (by omega)
      | none =>
        have := List.find?_eq_none.mp ht d h2
        simp at this
        omega
    | none =>
      have hn : ∀ b ∈ bs, ¬ u < b := by simpa using List.find?_eq_none.mp hu
      rw [dayAt_none hn]
      cases ht : bs.find? (fun b => decide (t < b)) with
      | some c =>
        rw [dayAt_some ht]
        have h2 := List.mem_of_find?_eq_some ht
        have h3 := asc_base ha c h2
        have h4 := hn _ (base_mem (List.ne_nil_of_mem h2))
        have h5 : 0 ≤ (u - baseOf bs) / p := Int.ediv_nonneg (by omega) (by omega)
        have h6 : 0 ≤ ((u - baseOf bs) / p + 1) * p := Int.mul_nonneg (by omega) (by omega)
        omega
      | none =>
        rw [dayAt_none (by simpa using List.find?_eq_none.mp ht)]
        have h5 : (t - baseOf bs) / p ≤ (u - baseOf bs) / p := Int.ediv_le_ediv (by omega) (by omega)
        have h6 : ((t - baseOf bs) / p + 1) * p ≤ ((u - baseOf bs) / p + 1) * p := Int.mul_le_mul_of_nonneg_right (by omega) (by omega)
        omega
  | .op o a b, ⟨ha, hb, _, _⟩, t, u, e => by
    have h1 := at_mono ha e
    have h2 := at_mono hb e
    have h3 := at_mono hb h1
    cases o
    · show mx _ _ ≤ mx _ _; unfold mx; split <;> split <;> omega
    · show mn _ _ ≤ mn _ _; unfold mn; split <;> split <;> omega
    · exact h3
theorem at_le : ∀ {p : Plan}, p.Ok → ∀ {t : Int}, 0 ≤ t → p.at t ≤ t + 2000 * (p.forms : Nat)
  | .win w, h, t, e => by
    show t + w ≤ t + 2000 * ((1 : Nat) : Int)
    have := h.2
    omega
  | .days bs p, ⟨_, hle, _, hp, hp2⟩, t, e => by
    show dayAt bs p t ≤ t + 2000 * ((1 : Nat) : Int)
    cases ht : bs.find? (fun b => decide (t < b)) with
    | some c =>
      rw [dayAt_some ht]
      have := hle c (List.mem_of_find?_eq_some ht)
      omega
    | none =>
      rw [dayAt_none (by simpa using List.find?_eq_none.mp ht)]
      have := Int.ediv_mul_le (t - baseOf bs) (b := p) (by omega)
      rw [Int.add_mul]
      omega
  | .op o a b, ⟨ha, hb, _, _⟩, t, e => by
    have h0 := at_gt ha t
    have h1 := at_le ha e
    have h2 := at_le hb e
    have h3 := at_le hb (t := a.at t) (by omega)
    have f : ((Plan.op o a b).forms : Int) = 1 + a.forms + b.forms := by
      show ((1 + a.forms + b.forms : Nat) : Int) = _
      omega
    rw [f]
    cases o
    · show mx _ _ ≤ _; unfold mx; split <;> omega
    · show mn _ _ ≤ _; unfold mn; split <;> omega
    · show b.at (a.at t) ≤ _; omega
theorem at_shift : ∀ {p : Plan}, p.Ok → ∀ {t m : Int}, p.bend ≤ t → 0 ≤ m → p.period ∣ m → p.at (t + m) = p.at t + m
  | .win w, _, t, m, _, _, _ => by show t + m + w = t + w + m; omega
  | .days bs p, ⟨ha, _, _, hp, _⟩, t, m, hb, h0, hd => by
    have hb : baseOf bs ≤ t := hb
    have hn : ∀ u, t ≤ u → ∀ b ∈ bs, ¬ u < b := fun u hu b h => by
      have := asc_base ha b h
      omega
    show dayAt bs p (t + m) = dayAt bs p t + m
    rw [dayAt_none (hn t (Int.le_refl _)), dayAt_none (hn (t + m) (by omega))]
    obtain ⟨k, rfl⟩ : p ∣ m := hd
    have e : t + p * k - baseOf bs = (t - baseOf bs) + p * k := by omega
    rw [e, Int.add_mul_ediv_left _ _ (by omega)]
    rw [Int.add_mul, Int.add_mul, Int.add_mul, Int.mul_comm k p]
    omega
  | .op o a b, ⟨ha, hb, _, _⟩, t, m, hbd, h0, hd => by
    have hbd : mx a.bend b.bend ≤ t := hbd
    have b1 : a.bend ≤ t ∧ b.bend ≤ t := by unfold mx at hbd; split at hbd <;> omega
    have d1 : a.period ∣ m := Int.dvd_trans (dvd_lcmI_left _ _) hd
    have d2 : b.period ∣ m := Int.dvd_trans (dvd_lcmI_right _ _) hd
    have h1 := at_shift ha b1.1 h0 d1
    have h2 := at_shift hb b1.2 h0 d2
    have h3 := at_shift hb (t := a.at t) (by have := at_gt ha t; omega) h0 d2
    cases o
    · show mx _ _ = mx _ _ + m; rw [h1, h2]; unfold mx; split <;> split <;> omega
    · show mn _ _ = mn _ _ + m; rw [h1, h2]; unfold mn; split <;> split <;> omega
    · show b.at (a.at (t + m)) = b.at (a.at t) + m; rw [h1, h3]
theorem bend_bd : ∀ {p : Plan}, p.Ok → 0 ≤ p.bend ∧ p.bend ≤ 1000
  | .win w, _ => ⟨by show (0 : Int) ≤ 0; decide, by show (0 : Int) ≤ 1000; decide⟩
  | .days bs p, ⟨ha, hle, _, _, _⟩ => by
    show 0 ≤ baseOf bs ∧ baseOf bs ≤ 1000
    by_cases h : bs = []
    · subst h; exact ⟨by decide, by decide⟩
    · have hm := base_mem h
      exact ⟨Int.le_of_lt (asc_lt ha _ hm), hle _ hm⟩
  | .op o a b, ⟨ha, hb, _, _⟩ => by
    have h1 := bend_bd ha
    have h2 := bend_bd hb
    show 0 ≤ mx a.bend b.bend ∧ mx a.bend b.bend ≤ 1000
    unfold mx
    split <;> omega

abbrev Us := List (Int × Int)
def cum (us : Us) (x : Int) : Int := (us.map fun z => if z.1 < x then z.2 else 0).sum
def wsum (us : Us) (lo hi : Int) : Int := (us.map fun z => if lo ≤ z.1 ∧ z.1 < hi then z.2 else 0).sum
def tot1 (us : Us) (m : Int) : Int := (us.map fun z => if z.1 = m then z.2 else 0).sum
def pre (us : Us) (A : List Int) : Int := (us.map fun z => if z.1 ∈ A then z.2 else 0).sum
theorem wsum_cum {lo hi : Int} (h : lo ≤ hi) : ∀ us : Us, wsum us lo hi = cum us hi - cum us lo
  | [] => rfl
  | z :: us => by
    have ih := wsum_cum h us
    unfold wsum cum at ih ⊢
    simp only [List.map_cons, List.sum_cons]
    rw [ih]
    split <;> split <;> split <;> omega
theorem cum_pre {x : Int} {A : List Int} : ∀ {us : Us}, (∀ z ∈ us, z.1 < x ↔ z.1 ∈ A) → cum us x = pre us A
  | [], _ => rfl
  | z :: us, h => by
    have ih := cum_pre (us := us) fun y hy => h y (List.mem_cons_of_mem _ hy)
    have h1 := h z List.mem_cons_self
    unfold cum pre at ih ⊢
    simp only [List.map_cons, List.sum_cons]
    rw [ih]
    by_cases e : z.1 < x
    · rw [if_pos e, if_pos (h1.mp e)]
    · rw [if_neg e, if_neg (fun q => e (h1.mpr q))]
theorem pre_snoc {A : List Int} {m : Int} (hm : m ∉ A) : ∀ us : Us, pre us (A ++ [m]) = pre us A + tot1 us m
  | [] => rfl
  | z :: us => by
    have ih := pre_snoc hm us
    unfold pre tot1 at ih ⊢
    simp only [List.map_cons, List.sum_cons]
    rw [ih]
    by_cases e : z.1 = m
    · have e1 : z.1 ∈ A ++ [m] := by rw [e]; simp
      have e2 : ¬ z.1 ∈ A := by rw [e]; exact hm
      rw [if_pos e1, if_neg e2, if_pos e]
      omega
    · by_cases e1 : z.1 ∈ A
      · rw [if_pos (List.mem_append_left _ e1), if_pos e1, if_neg e]
        omega
      · have e2 : ¬ z.1 ∈ A ++ [m] := by simp [e1, e]
        rw [if_neg e2, if_neg e1, if_neg e]
        omega
theorem tot1_snoc (us : Us) (m n x : Int) : tot1 (us ++ [(m, n)]) x = tot1 us x + if m = x then n else 0 := by
  unfold tot1
  rw [List.map_append, List.sum_append]
  simp
theorem tot1_none {m : Int} : ∀ {us : Us}, (∀ z ∈ us, z.1 ≠ m) → tot1 us m = 0
  | [], _ => rfl
  | z :: us, h => by
    have ih := tot1_none (us := us) fun y hy => h y (List.mem_cons_of_mem _ hy)
    unfold tot1 at ih ⊢
    simp only [List.map_cons, List.sum_cons]
    rw [ih, if_neg (h z List.mem_cons_self)]
    rfl
theorem wsum_nn {lo hi : Int} : ∀ {us : Us}, (∀ z ∈ us, 1 ≤ z.2) → 0 ≤ wsum us lo hi
  | [], _ => Int.le_refl _
  | z :: us, h => by
    have ih := wsum_nn (lo := lo) (hi := hi) (us := us) fun y hy => h y (List.mem_cons_of_mem _ hy)
    have h1 := h z List.mem_cons_self
    unfold wsum at ih ⊢
    simp only [List.map_cons, List.sum_cons]
    split <;> omega
theorem wsum_pos {lo hi : Int} : ∀ {us : Us} {y : Int × Int}, (∀ z ∈ us, 1 ≤ z.2) → y ∈ us → lo ≤ y.1 → y.1 < hi → 1 ≤ wsum us lo hi
  | z :: us, y, h, hy, h0, h1 => by
    have nn := wsum_nn (lo := lo) (hi := hi) (us := us) fun y hy => h y (List.mem_cons_of_mem _ hy)
    have h2 := h z List.mem_cons_self
    rcases List.mem_cons.mp hy with rfl | hy
    · unfold wsum at nn ⊢
      simp only [List.map_cons, List.sum_cons]
      rw [if_pos ⟨h0, h1⟩]
      omega
    · have ih := wsum_pos (us := us) (fun y hy => h y (List.mem_cons_of_mem _ hy)) hy h0 h1
      unfold wsum at ih ⊢
      simp only [List.map_cons, List.sum_cons]
      split <;> omega
theorem wsum_le {lo hi hi' : Int} (hh : hi ≤ hi') : ∀ {us : Us}, (∀ z ∈ us, 1 ≤ z.2) → wsum us lo hi ≤ wsum us lo hi'
  | [], _ => Int.le_refl _
  | z :: us, h => by
    have ih := wsum_le (lo := lo) hh (us := us) fun y hy => h y (List.mem_cons_of_mem _ hy)
    have h1 := h z List.mem_cons_self
    unfold wsum at ih ⊢
    simp only [List.map_cons, List.sum_cons]
    split <;> split <;> omega
theorem wsum_none {lo hi : Int} : ∀ {us : Us}, (∀ z ∈ us, ¬ (lo ≤ z.1 ∧ z.1 < hi)) → wsum us lo hi = 0
  | [], _ => rfl
  | z :: us, h => by
    have ih := wsum_none (us := us) fun y hy => h y (List.mem_cons_of_mem _ hy)
    unfold wsum at ih ⊢
    simp only [List.map_cons, List.sum_cons]
    rw [ih, if_neg (h z List.mem_cons_self)]
    rfl
theorem wsum_lo {lo lo' hi : Int} (hl : lo ≤ lo') : ∀ {us : Us}, (∀ z ∈ us, ¬ (lo ≤ z.1 ∧ z.1 < lo')) → wsum us lo hi = wsum us lo' hi
  | [], _ => rfl
  | z :: us, h => by
    have ih := wsum_lo (hi := hi) hl (us := us) fun y hy => h y (List.mem_cons_of_mem _ hy)
    have h1 := h z List.mem_cons_self
    unfold wsum at ih ⊢
    simp only [List.map_cons, List.sum_cons]
    rw [ih]
    split <;> split <;> omega
/-- the least moment from s on -/
theorem next_use (s : Int) : ∀ us : Us, (∀ z ∈ us, z.1 < s) ∨ ∃ y ∈ us, s ≤ y.1 ∧ ∀ z ∈ us, ¬ (s ≤ z.1 ∧ z.1 < y.1)
  | [] => .inl fun z hz => by cases hz
  | x :: us => by
    rcases next_use s us with h | ⟨y, hy, h0, h1⟩
    · by_cases e : s ≤ x.1
      · refine .inr ⟨x, List.mem_cons_self, e, fun z hz => ?_⟩
        rcases List.mem_cons.mp hz with rfl | hz
        · omega
        · have := h z hz; omega
      · refine .inl fun z hz => ?_
        rcases List.mem_cons.mp hz with rfl | hz
        · omega
        · exact h z hz
    · by_cases e : s ≤ x.1 ∧ x.1 < y.1
      · refine .inr ⟨x, List.mem_cons_self, e.1, fun z hz => ?_⟩
        rcases List.mem_cons.mp hz with rfl | hz
        · omega
        · have := h1 z hz; omega
      · refine .inr ⟨y, List.mem_cons_of_mem _ hy, h0, fun z hz => ?_⟩
        rcases List.mem_cons.mp hz with rfl | hz
        · exact e
        · exact h1 z hz
/-- the best of a row of moments -/
def Best (f : Int → Int) (A : List Int) (v : Int) (st : Option Int) : Prop := (A = [] ∧ v = 0 ∧ st = none) ∨ ∃ m ∈ A, st = some m ∧ v = f m ∧ (∀ y ∈ A, f y ≤ v) ∧ ∀ y ∈ A, y < m → f y < v
theorem best_nil (f : Int → Int) : Best f [] 0 none := .inl ⟨rfl, rfl, rfl⟩
theorem best_up {f : Int → Int} {A : List Int} {v s : Int} {st : Option Int} (h : Best f A v st) (hp : v < f s) : Best f (A ++ [s]) (f s) (some s) := by
  refine .inr ⟨s, by simp, rfl, rfl, fun y hy => ?_, fun y hy hl => ?_⟩
  · rcases List.mem_append.mp hy with hy | hy
    · rcases h with ⟨rfl, _⟩ | ⟨m, _, _, _, h1, _⟩
      · cases hy
      · have := h1 y hy; omega
    · rw [List.mem_singleton.mp hy]; exact Int.le_refl _
  · rcases List.mem_append.mp hy with hy | hy
    · rcases h with ⟨rfl, _⟩ | ⟨m, _, _, _, h1, _⟩
      · cases hy
      · have := h1 y hy; omega
    · rw [List.mem_singleton.mp hy] at hl; omega
theorem best_stay {f : Int → Int} {A : List Int} {v s : Int} {st : Option Int} (h : Best f A v st) (hs : ∀ y ∈ A, y ≤ s) (h1 : 1 ≤ f s) (hp : ¬ v < f s) : Best f (A ++ [s]) v st := by
  rcases h with ⟨rfl, rfl, _⟩ | ⟨m, hm, e1, e2, k1, k2⟩
  · omega
  · refine .inr ⟨m, List.mem_append_left _ hm, e1, e2, fun y hy => ?_, fun y hy hl => ?_⟩
    · rcases List.mem_append.mp hy with hy | hy
      · exact k1 y hy
      · rw [List.mem_singleton.mp hy]; omega
    · rcases List.mem_append.mp hy with hy | hy
      · exact k2 y hy hl
      · have := hs m hm
        rw [List.mem_singleton.mp hy] at hl
        omega
theorem best_same {f : Int → Int} {A B : List Int} {v v' : Int} {st st' : Option Int} (h : Best f A v st) (h' : Best f B v' st') (hAB : ∀ m, m ∈ A ↔ m ∈ B) : v = v' ∧ st = st' := by
  rcases h with ⟨rfl, rfl, rfl⟩ | ⟨m, hm, rfl, e2, k1, k2⟩
  · rcases h' with ⟨rfl, rfl, rfl⟩ | ⟨m, hm, rfl, e2, k1, k2⟩
    · exact ⟨rfl, rfl⟩
    · have := (hAB m).mpr hm
      cases this
  · rcases h' with ⟨rfl, rfl, rfl⟩ | ⟨m', hm', rfl, e2', k1', k2'⟩
    · have := (hAB m).mp hm
      cases this
    · have a1 := k1' m ((hAB m).mp hm)
      have a2 := k1 m' ((hAB m').mpr hm')
      have a3 : ¬ m < m' := fun q => by have := k2' m ((hAB m).mp hm) q; omega
      have a4 : ¬ m' < m := fun q => by have := k2 m' ((hAB m').mpr hm') q; omega
      have e : m = m' := by omega
      subst e
      exact ⟨by omega, rfl⟩
def wOf (p : Plan) (us : Us) : Int → Int := fun s => wsum us s (p.at s)
def stV : Option Int → V
  | none => .non
  | some m => .int m
abbrev Full (p : Plan) (us : Us) (v : Int) (st : Option Int) : Prop := Best (wOf p us) (us.map (·.1)) v st
theorem full_same {p : Plan} {us : Us} {v v' : Int} {st st' : Option Int} (h : Full p us v st) (h' : Full p us v' st') : v = v' ∧ st = st' := best_same h h' fun _ => Iff.rfl
theorem full_of {p : Plan} {us : Us} {A : List Int} {v : Int} {st : Option Int} (h : Best (wOf p us) A v st) (hA : ∀ m, m ∈ A ↔ m ∈ us.map (·.1)) : Full p us v st := by
  rcases h with ⟨rfl, rfl, rfl⟩ | ⟨m, hm, e1, e2, k1, k2⟩
  · refine .inl ⟨?_, rfl, rfl⟩
    cases h : us.map (·.1) with
    | nil => rfl
    | cons x r =>
      have := (hA x).mpr (by rw [h]; exact List.mem_cons_self)
      cases this
  · exact .inr ⟨m, (hA m).mp hm, e1, e2, fun y hy => k1 y ((hA y).mpr hy), fun y hy hl => k2 y ((hA y).mpr hy) hl⟩
theorem w_one {p : Plan} (op : p.Ok) {us : Us} (hu : ∀ z ∈ us, 1 ≤ z.2) {m : Int} (hm : m ∈ us.map (·.1)) : 1 ≤ wOf p us m := by
  obtain ⟨z, hz, rfl⟩ := List.mem_map.mp hm
  exact wsum_pos hu hz (Int.le_refl _) (at_gt op _)
/-- no stretch of any moment has more than that of a use -/
theorem w_max {p : Plan} (op : p.Ok) {us : Us} (hu : ∀ z ∈ us, 1 ≤ z.2) {v : Int} {st : Option Int} (h : Full p us v st) (s : Int) : wOf p us s ≤ v := by
  have h0 : 0 ≤ v := by
    rcases h with ⟨_, rfl, _⟩ | ⟨m, hm, _, _, k1, _⟩
    · exact Int.le_refl _
    · have := w_one op hu hm; have := k1 m hm; omega
  rcases next_use s us with hn | ⟨y, hy, h1, h2⟩
  · rw [wOf, wsum_none (fun z hz q => by have := hn z hz; omega)]
    exact h0
  · have e := wsum_lo (hi := p.at s) h1 h2
    have e1 := wsum_le (lo := y.1) (at_mono op h1) hu
    have hm : y.1 ∈ us.map (·.1) := List.mem_map.mpr ⟨y, hy, rfl⟩
    have e2 : wOf p us y.1 ≤ v := by
      rcases h with ⟨e, _⟩ | ⟨_, _, _, _, k1, _⟩
      · rw [e] at hm; cases hm
      · exact k1 _ hm
    unfold wOf at e2 ⊢
    omega

section
variable {X : Cx}
theorem kc_sorted (K : PySem.W.Frag) (hK : X.K = K := by rfl) : CallR X (.builtin "sorted") (rSorted K) := by subst hK; exact cr_sorted
theorem kc_maxL (K : PySem.W.Frag) (hc : X.calm = true) (hK : X.K = K := by rfl) : CallR X (.builtin "max") (L2.rMax K) := by subst hK; exact cr_max hc
theorem kc_minL (K : PySem.W.Frag) (hc : X.calm = true) (hK : X.K = K := by rfl) : CallR X (.builtin "min") (L2.rMin K) := by subst hK; exact cr_min hc
def rSortDI : List V → Hp → VK → Prop := fun xs H Q => ∃ (a : Addr) (kvs : List (Key × V)) (ks : List Int), xs = [.ref a] ∧ Rd H a (.dK kvs) ∧ kvs.map (·.1) = ks.map Sum.inl ∧ ks.length < 64 ∧
    ∀ (ys : List Int) (p : Addr), ys.Perm ks → ys.Pairwise (· ≤ ·) → H p = none → Q (.ref p) (upd H p (.lst (ys.map V.int)))
theorem kc_sortedDI (hc : X.calm = true) : CallR X (.builtin "sorted") rSortDI := call_sortedDI hc
/-- a list or a tuple that is walked -/
def iSeq (K : PySem.W.Frag) (tl : TE) : TI := fun σ H R => iList K tl σ H R ∨ iTup K tl σ H R
theorem kpi_seq (K : PySem.W.Frag) {tg l : Expr} {tl : TE} (hl : PE X l tl) (hK : X.K = K := by rfl) : PI X tg l (iSeq K tl) :=
  ⟨fun pins s σ H R I h => h.elim (fun h => (kpi_list K hl hK).run pins s σ H R I h) (fun h => (kpi_tup K hl hK).run pins s σ H R I h)⟩
end
section
variable {K : PySem.W.Frag} {σ : L2.St} {H : Hp} {D : Ends} {Q : VK}
theorem walk_zipT {a b : Addr} {xs ys : List V} {n : Nat} (hn : n = min xs.length ys.length) : Walk (RZ.ItzT K a b) n (fun H => SqT K H a xs ∧ SqT K H b ys) (YPair (fun i => xs[i]?) (fun i => ys[i]?)) := by
  subst hn
  refine ⟨fun i _ hi q => ?_, fun _ q => ⟨xs, ys, q.1, q.2, by omega⟩, fun i H v H' _ q y => ?_⟩
  · have h1 : i < xs.length := by omega
    have h2 : i < ys.length := by omega
    exact ⟨xs, ys, xs[i], ys[i], q.1, q.2, by simp [h1], by simp [h2]⟩
  · obtain ⟨T, x, z, h1, h2, h3, h4, h5⟩ := y
    exact ⟨T, x, z, h1, h2, h3, h4 xs q.1, h5 ys q.2⟩
theorem walk_zipL {a b : Addr} {xs ys : List V} {n : Nat} (hn : n = min xs.length ys.length) : Walk (Itz K a b) n (fun H => SqL K H a xs ∧ SqL K H b ys) (YPair (fun i => xs[i]?) (fun i => ys[i]?)) := walk_zip hn
theorem k_iStr {te : TE} {R : It → Hp → Prop} (h : te σ H fun v H1 => ∃ x, v = .str x ∧ R (Its x) H1) : iStr te σ H R := h
theorem zL {A B : Prop} (h : A) : A ∨ B := .inl h
theorem zT {A B : Prop} (h : B) : A ∨ B := .inr h
theorem walk_L {a : Addr} {xs : List V} : Walk (Itl K a) xs.length (fun H => SqL K H a xs) (YAt xs) := walk_list
theorem walk_T {a : Addr} {xs : List V} : Walk (Itt K a) xs.length (fun H => SqT K H a xs) (YAt xs) := walk_tup
theorem k_iZipA {ta : TA} {R : It → Hp → Prop} (h : ta σ H fun vs H1 => ∃ a b xs ys, vs = [.ref a, .ref b] ∧ ((SqL K H1 a xs ∧ SqL K H1 b ys ∧ R (Itz K a b) H1) ∨ (SqT K H1 a xs ∧ SqT K H1 b ys ∧ R (RZ.ItzT K a b) H1))) : RZ.iZipA K ta σ H R := h
theorem k_seqL {tl : TE} {R : It → Hp → Prop} (h : iList K tl σ H R) : iSeq K tl σ H R := .inl h
theorem k_seqT {tl : TE} {R : It → Hp → Prop} (h : iTup K tl σ H R) : iSeq K tl σ H R := .inr h
theorem k_dnew (h : ∀ p, H p = none → Q (.ref p) (upd H p (.dK []))) : tDNewK σ H Q := h
theorem k_dget2 {td ty tx : TE} (h : td σ H fun x H1 => ∃ a, x = .ref a ∧ IsD H1 a ∧ ty σ H1 fun y H2 => tx σ H2 fun z H3 => ∃ o, DGet H3 a y o ∧ Q (o.getD z) H3) : tDGet2 td ty tx σ H Q := h
theorem k_dget {td ty : TE} (h : td σ H fun x H1 => ty σ H1 fun y H2 => ∃ a v, x = .ref a ∧ DGet H2 a y (some v) ∧ Q v H2) : tDGet td ty σ H Q := h
theorem k_aug {i : Nat} {x : V} {te : TE} {ti : TIp} (hx : σ[i]? = some (some x)) (h : te σ H fun y H1 => ti x y H1 fun z H2 => D.nx (σ.set i (some z)) H2) : tAug i te ti D σ H := ⟨x, hx, h⟩
theorem k_asg2 {te : TE} {g1 g2 : TG} (h : te σ H fun x H1 => g1 x σ H1 fun σ1 H2 => g2 x σ1 H2 D.nx) : tAsg2 te g1 g2 D σ H := h
theorem k_ipI {f : Int → Int → Int} {i j : Int} (h : Q (.int (f i j)) H) : ipI f (.int i) (.int j) H Q := ⟨i, j, rfl, rfl, h⟩
theorem k_setD {a : Addr} {i v : V} {H' : Hp} {Q : Hp → Prop} (h : DPut H a i v H') (q : Q H') : rSetD (.ref a) i v H Q := ⟨a, H', rfl, h, q⟩
end

/-! ### names, rules -/
section
variable {w : World} {K : PySem.W.Frag} {mg : Str → Option Value} {base : Heap}
def nameB (z : Str) : Prop := ∃ c r, z.cps.toList = c :: r ∧ z.length ≤ 8 ∧ c ∈ (("abcdefghijklmnopqrstuvwxyz" : Str)).cps.toList ∧ ∀ d ∈ z.cps.toList, d ∈ (("abcdefghijklmnopqrstuvwxyz" : Str)).cps.toList ∨ d ∈ (("0123456789" : Str)).cps.toList
def spName : Sp := fun vs H Q _ => ∃ z : Str, vs = [.str z] ∧ nameB z ∧ Q (.bl true) H
theorem str_len (z : Str) : z.length = z.cps.toList.length := by rw [Array.length_toList]; rfl
theorem ok_is_name (T : Tx K mg) : FnOk P w K mg base CX0 1 T.a_is_name T.fd_is_name P_is_name spName := by
  refine T.F_is_name.ok sc_is_name (fun vs H Q E h => ?_) (fun cdv A outer s H vs Q E hr h => ?_)
  · obtain ⟨z, rfl, _⟩ := h
    rfl
  · obtain ⟨z, rfl, ⟨c, r, hz, hl, hc, hall⟩, k⟩ := h
    have nd := sc_is_name.nd
    have hlen : z.length = r.length + 1 := by rw [str_len, hz]; rfl
    refine ⟨_, (pss_cons (ps_if (PW.pt (pw_or (pt_not (pt_val (kcB b_isinstance (by decide) (by decide) (kc_isi K) g_is_name_isinstance T.n_isinstance (pa_cons (kv (i := 0) v_is_name_value) (pa_cons (kty_str g_is_name_str T.n_str) pa_nil))))) (pw_or (pt_not (pt_chain op_le op_le pe_int (kcB b_len (by decide) (by decide) (kc_len K) g_is_name_len T.n_len (pa_cons (kv (i := 0) v_is_name_value) pa_nil)) pe_int)) (pw_or1 (pt_cmpR op_notIn_sign (pe_ix (kix K) (kv (i := 0) v_is_name_value) pe_int (fun _ _ => rfl)) (pe_glob g_is_name_LETTERS T.m_LETTERS T.r_LETTERS) (by rfl)))))) (pss_one (ps_ret pe_bl)) pss_nil)
      (pss_cons (ps_for PassesOwn.never rfl (pi_str (kv (i := 0) v_is_name_value)) (kgL (i := 1) nd l_is_name_sign) (pss_one (ps_if (PW.pt (pw_and (pt_cmpR op_notIn_sign (kv (i := 1) v_is_name_sign) (pe_glob g_is_name_LETTERS T.m_LETTERS T.r_LETTERS) (by rfl)) (pw_and1 (pt_cmpR op_notIn_sign (kv (i := 1) v_is_name_sign) (pe_glob g_is_name_DIGITS T.m_DIGITS T.r_DIGITS) (by rfl))))) (pss_one (ps_ret pe_bl)) pss_nil)))
      (pss_one (ps_ret pe_bl)))), ?_⟩
    walk_at "ss"
    refine k_lenS (small_size (by omega)) ?_
    walk_at "ss"
    refine k_dt (by omega) ?_
    walk_at "ss"
    refine k_nt (by omega) ?_
    walk_at "ss"
    refine k_ixS (small_size (by omega)) (c := c) (by rw [hz]; exact atI_nat (j := 0) rfl) ?_
    walk_at "ss"
    refine ⟨c, _, rfl, rfl, ?_⟩
    walk_at "ss"
    refine k_nt hc ?_
    walk_at "ss"
    refine k_iStr ?_
    walk_at "ss"
    refine ⟨z, rfl, ?_⟩
    refine k_forIt walk_str (fun i σ H' => H' = H ∧ ∃ v, σ = [some (.str z), v]) ⟨rfl, _, rfl⟩ (fun _ _ _ _ _ => True.intro) ?_ ?_
    · rintro i x σ H' H2 hi ⟨rfl, v, rfl⟩ ⟨rfl, d, hd, rfl⟩
      have hm : d ∈ z.cps.toList := List.mem_of_getElem? (by rw [← Array.getElem?_toList] at hd; exact hd)
      walk_at "ss"
      refine ⟨d, _, rfl, rfl, ?_⟩
      walk_at "ss"
      rcases hall d hm with h | h
      · refine k_nt h ?_
        walk_at "ss"
        exact ⟨rfl, _, rfl⟩
      · refine k_n (fun _ => ?_) (fun _ => ?_)
        · walk_at "ss"
          exact ⟨rfl, _, rfl⟩
        · walk_at "ss"
          refine ⟨d, _, rfl, rfl, ?_⟩
          walk_at "ss"
          refine k_nt h ?_
          walk_at "ss"
          exact ⟨rfl, _, rfl⟩
    · rintro σ H' ⟨rfl, v, rfl⟩
      walk_at "ss"
      exact k
end

/-! ### the fullest stretch -/
section
variable {w : World} {K : PySem.W.Frag} {mg : Str → Option Value} {base : Heap}
abbrev UL := List (Addr × Int × Int)
def usL (l : UL) : Us := l.map (·.2)
abbrev rfU (l : UL) : List V := l.map fun z => V.ref z.1
def PairsAt (H : Hp) (l : UL) : Prop := ∀ z ∈ l, H z.1 = some (.tup [.int z.2.1, .int z.2.2])
theorem PairsAt.up {H H' : Hp} {l : UL} (h : PairsAt H l) (e : Same H H') : PairsAt H' l := fun z hz => e _ _ (h z hz)
structure DIs (kvs : List (Key × V)) (us : Us) : Prop where
  keys : ∃ ks : List Int, kvs.map (·.1) = ks.map Sum.inl ∧ ks.Nodup ∧ (∀ m, m ∈ ks ↔ m ∈ us.map (·.1)) ∧ ks.length ≤ us.length
  val : ∀ m, valV kvs (.inl m) = if m ∈ us.map (·.1) then some (.int (tot1 us m)) else none
theorem dis_nil : DIs [] [] := ⟨⟨[], rfl, List.nodup_nil, fun m => Iff.rfl, Nat.le_refl _⟩, fun m => by rw [if_neg (by simp)]; rfl⟩
theorem keys_put {kvs : List (Key × V)} {k : Key} {v : V} : (putK kvs k v).map (·.1) = if (valV kvs k).isSome = true then kvs.map (·.1) else kvs.map (·.1) ++ [k] := by
  unfold putK
  rw [valV_any]
  by_cases h : (valV kvs k).isSome = true
  · rw [if_pos h, if_pos h, List.map_map]
    congr 1
    funext x
    show (if x.1 = k then (x.1, v) else x).1 = x.1
    split <;> rfl
  · rw [if_neg h, if_neg h, List.map_append]
    rfl
theorem dis_get {kvs : List (Key × V)} {us : Us} (h : DIs kvs us) (m : Int) : (valV kvs (.inl m)).getD (.int 0) = .int (tot1 us m) := by
  rw [h.val m]
  by_cases e : m ∈ us.map (·.1)
  · rw [if_pos e]; rfl
  · rw [if_neg e, tot1_none (fun z hz q => e (List.mem_map.mpr ⟨z, hz, q⟩))]
    rfl
theorem dis_put {kvs : List (Key × V)} {us : Us} (h : DIs kvs us) (m n : Int) : DIs (putK kvs (.inl m) (.int (tot1 us m + n))) (us ++ [(m, n)]) := by
  obtain ⟨ks, hk, nd, hm, hl⟩ := h.keys
  refine ⟨?_, fun x => ?_⟩
  · rw [keys_put, h.val m]
    by_cases e : m ∈ us.map (·.1)
    · rw [if_pos e]
      refine ⟨ks, (if_pos rfl).trans hk, nd, fun x => ?_, by rw [List.length_append]; simp; omega⟩
      rw [List.map_append, hm x]
      constructor
      · exact fun q => List.mem_append_left _ q
      · intro q
        rcases List.mem_append.mp q with q | q
        · exact q
        · rw [List.mem_singleton.mp q]; exact e
    · rw [if_neg e]
      refine ⟨ks ++ [m], by rw [if_neg (by simp), hk, List.map_append]; rfl, ?_, fun x => ?_, by rw [List.length_append, List.length_append]; simp; omega⟩
      · rw [List.nodup_append]
        refine ⟨nd, by simp, fun x hx y hy q => ?_⟩
        rw [List.mem_singleton.mp hy] at q
        exact e ((hm m).mp (q ▸ hx))
      · rw [List.map_append, List.mem_append, List.mem_append, hm x]
        simp
  · rw [valV_put, tot1_snoc, h.val x]
    have em : x ∈ (us ++ [(m, n)]).map (·.1) ↔ x ∈ us.map (·.1) ∨ x = m := by rw [List.map_append, List.mem_append]; simp
    by_cases e : x = m
    · subst e
      rw [if_pos rfl, if_pos rfl, if_pos (em.mpr (.inr rfl))]
    · rw [if_neg (fun q => e (Sum.inl.inj q)), if_neg (Ne.symm e), Int.add_zero]
      by_cases e1 : x ∈ us.map (·.1)
      · rw [if_pos e1, if_pos (em.mpr (.inl e1))]
      · rw [if_neg e1, if_neg (fun q => (em.mp q).elim e1 e)]
theorem usL_take (l : UL) (i : Nat) {a : Addr} {m n : Int} (h : l[i]? = some (a, m, n)) : usL (l.take (i + 1)) = usL (l.take i) ++ [(m, n)] := by
  unfold usL
  rw [List.take_add_one, h, List.map_append]
  rfl
theorem rfU_at {l : UL} {i : Nat} {x : V} (h : (rfU l)[i]? = some x) : ∃ a m n, l[i]? = some (a, m, n) ∧ x = .ref a := by
  rw [List.getElem?_map] at h
  cases e : l[i]? with
  | none => rw [e] at h; cases h
  | some z => rw [e] at h; exact ⟨z.1, z.2.1, z.2.2, rfl, (Option.some.inj h).symm⟩
def UsesAt (H : Hp) (u : Addr) (l : UL) : Prop := (H u = some (.lst (rfU l)) ∨ H u = some (.tup (rfU l))) ∧ PairsAt H l ∧ l.length ≤ 30 ∧ ∀ z ∈ usL l, 1 ≤ z.2
theorem UsesAt.up {H H' : Hp} {u : Addr} {l : UL} (h : UsesAt H u l) (e : Same H H') : UsesAt H' u l := ⟨h.1.imp (e _ _) (e _ _), h.2.1.up e, h.2.2⟩
theorem strict {ys : List Int} (hp : ys.Pairwise (· ≤ ·)) (hn : ys.Nodup) : ∀ {i j : Nat} {x y : Int}, ys[i]? = some x → ys[j]? = some y → (x < y ↔ i < j) := by
  have lt : ∀ {i j : Nat} {x y : Int}, ys[i]? = some x → ys[j]? = some y → i < j → x < y := by
    intro i j x y hi hj h
    obtain ⟨h1, rfl⟩ := List.getElem?_eq_some_iff.mp hi
    obtain ⟨h2, rfl⟩ := List.getElem?_eq_some_iff.mp hj
    have a := List.pairwise_iff_getElem.mp hp i j h1 h2 h
    have b := List.pairwise_iff_getElem.mp hn i j h1 h2 h
    omega
  intro i j x y hi hj
  constructor
  · intro h
    by_cases e : i < j
    · exact e
    · by_cases e2 : j < i
      · have := lt hj hi e2; omega
      · obtain rfl : i = j := by omega
        rw [hi] at hj
        cases hj
        omega
  · exact lt hi hj
theorem mem_take_iff {ys : List Int} (hn : ys.Nodup) {j : Nat} {x : Int} (hj : ys[j]? = some x) (k : Nat) : x ∈ ys.take k ↔ j < k := by
  constructor
  · intro h
    obtain ⟨i, hi⟩ := List.mem_iff_getElem?.mp h
    rw [List.getElem?_take] at hi
    split at hi
    · rename_i hik
      obtain ⟨h1, e1⟩ := List.getElem?_eq_some_iff.mp hi
      obtain ⟨h2, e2⟩ := List.getElem?_eq_some_iff.mp hj
      by_cases a1 : i < j
      · exact absurd (e1.trans e2.symm) (List.pairwise_iff_getElem.mp hn i j h1 h2 a1)
      · by_cases a2 : j < i
        · exact absurd (e2.trans e1.symm) (List.pairwise_iff_getElem.mp hn j i h2 h1 a2)
        · omega
    · cases hi
  · intro h
    refine List.mem_iff_getElem?.mpr ⟨j, ?_⟩
    rw [List.getElem?_take, if_pos h]
    exact hj
/-- the places below a bound are the first ones -/
theorem pre_of {us : Us} {ys : List Int} (hn : ys.Nodup) (hm : ∀ m, m ∈ ys ↔ m ∈ us.map (·.1)) {k : Nat} {x : Int} (hx : ∀ j m, ys[j]? = some m → (m < x ↔ j < k)) : cum us x = pre us (ys.take k) := by
  refine cum_pre fun z hz => ?_
  obtain ⟨j, hj⟩ := List.mem_iff_getElem?.mp ((hm z.1).mpr (List.mem_map.mpr ⟨z, hz, rfl⟩))
  rw [hx j _ hj, mem_take_iff hn hj]
theorem pre_next {us : Us} {ys : List Int} (hn : ys.Nodup) {k : Nat} {m : Int} (hk : ys[k]? = some m) : pre us (ys.take (k + 1)) = pre us (ys.take k) + tot1 us m := by
  rw [List.take_add_one, hk]
  exact pre_snoc (fun h => by have := (mem_take_iff hn hk k).mp h; omega) us
def spFull (T : Tx K mg) : Sp := fun vs H Q _ => ∃ (F : Addr → Prop) (a u : Addr) (p : Plan) (l : UL), vs = [.ref a, .ref u] ∧ RestAt T F H a p ∧ p.Ok ∧ UsesAt H u l ∧
  ∀ (v : Int) (st : Option Int) (t : Addr) (H' : Hp), Same H H' → H' t = some (.tup [.int v, stV st]) → Full p (usL l) v st → Q (.ref t) H'
theorem ok_fullest (T : Tx K mg) : FnOk P w K mg base CX0 8 T.a_fullest T.fd_fullest P_fullest (spFull T) := by
  refine T.F_fullest.ok sc_fullest (fun vs H Q E h => ?_) (fun cdv A outer s H vs Q E hr h => ?_)
  · obtain ⟨F, a, u, p, l, rfl, _⟩ := h
    rfl
  · obtain ⟨F, a, u, p, l, rfl, ha, op, ⟨hu, hpl, hlen, hpos⟩, k⟩ := h
    have nd := sc_fullest.nd
    obtain ⟨C1, hC1, kC1⟩ := rest_call ha op
    refine ⟨_, (pss_cons (ks_setL (i := 2) nd l_fullest_totals pe_dnewK)
      (kss_meet (ps_for PassesOwn.never rfl (kpi_seq K (kv (i := 1) v_fullest_uses)) (kpg_tup K 2 rfl (pgs_cons (kgL (i := 3) nd l_fullest_moment) (pgs_cons (kgL (i := 4) nd l_fullest_n) pgs_nil))) (pss_one (ps_asg (pe_op kop_add (pe_dget2 (hu_of hr) (kv (i := 2) v_fullest_totals) (kv (i := 3) v_fullest_moment) pe_int ⟨rfl, rfl, rfl, rfl⟩) (kv (i := 4) v_fullest_n)) (pg_sub (kv (i := 2) v_fullest_totals) (kv (i := 3) v_fullest_moment) (set_dict (hu_of hr))))))
      (pss_cons (ks_setL (i := 5) nd l_fullest_moments (kcB b_sorted (by decide) (by decide) (kc_sortedDI rfl) g_fullest_sorted T.n_sorted (pa_cons (kv (i := 2) v_fullest_totals) pa_nil)))
      (pss_cons (ps_asg (pe_tup (pa_cons pe_int (pa_cons pe_non pa_nil))) (kpg_tup K 2 rfl (pgs_cons (kgL (i := 6) nd l_fullest_most) (pgs_cons (kgL (i := 7) nd l_fullest_start) pgs_nil))))
      (pss_cons (ps_asg2 pe_int (kgL (i := 8) nd l_fullest_count) (kgL (i := 9) nd l_fullest_behind))
      (pss_cons (ps_for PassesOwn.never rfl (kpi_list K (kv (i := 5) v_fullest_moments)) (kgL (i := 10) nd l_fullest_s) (pss_cons (ks_setL (i := 11) nd l_fullest_end (kpe_callP (disp_call T) (hr.mono (by decide)) pass0 (kv (i := 0) v_fullest_rest) (pa_cons (kv (i := 10) v_fullest_s) pa_nil)))
      (kss_meet (ps_while PassesOwn.never (PW.pt (pw_and (pt_cmpR op_lt (kv (i := 9) v_fullest_behind) (kcB b_len (by decide) (by decide) (kc_len K) g_fullest_len T.n_len (pa_cons (kv (i := 5) v_fullest_moments) pa_nil)) (nomark _)) (pw_and1 (pt_cmpR op_lt (pe_ix (kix K) (kv (i := 5) v_fullest_moments) (kv (i := 9) v_fullest_behind) (fun _ _ => rfl)) (kv (i := 11) v_fullest_end) (nomark _))))) (pss_cons (ps_aug (i := 8) nd rfl (.inl (locB_ok l_fullest_count)) (pe_dget (hu_of hr) (kv (i := 2) v_fullest_totals) (pe_ix (kix K) (kv (i := 5) v_fullest_moments) (kv (i := 9) v_fullest_behind) (fun _ _ => rfl)) (fun _ _ => rfl)) ip_add)
      (pss_one (ps_aug (i := 9) nd rfl (.inl (locB_ok l_fullest_behind)) pe_int ip_add))))
      (kss_meet (ps_if (pt_cmpR op_gt (kv (i := 8) v_fullest_count) (kv (i := 6) v_fullest_most) (nomark _)) (pss_one (ps_par (i := 6) (j := 7) rfl nd rfl rfl (by decide) (locB_ok l_fullest_most) (locB_ok l_fullest_start) (pa_cons (kv (i := 8) v_fullest_count) (pa_cons (kv (i := 10) v_fullest_s) pa_nil)) (by rfl))) pss_nil)
      (pss_one (ps_aug (i := 8) nd rfl (.inl (locB_ok l_fullest_count)) (pe_dget (hu_of hr) (kv (i := 2) v_fullest_totals) (kv (i := 10) v_fullest_s) (fun _ _ => rfl)) ip_sub))))))
      (pss_one (ps_ret (pe_tup (pa_cons (kv (i := 6) v_fullest_most) (pa_cons (kv (i := 7) v_fullest_start) pa_nil))))))))))), ?_⟩
    walk_at "ss"
    refine k_dnew ?_
    intro d nd1
    walk_at "ss"
    refine k_meet (fun σ H' => ∃ (kvs : List (Key × V)) (v3 v4 : Option V), σ = [some (.ref a), some (.ref u), some (.ref d), v3, v4, none, none, none, none, none, none, none] ∧ H' = upd H d (.dK kvs) ∧ DIs kvs (usL l)) ?_ ?_
    · walk_at "ss"
      rcases hu with hu | hu
      · refine k_seqL ?_
        walk_at "ss"
        refine k_iL (SqL.of (same_new nd1 _ _ hu)) ?_
        refine k_forIt (walk_L (xs := rfU l)) (fun i σ H' => ∃ (kvs : List (Key × V)) (v3 v4 : Option V), σ = [some (.ref a), some (.ref u), some (.ref d), v3, v4, none, none, none, none, none, none, none] ∧ H' = upd H d (.dK kvs) ∧ DIs kvs (usL (l.take i))) ⟨[], none, none, rfl, rfl, dis_nil⟩ ?_ ?_ ?_
        · rintro i σ H' _ ⟨kvs, v3, v4, rfl, rfl, _⟩
          exact SqL.of (same_new nd1 _ _ hu)
        · rintro i x σ H' H2 _ ⟨kvs, v3, v4, rfl, rfl, hd⟩ ⟨rfl, hx⟩
          obtain ⟨t, m, n, hi, rfl⟩ := rfU_at hx
          have ht := same_new (o := .dK kvs) nd1 _ _ (hpl _ (List.mem_of_getElem? hi))
          have hil := (List.getElem?_eq_some_iff.mp hi).1
          walk_at "ss"
          refine k_dget2 ?_
          walk_at "ss"
          refine ⟨d, rfl, .inl ⟨kvs, .inl upd_same⟩, ?_⟩
          walk_at "ss"
          refine ⟨_, DGet.k (k := Sum.inl m) upd_same, ?_⟩
          rw [dis_get hd m]
          walk_at "ss"
          obtain ⟨ks, hk, _, _, hl2⟩ := hd.keys
          have hkl : kvs.length ≤ l.length := by
            have e := congrArg List.length hk
            rw [List.length_map, List.length_map] at e
            rw [e]
            refine Nat.le_trans hl2 ?_
            unfold usL
            rw [List.length_map, List.length_take]
            omega
          refine k_setD (DPut.k (k := Sum.inl m) upd_same (small_lt (by omega))) ?_
          rw [upd_upd]
          refine ⟨_, _, _, rfl, rfl, ?_⟩
          rw [usL_take l i hi]
          exact dis_put hd m n
        · rintro σ H' ⟨kvs, v3, v4, rfl, rfl, hd⟩
          walk_at "ss"
          refine ⟨kvs, v3, v4, rfl, rfl, ?_⟩
          rw [List.length_map, List.take_length] at hd
          exact hd
      · refine k_seqT ?_
        walk_at "ss"
        refine k_iT (SqT.of (same_new nd1 _ _ hu)) ?_
        refine k_forIt (walk_T (xs := rfU l)) (fun i σ H' => ∃ (kvs : List (Key × V)) (v3 v4 : Option V), σ = [some (.ref a), some (.ref u), some (.ref d), v3, v4, none, none, none, none, none, none, none] ∧ H' = upd H d (.dK kvs) ∧ DIs kvs (usL (l.take i))) ⟨[], none, none, rfl, rfl, dis_nil⟩ ?_ ?_ ?_
        · rintro i σ H' _ ⟨kvs, v3, v4, rfl, rfl, _⟩
          exact SqT.of (same_new nd1 _ _ hu)
        · rintro i x σ H' H2 _ ⟨kvs, v3, v4, rfl, rfl, hd⟩ ⟨rfl, hx⟩
          obtain ⟨t, m, n, hi, rfl⟩ := rfU_at hx
          have ht := same_new (o := .dK kvs) nd1 _ _ (hpl _ (List.mem_of_getElem? hi))
          have hil := (List.getElem?_eq_some_iff.mp hi).1
          walk_at "ss"
          refine k_dget2 ?_
          walk_at "ss"
          refine ⟨d, rfl, .inl ⟨kvs, .inl upd_same⟩, ?_⟩
          walk_at "ss"
          refine ⟨_, DGet.k (k := Sum.inl m) upd_same, ?_⟩
          rw [dis_get hd m]
          walk_at "ss"
          obtain ⟨ks, hk, _, _, hl2⟩ := hd.keys
          have hkl : kvs.length ≤ l.length := by
            have e := congrArg List.length hk
            rw [List.length_map, List.length_map] at e
            rw [e]
            refine Nat.le_trans hl2 ?_
            unfold usL
            rw [List.length_map, List.length_take]
            omega
          refine k_setD (DPut.k (k := Sum.inl m) upd_same (small_lt (by omega))) ?_
          rw [upd_upd]
          refine ⟨_, _, _, rfl, rfl, ?_⟩
          rw [usL_take l i hi]
          exact dis_put hd m n
        · rintro σ H' ⟨kvs, v3, v4, rfl, rfl, hd⟩
          walk_at "ss"
          refine ⟨kvs, v3, v4, rfl, rfl, ?_⟩
          rw [List.length_map, List.take_length] at hd
          exact hd
    · rintro σ H' ⟨kvs, v3, v4, rfl, rfl, hd⟩
      obtain ⟨ks, hk, ndk, hmem, hl2⟩ := hd.keys
      walk_at "ss"
      have hkl : ks.length ≤ 30 := by
        refine Nat.le_trans hl2 ?_
        unfold usL
        rw [List.length_map]
        exact hlen
      refine ⟨d, kvs, ks, rfl, .inl upd_same, hk, by omega, fun ys q perm hpw nq => ?_⟩
      generalize eH : upd (upd H d (.dK kvs)) q _ = H2
      have sm2 : Same H H2 := eH ▸ (same_new nd1).trans (same_new nq)
      have hd2 : H2 d = some (.dK kvs) := by
        rw [← eH, upd_ne (ne_of_none upd_same nq)]
        exact upd_same
      have hq2 : H2 q = some (.lst (ys.map V.int)) := upd_at eH
      clear eH
      have hny : ys.Nodup := perm.nodup_iff.mpr ndk
      have hmy : ∀ m, m ∈ ys ↔ m ∈ (usL l).map (·.1) := fun m => (perm.mem_iff).trans (hmem m)
      have hly : ys.length ≤ 30 := by rw [perm.length_eq]; exact hkl
      have dget : ∀ {H3 : Hp} {x : Int}, H3 d = some (.dK kvs) → x ∈ ys → DGet H3 d (.int x) (some (.int (tot1 (usL l) x))) := fun {H3 x} h hx => by
        have z := DGet.k (k := Sum.inl x) h
        rw [hd.val x, if_pos ((hmy x).mp hx)] at z
        exact z
      walk_at "ss"
      intro tp ntp
      generalize eH : upd H2 tp _ = H3
      have sm3 := sm2.trans (upd_sm eH ntp)
      have hd3 := upd_sm eH ntp _ _ hd2
      have hq3 := upd_sm eH ntp _ _ hq2
      have htp := upd_at eH
      clear eH
      walk_at "ss"
      refine k_asg2 ?_
      walk_at "ss"
      refine k_iL (SqL.of hq3) ?_
      refine k_forList (ys.map V.int) (fun i σ H' => H3 = H' ∧ ∃ (v : Int) (st : Option Int) (c : Int) (n : Nat) (v3 v4 v10 v11 : Option V), σ = [some (.ref a), some (.ref u), some (.ref d), v3, v4, some (.ref q), some (.int v), some (stV st), some (.int c), some (.int (n : Nat)), v10, v11] ∧ n ≤ ys.length ∧ i ≤ n ∧
        c = pre (usL l) (ys.take n) - pre (usL l) (ys.take i) ∧ Best (wOf p (usL l)) (ys.take i) v st ∧ ∀ (j i' : Nat) (m s' : Int), j < n → i ≤ i' → ys[j]? = some m → ys[i']? = some s' → m < p.at s')
        ⟨rfl, 0, none, 0, 0, v3, v4, none, none, rfl, Nat.zero_le _, Nat.le_refl _, (Int.sub_self _).symm, best_nil _, fun j i' m s' h => absurd h (Nat.not_lt_zero _)⟩ ?_ ?_ ?_
      · rintro i σ H' _ ⟨rfl, _⟩
        exact SqL.of hq3
      · rintro i x σ H' hx ⟨rfl, v, st, c, n, v3, v4, v10, v11, rfl, hn1, hn2, hc, hB, hlt⟩
        obtain ⟨s, hs, rfl⟩ := map_int_at hx
        have hgt := at_gt op s
        walk_at "ss"
        refine k_thing ?_
        walk_at "ss"
        refine ⟨a, C1, _, rfl, hC1, ?_⟩
        walk_at "ss"
        refine kC1 _ _ _ _ sm3 ?_
        walk_at "ss"
        refine k_meet (fun σ H' => H3 = H' ∧ ∃ (c : Int) (n : Nat), σ = [some (.ref a), some (.ref u), some (.ref d), v3, v4, some (.ref q), some (.int v), some (stV st), some (.int c), some (.int (n : Nat)), some (.int s), some (.int (p.at s))] ∧ n ≤ ys.length ∧
          c = pre (usL l) (ys.take n) - pre (usL l) (ys.take i) ∧ (∀ (j : Nat) (m : Int), j < n → ys[j]? = some m → m < p.at s) ∧ ∀ (j : Nat) (m : Int), n ≤ j → ys[j]? = some m → p.at s ≤ m) ?_ ?_
        · refine k_while (fun g σ H' => H3 = H' ∧ ∃ (c : Int) (n : Nat), σ = [some (.ref a), some (.ref u), some (.ref d), v3, v4, some (.ref q), some (.int v), some (stV st), some (.int c), some (.int (n : Nat)), some (.int s), some (.int (p.at s))] ∧ n ≤ ys.length ∧ g = ys.length - n ∧
            c = pre (usL l) (ys.take n) - pre (usL l) (ys.take i) ∧ ∀ (j : Nat) (m : Int), j < n → ys[j]? = some m → m < p.at s) (ys.length - n) ⟨rfl, c, n, rfl, hn1, rfl, hc, fun j m h1 h2 => hlt j i m s h1 (Nat.le_refl _) h2 hs⟩ ?_
          rintro g σ H' ⟨rfl, c, n, rfl, hn1, rfl, hc, hlt⟩
          walk_at "ss"
          refine k_d (fun h1 => ?_) (fun h1 => ?_)
          · have hn : n < ys.length := by
              rw [List.length_map] at h1
              omega
            obtain ⟨x, hx⟩ : ∃ x, ys[n]? = some x := ⟨_, List.getElem?_eq_getElem hn⟩
            have hxi : atI (ys.map V.int) (n : Int) = some (.int x) := atI_nat (by rw [List.getElem?_map, hx]; rfl)
            walk_at "ss"
            refine k_d (fun h2 => ?_) (fun h2 => ?_)
            · refine ⟨fun σ' H' => H3 = H' ∧ σ' = [some (.ref a), some (.ref u), some (.ref d), v3, v4, some (.ref q), some (.int v), some (stV st), some (.int (c + tot1 (usL l) x)), some (.int ((n : Nat) + 1)), some (.int s), some (.int (p.at s))], ?_, ?_⟩
              · rintro σ' H' ⟨rfl, rfl⟩
                refine ⟨ys.length - (n + 1), by omega, rfl, _, n + 1, rfl, hn, rfl, by rw [pre_next hny hx]; omega, fun j m hj hm => ?_⟩
                by_cases e : j < n
                · exact hlt j m e hm
                · obtain rfl : j = n := by omega
                  rw [hx] at hm
                  cases hm
                  exact h2
              · walk_at "ss"
                refine k_aug rfl ?_
                refine k_dget ?_
                walk_at "ss"
                refine ⟨d, _, rfl, dget hd3 (List.mem_of_getElem? hx), ?_⟩
                refine k_ipI ?_
                refine k_aug rfl ?_
                walk_at "ss"
                refine k_ipI ?_
                exact ⟨rfl, rfl⟩
            · refine ⟨rfl, c, n, rfl, hn1, hc, hlt, fun j m hj hm => ?_⟩
              by_cases e : j = n
              · subst e
                rw [hx] at hm
                cases hm
                omega
              · have := (strict hpw hny hx hm).mpr (by omega)
                omega
          · refine ⟨rfl, c, n, rfl, hn1, hc, hlt, fun j m hj hm => ?_⟩
            have := (List.getElem?_eq_some_iff.mp hm).1
            rw [List.length_map] at h1
            omega
        · rintro σ H' ⟨rfl, c, n, rfl, hn1, hc, hlt2, hge⟩
          have hin : i < n := by
            by_cases e : i < n
            · exact e
            · have := hge i s (by omega) hs
              omega
          have hcw : c = wOf p (usL l) s := by
            have e1 := pre_of (us := usL l) hny hmy (k := n) (x := p.at s) fun j m hj => ⟨fun h => by
              by_cases e : j < n
              · exact e
              · have := hge j m (by omega) hj
                omega, fun h => hlt2 j m h hj⟩
            have e2 := pre_of (us := usL l) hny hmy (k := i) (x := s) fun j m hj => strict hpw hny hj hs
            rw [wOf, wsum_cum (by omega), hc, e1, e2]
          have etk : ys.take (i + 1) = ys.take i ++ [s] := by rw [List.take_add_one, hs]; rfl
          have hms : s ∈ ys := List.mem_of_getElem? hs
          refine k_meet (fun σ H' => H3 = H' ∧ ∃ (v : Int) (st : Option Int), σ = [some (.ref a), some (.ref u), some (.ref d), v3, v4, some (.ref q), some (.int v), some (stV st), some (.int c), some (.int (n : Nat)), some (.int s), some (.int (p.at s))] ∧ Best (wOf p (usL l)) (ys.take (i + 1)) v st) ?_ ?_
          · walk_at "ss"
            refine k_d (fun h1 => ?_) (fun h1 => ?_)
            · walk_at "ss"
              refine ⟨rfl, c, some s, rfl, ?_⟩
              rw [etk, hcw]
              exact best_up hB (by omega)
            · walk_at "ss"
              refine ⟨rfl, v, st, rfl, ?_⟩
              rw [etk]
              refine best_stay hB (fun y hy => ?_) (w_one op hpos ((hmy s).mp hms)) (by omega)
              obtain ⟨j, hj⟩ := List.mem_iff_getElem?.mp hy
              rw [List.getElem?_take] at hj
              split at hj
              · rename_i hji
                have := (strict hpw hny hj hs).mpr hji
                omega
              · cases hj
          · rintro σ H' ⟨rfl, v, st, rfl, hB⟩
            walk_at "ss"
            refine k_aug rfl ?_
            refine k_dget ?_
            walk_at "ss"
            refine ⟨d, _, rfl, dget hd3 hms, ?_⟩
            refine k_ipI ?_
            refine ⟨rfl, v, st, _, n, v3, v4, _, _, rfl, hn1, hin, by rw [pre_next hny hs]; omega, hB, fun j i' m s' h1 h2 h3 h4 => ?_⟩
            have h5 := hlt2 j m h1 h3
            have h6 := (strict hpw hny hs h4).mpr (by omega)
            have h7 := at_mono op (t := s) (u := s') (by omega)
            omega
      · rintro σ H' ⟨rfl, v, st, c, n, v3, v4, v10, v11, rfl, hn1, hn2, hc, hB, hlt⟩
        rw [List.length_map, List.take_length] at hB
        walk_at "ss"
        intro t nt
        exact k v st t _ (sm3.trans (same_new nt)) upd_same (full_of hB hmy)
end

section
variable {w : World} {K : PySem.W.Frag} {mg : Str → Option Value} {base : Heap}
abbrev nR : List Str := ["name", "chips", "rest"]
def spRuleInit (T : Tx K mg) : Sp := fun vs H Q _ => ∃ (F : Addr → Prop) (a dx : Addr) (nm : Str) (c : Int) (r : Addr) (p : Plan), vs = [.ref a, .str nm, .int c, .ref r] ∧ nameB nm ∧ 1 ≤ c ∧ c ≤ 1000 ∧ RestAt T F H r p ∧ H a = some (.ins T.C_Rule dx []) ∧
  Q .non (upd H a (.ins T.C_Rule dx (FL nR [.str nm, .int c, .ref r])))
theorem ok_Rule_init (T : Tx K mg) : FnOk P w K mg base CX0 2 T.a_Rule_init T.fd_Rule_init P_Rule_init (spRuleInit T) := by
  refine T.F_Rule_init.ok sc_Rule_init (fun vs H Q E h => ?_) (fun cdv A outer s H vs Q E hr h => ?_)
  · obtain ⟨F, a, dx, nm, c, r, p, rfl, _⟩ := h
    rfl
  · obtain ⟨F, a, dx, nm, c, r, p, rfl, hn, hc0, hc1, hr1, ha, k⟩ := h
    have nd := sc_Rule_init.nd
    obtain ⟨C, dx1, ns, vs, tx, hC, _, _, he⟩ := hr1.four
    refine ⟨_, (pss_cons (ps_if (pt_not (pt_val (pe_call (ok_is_name T) (hr.mono (by first | decide | omega)) g_Rule_init_is_name T.m_is_name T.k_is_name T.b_is_name .nil pass0 (pa_cons (kv (i := 1) v_Rule_init_name) pa_nil)))) (pss_one ps_never) pss_nil)
      (pss_cons (ps_if (pt_not (pt_val (pe_call (ok_is_number T) (hr.mono (by first | decide | omega)) g_Rule_init_is_number T.m_is_number T.k_is_number T.b_is_number .nil pass0 (pa_cons (kv (i := 2) v_Rule_init_chips) (pa_cons pe_int (pa_cons pe_int pa_nil)))))) (pss_one ps_never) pss_nil)
      (pss_cons (ps_if (pt_not (pt_val (kcB b_isinstance (by decide) (by decide) (kc_isi K) g_Rule_init_isinstance T.n_isinstance (pa_cons (kv (i := 3) v_Rule_init_rest) (pa_cons (kcls g_Rule_init_Rest T.m_Rest) pa_nil))))) (pss_one ps_never) pss_nil)
      (pss_cons (kps_fld K (kv (i := 0) v_Rule_init_self) (kv (i := 1) v_Rule_init_name))
      (pss_cons (kps_fld K (kv (i := 0) v_Rule_init_self) (kv (i := 2) v_Rule_init_chips))
      (pss_one (kps_fld K (kv (i := 0) v_Rule_init_self) (kv (i := 3) v_Rule_init_rest)))))))), ?_⟩
    walk_at "ss"
    refine ⟨nm, rfl, hn, ?_⟩
    walk_at "ss"
    refine ⟨c, 1, 1000, rfl, hc0, hc1, ?_⟩
    walk_at "ss"
    refine k_isiO (ty_own hC.ty he) hC.kt ?_
    walk_at "ss"
    refine k_putAt (ns := []) (vs := []) ha T.cl_Rule T.no_Rule_name rfl (by decide +kernel) (by decide) ?_
    walk_at "ss"
    refine k_putTop T.cl_Rule T.no_Rule_chips rfl (by decide +kernel) (by decide) ?_
    walk_at "ss"
    refine k_putTop T.cl_Rule T.no_Rule_rest rfl (by decide +kernel) (by decide) ?_
    exact k
def RuleAt (T : Tx K mg) (H : Hp) (a : Addr) (c : Int) (r : Addr) : Prop := ∃ (dx : Addr) (nm : Str), H a = some (.ins T.C_Rule dx (FL nR [.str nm, .int c, .ref r]))
def spWithin (T : Tx K mg) : Sp := fun vs H Q _ => ∃ (F : Addr → Prop) (a r u : Addr) (c : Int) (p : Plan) (l : UL), vs = [.ref a, .ref u] ∧ RuleAt T H a c r ∧ RestAt T F H r p ∧ p.Ok ∧ UsesAt H u l ∧
  ∀ (v : Int) (st : Option Int) (H' : Hp), Same H H' → Full p (usL l) v st → Q (.bl (decide (v ≤ c))) H'
theorem ok_is_within (T : Tx K mg) : FnOk P w K mg base CX0 9 T.a_is_within T.fd_is_within P_is_within (spWithin T) := by
  refine T.F_is_within.ok sc_is_within (fun vs H Q E h => ?_) (fun cdv A outer s H vs Q E hr h => ?_)
  · obtain ⟨F, a, r, u, c, p, l, rfl, _⟩ := h
    rfl
  · obtain ⟨F, a, r, u, c, p, l, rfl, ⟨dx, nm, hR⟩, hr1, op, hu, k⟩ := h
    have nd := sc_is_within.nd
    refine ⟨_, (pss_one (ps_ret (pe_cmpR op_le (pe_ix (kix K) (pe_call (ok_fullest T) (hr.mono (by first | decide | omega)) g_is_within_fullest T.m_fullest T.k_fullest T.b_fullest .nil pass0 (pa_cons (kpe_fld K (kv (i := 0) v_is_within_rule)) (pa_cons (kv (i := 1) v_is_within_uses) pa_nil))) pe_int (fun _ _ => rfl)) (kpe_fld K (kv (i := 0) v_is_within_rule)) (nomark _)))), ?_⟩
    walk_at "ss"
    refine k_fldAt hR T.cl_Rule T.no_Rule_rest (i := 2) (by decide +kernel) rfl ?_
    walk_at "ss"
    refine ⟨F, r, u, p, l, rfl, hr1, op, hu, fun v st t H1 sm ht hf => ?_⟩
    have hR1 := sm _ _ hR
    walk_at "ss"
    refine k_fldAt hR1 T.cl_Rule T.no_Rule_chips (i := 1) (by decide +kernel) rfl ?_
    walk_at "ss"
    exact k v st _ sm hf
end

section
variable {w : World} {K : PySem.W.Frag} {mg : Str → Option Value} {base : Heap}
/-! ### like, through and through -/
inductive Sc : V → Prop where
  | int (i : Int) : Sc (.int i)
  | str (s : Str) : Sc (.str s)
  | bl (b : Bool) : Sc (.bl b)
  | non : Sc .non
def Eqd (H : Hp) : Nat → V → V → Prop
  | 0, x, y => x = y ∧ Sc x
  | d + 1, x, y => (x = y ∧ Sc x) ∨ ∃ a b xs ys, x = .ref a ∧ y = .ref b ∧ ((H a = some (.lst xs) ∧ H b = some (.lst ys)) ∨ (H a = some (.tup xs) ∧ H b = some (.tup ys))) ∧ xs.length = ys.length ∧ xs.length ≤ 50 ∧
      ∀ (i : Nat) u v, xs[i]? = some u → ys[i]? = some v → Eqd H d u v
theorem Eqd.up {H H' : Hp} (e : Same H H') : ∀ {d : Nat} {x y : V}, Eqd H d x y → Eqd H' d x y
  | 0, _, _, h => h
  | d + 1, _, _, .inl h => .inl h
  | d + 1, _, _, .inr ⟨a, b, xs, ys, e1, e2, h, hl, hl2, k⟩ => .inr ⟨a, b, xs, ys, e1, e2, h.imp (fun h => ⟨e _ _ h.1, e _ _ h.2⟩) (fun h => ⟨e _ _ h.1, e _ _ h.2⟩), hl, hl2, fun i u v hu hv => (k i u v hu hv).up e⟩
theorem Eqd.sc {H : Hp} {x : V} (h : Sc x) : ∀ d, Eqd H d x x
  | 0 => ⟨rfl, h⟩
  | _ + 1 => .inl ⟨rfl, h⟩
theorem isoI {K : PySem.W.Frag} {H : Hp} {v : V} {tp : String} {b : Bool} {Q : VK} (ty : TyX K H v (.type tp)) {T1 : String} (h1 : kitB tp T1 = some b) (k : Q (.bl b) H) : rIsi K [v, .ty T1] H Q := k_isi ty h1 k
def spLike : Nat → Sp
  | 0 => fun _ _ _ _ => False
  | d + 1 => fun vs H Q _ => ∃ x y, vs = [x, y] ∧ Eqd H d x y ∧ ∀ H', Same H H' → Q (.bl true) H'
theorem ok_like0 (T : Tx K mg) (d : Nat) (ih : FnOk P w K mg base CX0 (d + 1) T.a_like T.fd_like P_like (spLike d)) : FnOk P w K mg base CX0 (d + 2) T.a_like T.fd_like P_like (spLike (d + 1)) := by
  refine T.F_like.ok sc_like (fun vs H Q E h => ?_) (fun cdv A outer s H vs Q E hr h => ?_)
  · obtain ⟨x, y, rfl, _⟩ := h
    rfl
  · obtain ⟨x, y, rfl, h⟩ := h
    have nd := sc_like.nd
    refine ⟨_, (pss_cons (ps_if (pt_val (kcB b_isinstance (by decide) (by decide) (kc_isiT K) g_like_isinstance T.n_isinstance (pa_cons (kv (i := 1) v_like_law_due_here) (pa_cons (pe_tup (pa_cons (kty_list g_like_list T.n_list) (pa_cons (kty_tuple g_like_tuple T.n_tuple) pa_nil))) pa_nil)))) (pss_cons (ps_if (PW.pt (pw_or (pt_cmpR op_ne (kcB b_isinstance (by decide) (by decide) (kc_isi K) g_like_isinstance T.n_isinstance (pa_cons (kv (i := 0) v_like_law_told) (pa_cons (kty_list g_like_list T.n_list) pa_nil))) (kcB b_isinstance (by decide) (by decide) (kc_isi K) g_like_isinstance T.n_isinstance (pa_cons (kv (i := 1) v_like_law_due_here) (pa_cons (kty_list g_like_list T.n_list) pa_nil))) (nomark _)) (pw_or1 (pt_cmpR op_ne (kcB b_isinstance (by decide) (by decide) (kc_isi K) g_like_isinstance T.n_isinstance (pa_cons (kv (i := 0) v_like_law_told) (pa_cons (kty_tuple g_like_tuple T.n_tuple) pa_nil))) (kcB b_isinstance (by decide) (by decide) (kc_isi K) g_like_isinstance T.n_isinstance (pa_cons (kv (i := 1) v_like_law_due_here) (pa_cons (kty_tuple g_like_tuple T.n_tuple) pa_nil))) (nomark _))))) (pss_one (ps_ret pe_bl)) pss_nil)
      (pss_one (ps_ret (pe_and (pe_cmpR op_eq (kcB b_len (by decide) (by decide) (kc_len K) g_like_len T.n_len (pa_cons (kv (i := 0) v_like_law_told) pa_nil)) (kcB b_len (by decide) (by decide) (kc_len K) g_like_len T.n_len (pa_cons (kv (i := 1) v_like_law_due_here) pa_nil)) (nomark _)) (pe_one (kcB b_all (by decide) (by decide) (cr_all rfl) g_like_all T.n_all (pa_cons (pe_lc (own := [("_law_a", 2), ("_law_b", 3)]) rfl nd (RZ.pi_zipA g_like_zip T.n_zip (pa_cons (kv (i := 0) v_like_law_told) (pa_cons (kv (i := 1) v_like_law_due_here) pa_nil))) ok_cs_like_1 (fun _ _ _ _ _ => (kpg_tup K 2 rfl (pgs_cons (kgL (i := 2) nd l_like_1_law_a) (pgs_cons (kgL (i := 3) nd l_like_1_law_b) pgs_nil)))) (fun _ _ _ _ _ => pts_nil) (fun _ _ _ _ _ => (pe_call ih (hr.mono (by first | decide | omega)) g_like_1_law_like T.m_like T.k_like T.b_like .nil pass0 (pa_cons (kv (i := 2) v_like_1_law_a) (pa_cons (kv (i := 3) v_like_1_law_b) pa_nil))))) pa_nil))))))) pss_nil)
      (pss_cons (ps_if (PW.pt (pw_or (pt_cmpR op_isN (kv (i := 1) v_like_law_due_here) pe_non (nomark _)) (pw_or1 (pt_cmpR op_isN (kv (i := 0) v_like_law_told) pe_non (nomark _))))) (pss_one (ps_ret (pe_and (pe_cmpR op_isN (kv (i := 1) v_like_law_due_here) pe_non (nomark _)) (pe_one (pe_cmpR op_isN (kv (i := 0) v_like_law_told) pe_non (nomark _)))))) pss_nil)
      (pss_cons (ps_if (PW.pt (pw_or (pt_val (kcB b_isinstance (by decide) (by decide) (kc_isiT K) g_like_isinstance T.n_isinstance (pa_cons (kv (i := 0) v_like_law_told) (pa_cons (pe_tup (pa_cons (kty_list g_like_list T.n_list) (pa_cons (kty_tuple g_like_tuple T.n_tuple) pa_nil))) pa_nil)))) (pw_or1 (pt_cmpR op_ne (kcB b_isinstance (by decide) (by decide) (kc_isi K) g_like_isinstance T.n_isinstance (pa_cons (kv (i := 0) v_like_law_told) (pa_cons (kty_bool g_like_bool T.n_bool) pa_nil))) (kcB b_isinstance (by decide) (by decide) (kc_isi K) g_like_isinstance T.n_isinstance (pa_cons (kv (i := 1) v_like_law_due_here) (pa_cons (kty_bool g_like_bool T.n_bool) pa_nil))) (nomark _))))) (pss_one (ps_ret pe_bl)) pss_nil)
      (pss_cons (ps_if (PW.pt (pw_or (pt_cmpR op_ne (kcB b_isinstance (by decide) (by decide) (kc_isi K) g_like_isinstance T.n_isinstance (pa_cons (kv (i := 0) v_like_law_told) (pa_cons (kty_str g_like_str T.n_str) pa_nil))) (kcB b_isinstance (by decide) (by decide) (kc_isi K) g_like_isinstance T.n_isinstance (pa_cons (kv (i := 1) v_like_law_due_here) (pa_cons (kty_str g_like_str T.n_str) pa_nil))) (nomark _)) (pw_or1 (pt_cmpR op_ne (kcB b_isinstance (by decide) (by decide) (kc_isi K) g_like_isinstance T.n_isinstance (pa_cons (kv (i := 0) v_like_law_told) (pa_cons (kty_int g_like_int T.n_int) pa_nil))) (kcB b_isinstance (by decide) (by decide) (kc_isi K) g_like_isinstance T.n_isinstance (pa_cons (kv (i := 1) v_like_law_due_here) (pa_cons (kty_int g_like_int T.n_int) pa_nil))) (nomark _))))) (pss_one (ps_ret pe_bl)) pss_nil)
      (pss_cons (ps_if (pt_cmpR op_ne (kcB b_isinstance (by decide) (by decide) (kc_isi K) g_like_isinstance T.n_isinstance (pa_cons (kv (i := 0) v_like_law_told) (pa_cons (kty_dict g_like_dict T.n_dict) pa_nil))) (kcB b_isinstance (by decide) (by decide) (kc_isi K) g_like_isinstance T.n_isinstance (pa_cons (kv (i := 1) v_like_law_due_here) (pa_cons (kty_dict g_like_dict T.n_dict) pa_nil))) (nomark _)) (pss_one (ps_ret pe_bl)) pss_nil)
      (pss_one (ps_ret (kcT b_bool (by decide) (by decide) kc_bool g_like_bool T.n_bool (pa_cons (pe_cmpR op_eq (kv (i := 0) v_like_law_told) (kv (i := 1) v_like_law_due_here) (nomark _)) pa_nil))))))))), ?_⟩
    have nn : ∀ z : Int, ¬ V.int z = V.non := fun z e => by cases e
    have ns : ∀ z : Str, ¬ V.str z = V.non := fun z e => by cases e
    have nb : ∀ z : Bool, ¬ V.bl z = V.non := fun z e => by cases e
    obtain ⟨hE, k⟩ := h
    have key : (x = y ∧ Sc x) ∨ ∃ (m : Nat) (a b : Addr) (xs ys : List V), d = m + 1 ∧ x = .ref a ∧ y = .ref b ∧ ((H a = some (.lst xs) ∧ H b = some (.lst ys)) ∨ (H a = some (.tup xs) ∧ H b = some (.tup ys))) ∧ xs.length = ys.length ∧ xs.length ≤ 50 ∧
        ∀ (i : Nat) u v, xs[i]? = some u → ys[i]? = some v → Eqd H m u v := by
      cases d with
      | zero => exact .inl hE
      | succ m =>
        rcases hE with h | ⟨a, b, xs, ys, e1, e2, h, hl, hl2, kk⟩
        · exact .inl h
        · exact .inr ⟨m, a, b, xs, ys, rfl, e1, e2, h, hl, hl2, kk⟩
    clear hE
    rcases key with ⟨rfl, hx⟩ | ⟨m, a, b, xs, ys, rfl, rfl, rfl, hh, hlen, hl, hs⟩
    · walk_at "ss"
      intro p1 n1
      cases hx with
      | int i =>
        walk_at "ss"
        refine ⟨rfl, ?_⟩
        walk_at "ss"
        refine k_df (fun e => by cases e) ?_
        walk_at "ss"
        refine ⟨rfl, ?_⟩
        walk_at "ss"
        refine k_df (fun e => by cases e) ?_
        walk_at "ss"
        intro p2 n2
        walk_at "ss"
        refine k_ne rfl ?_
        walk_at "ss"
        refine k_nt rfl ?_
        walk_at "ss"
        refine k_ne rfl ?_
        walk_at "ss"
        refine k_nt rfl ?_
        walk_at "ss"
        refine k_ne rfl ?_
        walk_at "ss"
        refine k_nt rfl ?_
        walk_at "ss"
        refine k_ne rfl ?_
        walk_at "ss"
        refine k_nt rfl ?_
        walk_at "ss"
        first
          | (show Q (.bl (decide (i = i))) _
             rw [decide_eq_true rfl]
             exact k _ ((same_new n1).trans (same_new n2)))
          | (refine k_eq rfl ?_
             rw [decide_eq_true rfl]
             exact k _ ((same_new n1).trans (same_new n2)))
      | str i =>
        walk_at "ss"
        refine ⟨rfl, ?_⟩
        walk_at "ss"
        refine k_df (fun e => by cases e) ?_
        walk_at "ss"
        refine ⟨rfl, ?_⟩
        walk_at "ss"
        refine k_df (fun e => by cases e) ?_
        walk_at "ss"
        intro p2 n2
        walk_at "ss"
        refine k_ne rfl ?_
        walk_at "ss"
        refine k_nt rfl ?_
        walk_at "ss"
        refine k_ne rfl ?_
        walk_at "ss"
        refine k_nt rfl ?_
        walk_at "ss"
        refine k_ne rfl ?_
        walk_at "ss"
        refine k_nt rfl ?_
        walk_at "ss"
        refine k_ne rfl ?_
        walk_at "ss"
        refine k_nt rfl ?_
        walk_at "ss"
        first
          | (show Q (.bl (decide (i = i))) _
             rw [decide_eq_true rfl]
             exact k _ ((same_new n1).trans (same_new n2)))
          | (refine k_eq rfl ?_
             rw [decide_eq_true rfl]
             exact k _ ((same_new n1).trans (same_new n2)))
      | bl i =>
        walk_at "ss"
        refine ⟨rfl, ?_⟩
        walk_at "ss"
        refine k_df (fun e => by cases e) ?_
        walk_at "ss"
        refine ⟨rfl, ?_⟩
        walk_at "ss"
        refine k_df (fun e => by cases e) ?_
        walk_at "ss"
        intro p2 n2
        walk_at "ss"
        refine k_ne rfl ?_
        walk_at "ss"
        refine k_nt rfl ?_
        walk_at "ss"
        refine k_ne rfl ?_
        walk_at "ss"
        refine k_nt rfl ?_
        walk_at "ss"
        refine k_ne rfl ?_
        walk_at "ss"
        refine k_nt rfl ?_
        walk_at "ss"
        refine k_ne rfl ?_
        walk_at "ss"
        refine k_nt rfl ?_
        walk_at "ss"
        first
          | (show Q (.bl (decide (i = i))) _
             rw [decide_eq_true rfl]
             exact k _ ((same_new n1).trans (same_new n2)))
          | (refine k_eq rfl ?_
             rw [decide_eq_true rfl]
             exact k _ ((same_new n1).trans (same_new n2)))
      | non =>
        walk_at "ss"
        refine ⟨rfl, ?_⟩
        walk_at "ss"
        refine k_dt rfl ?_
        walk_at "ss"
        refine ⟨rfl, ?_⟩
        walk_at "ss"
        refine k_dt rfl ?_
        walk_at "ss"
        refine ⟨rfl, ?_⟩
        rw [decide_eq_true rfl]
        exact k _ (same_new n1)
    · rcases hh with ⟨ha, hb⟩ | ⟨ha, hb⟩
      · walk_at "ss"
        intro p np
        generalize e1 : upd H p _ = H1
        have s1 := upd_sm e1 np
        have hp := upd_at e1
        clear e1
        have ha1 := s1 _ _ ha
        have hb1 := s1 _ _ hb
        walk_at "ss"
        refine k_ne rfl ?_
        walk_at "ss"
        refine k_nt rfl ?_
        walk_at "ss"
        refine k_ne rfl ?_
        walk_at "ss"
        refine k_nt rfl ?_
        walk_at "ss"
        refine k_dt (by omega) ?_
        walk_at "ss"
        refine k_iZipA ?_
        walk_at "ss"
        refine ⟨a, b, xs, ys, rfl, zL ⟨SqL.of ha1, SqL.of hb1, ?_⟩⟩
        intro D nD
        refine k_lcIt (n := xs.length) (walk_zipL (xs := xs) (ys := ys) (by omega)) (fun i H' => ∃ bs : List Bool, H' D = some (.lst (bs.map V.bl)) ∧ bs.length = i ∧ (∀ z ∈ bs, z = true) ∧ Same H1 H') ⟨[], upd_same, rfl, fun z hz => (by cases hz), same_new nD⟩ ?_ ?_ ?_
        · rintro i H' _ ⟨bs, _, _, _, sm⟩
          exact ⟨SqL.of (sm _ _ ha1), SqL.of (sm _ _ hb1)⟩
        · rintro i x H' H'' hi ⟨bs, hD, hlen, hall, sm⟩ ⟨tp, y1, y2, rfl, nt, rfl, ey1, ey2⟩
          have hyt : (upd H' tp (.tup [y1, y2])) tp = some (.tup [y1, y2]) := upd_same
          walk_at "ss"
          refine ⟨rfl, ?_⟩
          walk_at "ss"
          refine ⟨y1, y2, rfl, (hs i y1 y2 ey1 ey2).up ((s1.trans sm).trans (same_new nt)), fun H3 s3 => ?_⟩
          have hD3 := s3 _ _ (same_new nt _ _ hD)
          refine ⟨_, hD3, small_lt (by rw [List.length_map]; omega), bs ++ [true], by rw [upd_same, List.map_append]; rfl, by simp [hlen], ?_, same_put ((sm.trans (same_new nt)).trans s3) nD⟩
          intro z hz
          rcases List.mem_append.mp hz with hz | hz
          · exact hall z hz
          · exact List.mem_singleton.mp hz
        · rintro H' ⟨bs, hD, hlen, hall, sm⟩
          walk_at "ss"
          refine ⟨D, bs, rfl, SqL.of hD, ?_⟩
          have : bs.all id = true := List.all_eq_true.mpr fun z hz => hall z hz
          rw [this]
          exact k _ (s1.trans sm)
      · walk_at "ss"
        intro p np
        generalize e1 : upd H p _ = H1
        have s1 := upd_sm e1 np
        have hp := upd_at e1
        clear e1
        have ha1 := s1 _ _ ha
        have hb1 := s1 _ _ hb
        walk_at "ss"
        refine k_ne rfl ?_
        walk_at "ss"
        refine k_nt rfl ?_
        walk_at "ss"
        refine k_ne rfl ?_
        walk_at "ss"
        refine k_nt rfl ?_
        walk_at "ss"
        refine k_dt (by omega) ?_
        walk_at "ss"
        refine k_iZipA ?_
        walk_at "ss"
        refine ⟨a, b, xs, ys, rfl, zT ⟨SqT.of ha1, SqT.of hb1, ?_⟩⟩
        intro D nD
        refine k_lcIt (n := xs.length) (walk_zipT (xs := xs) (ys := ys) (by omega)) (fun i H' => ∃ bs : List Bool, H' D = some (.lst (bs.map V.bl)) ∧ bs.length = i ∧ (∀ z ∈ bs, z = true) ∧ Same H1 H') ⟨[], upd_same, rfl, fun z hz => (by cases hz), same_new nD⟩ ?_ ?_ ?_
        · rintro i H' _ ⟨bs, _, _, _, sm⟩
          exact ⟨SqT.of (sm _ _ ha1), SqT.of (sm _ _ hb1)⟩
        · rintro i x H' H'' hi ⟨bs, hD, hlen, hall, sm⟩ ⟨tp, y1, y2, rfl, nt, rfl, ey1, ey2⟩
          have hyt : (upd H' tp (.tup [y1, y2])) tp = some (.tup [y1, y2]) := upd_same
          walk_at "ss"
          refine ⟨rfl, ?_⟩
          walk_at "ss"
          refine ⟨y1, y2, rfl, (hs i y1 y2 ey1 ey2).up ((s1.trans sm).trans (same_new nt)), fun H3 s3 => ?_⟩
          have hD3 := s3 _ _ (same_new nt _ _ hD)
          refine ⟨_, hD3, small_lt (by rw [List.length_map]; omega), bs ++ [true], by rw [upd_same, List.map_append]; rfl, by simp [hlen], ?_, same_put ((sm.trans (same_new nt)).trans s3) nD⟩
          intro z hz
          rcases List.mem_append.mp hz with hz | hz
          · exact hall z hz
          · exact List.mem_singleton.mp hz
        · rintro H' ⟨bs, hD, hlen, hall, sm⟩
          walk_at "ss"
          refine ⟨D, bs, rfl, SqL.of hD, ?_⟩
          have : bs.all id = true := List.all_eq_true.mpr fun z hz => hall z hz
          rw [this]
          exact k _ (s1.trans sm)
theorem okr_like (T : Tx K mg) : ∀ d, FnOk P w K mg base CX0 (d + 1) T.a_like T.fd_like P_like (spLike d)
  | 0 => ⟨fun _ _ _ _ h => h.elim, fun _ _ _ _ _ _ _ _ _ _ _ _ _ h => h.elim⟩
  | d + 1 => ok_like0 T d (okr_like T d)
theorem ok_like (T : Tx K mg) : FnOk P w K mg base CX0 4 T.a_like T.fd_like P_like (spLike 3) := okr_like T 3
end

section
variable {w : World} {K : PySem.W.Frag} {mg : Str → Option Value} {base : Heap}
theorem k_truU {ta : TE} {σ : L2.St} {H : Hp} {Q : Bool → Hp → Prop} (h : ta σ H fun x H' => ∃ k, TruV K x H' k ∧ Q k H') : tTruU K ta σ H Q := h
theorem g_none {G0 G : Hp} {t : Addr} (sm : Same G0 G) (n : G t = none) : G0 t = none := by
  cases hz : G0 t with
  | none => rfl
  | some o => exact absurd (sm _ _ hz) (by rw [n]; intro z; cases z)
theorem same_of_but {B : Addr} {G G1 G' : Hp} (s1 : Same G G1) (n : G B = none) (s : SameBut B G1 G') : Same G G' := fun a o h => s a o (ne_of_none h n) (s1 _ _ h)
theorem Bag.tupD {G0 G G' : Hp} {b : Addr} {β : HO} (hb : Bag K G0 G b β) {t : Addr} {xs : List V} (h : upd G' b β t = some (.tup xs)) : G' t = some (.tup xs) := by
  obtain ⟨l, ns, i, r, s, c, rfl, _⟩ := hb.ex
  by_cases e : t = b
  · subst e
    rw [upd_same] at h
    cases h
  · rw [upd_ne e] at h
    exact h
/-- a list of uses -/
def spItems (K : PySem.W.Frag) : Sp := fun vs H Q _ => ∃ (G0 G : Hp) (b : Addr) (β : HO) (a : Addr) (p : Plan), vs = [.ref b, .ref a] ∧ H = upd G b β ∧ Bag K G0 G b β ∧ PlanAt G a p ∧ p.Ok ∧
  ∀ (L : Addr) (l : UL) (G' : Hp) (β' : HO), Same G G' → Bag K G0 G' b β' → G' L = some (.lst (rfU l)) → PairsAt G' l → l.length ≤ 24 → (∀ z ∈ usL l, 1 ≤ z.2 ∧ 0 ≤ z.1 ∧ z.1 ≤ 100000) → Q (.ref L) (upd G' b β')
theorem ok_items (T : Tx K mg) : FnOk P w K mg base CX0 8 T.a_items T.fd_items P_items (spItems K) := by
  refine T.F_items.ok sc_items (fun vs H Q E h => ?_) (fun cdv A outer s H vs Q E hr h => ?_)
  · obtain ⟨G0, G, b, β, a, p, rfl, _⟩ := h
    rfl
  · obtain ⟨G0, G, b, β, a, p, rfl, rfl, hb, ha, op, k⟩ := h
    have nd := sc_items.nd
    refine ⟨_, (pss_cons (ks_setL (i := 2) nd l_items_law_base (pe_call (ok_of T) (hr.mono (by first | decide | omega)) g_items_law_of T.m_of T.k_of T.b_of .nil pass0 (pa_cons (kv (i := 0) v_items_law_bag_here) (pa_cons (pe_lst (pa_cons pe_int (pa_cons pe_int (pa_cons (pe_call (ok_draw T) (hr.mono (by first | decide | omega)) g_items_law_draw T.m_draw T.k_draw T.b_draw .nil pass0 (pa_cons (kv (i := 0) v_items_law_bag_here) (pa_cons pe_int pa_nil))) (pa_cons pe_int pa_nil))))) pa_nil))))
      (pss_cons (ks_setL (i := 3) nd l_items_law_wide (pe_call (ok_of T) (hr.mono (by first | decide | omega)) g_items_law_of T.m_of T.k_of T.b_of .nil pass0 (pa_cons (kv (i := 0) v_items_law_bag_here) (pa_cons (pe_lst (pa_cons pe_int (pa_cons pe_int (pa_cons pe_int (pa_cons pe_int pa_nil))))) pa_nil))))
      (pss_cons (ks_setL (i := 4) nd l_items_law_some (pe_lst pa_nil))
      (pss_cons (ps_for PassesOwn.never rfl (pi_range1 g_items_range T.n_range (pa_cons (pe_call (ok_of T) (hr.mono (by first | decide | omega)) g_items_law_of T.m_of T.k_of T.b_of .nil pass0 (pa_cons (kv (i := 0) v_items_law_bag_here) (pa_cons (pe_lst (pa_cons pe_int (pa_cons pe_int (pa_cons pe_int (pa_cons pe_int (pa_cons pe_int (pa_cons pe_int (pa_cons pe_int (pa_cons pe_int pa_nil))))))))) pa_nil))) pa_nil)) (kgL (i := 5) nd l_items_law_k) (pss_cons (ks_setL (i := 6) nd l_items_law_s (pe_op kop_add (kv (i := 2) v_items_law_base) (pe_call (ok_draw T) (hr.mono (by first | decide | omega)) g_items_law_draw T.m_draw T.k_draw T.b_draw .nil pass0 (pa_cons (kv (i := 0) v_items_law_bag_here) (pa_cons (kv (i := 3) v_items_law_wide) pa_nil)))))
      (kss_meet (ps_if (PW.pt (pw_and (kpt_truth K (kv (i := 4) v_items_law_some)) (pw_and1 (pt_cmpR op_eq (pe_call (ok_draw T) (hr.mono (by first | decide | omega)) g_items_law_draw T.m_draw T.k_draw T.b_draw .nil pass0 (pa_cons (kv (i := 0) v_items_law_bag_here) (pa_cons pe_int pa_nil))) pe_int (nomark _))))) (pss_cons (ks_setL (i := 6) nd l_items_law_s (pe_op op_sub (pe_call (ok_at T) (hr.mono (by first | decide | omega)) g_items_law_at T.m_at T.k_at T.b_at .nil pass0 (pa_cons (kv (i := 1) v_items_law_plan_here) (pa_cons (pe_ix (kix K) (pe_call (ok_of T) (hr.mono (by first | decide | omega)) g_items_law_of T.m_of T.k_of T.b_of .nil pass0 (pa_cons (kv (i := 0) v_items_law_bag_here) (pa_cons (kv (i := 4) v_items_law_some) pa_nil))) pe_int (fun _ _ => rfl)) pa_nil))) (pe_call (ok_draw T) (hr.mono (by first | decide | omega)) g_items_law_draw T.m_draw T.k_draw T.b_draw .nil pass0 (pa_cons (kv (i := 0) v_items_law_bag_here) (pa_cons pe_int pa_nil)))))
      (pss_one (ks_setL (i := 6) nd l_items_law_s (pe_op kop_add (kv (i := 2) v_items_law_base) (pe_op op_mod (kcT b_int (by decide) (by decide) kc_int g_items_int T.n_int (pa_cons (pe_op op_sub (kv (i := 6) v_items_law_s) (kv (i := 2) v_items_law_base)) pa_nil)) pe_int))))) pss_nil)
      (pss_cons (ks_setL (i := 7) nd l_items_law_many (pe_op kop_add pe_int (pe_call (ok_draw T) (hr.mono (by first | decide | omega)) g_items_law_draw T.m_draw T.k_draw T.b_draw .nil pass0 (pa_cons (kv (i := 0) v_items_law_bag_here) (pa_cons pe_int pa_nil)))))
      (kss_meet (ps_if (pt_cmpR op_eq (pe_call (ok_draw T) (hr.mono (by first | decide | omega)) g_items_law_draw T.m_draw T.k_draw T.b_draw .nil pass0 (pa_cons (kv (i := 0) v_items_law_bag_here) (pa_cons pe_int pa_nil))) pe_int (nomark _)) (pss_one (ks_setL (i := 7) nd l_items_law_many (pe_op kop_add pe_int (pe_call (ok_draw T) (hr.mono (by first | decide | omega)) g_items_law_draw T.m_draw T.k_draw T.b_draw .nil pass0 (pa_cons (kv (i := 0) v_items_law_bag_here) (pa_cons pe_int pa_nil)))))) pss_nil)
      (pss_one (ps_expr (pe_bm PySem.F.plainAttrs_list PySem.F.slot_list_append PySem.F.type_list_append mt_append (kv (i := 4) v_items_law_some) (pa_cons (pe_tup (pa_cons (kv (i := 6) v_items_law_s) (pa_cons (kv (i := 7) v_items_law_many) pa_nil))) pa_nil)))))))))
      (pss_one (ps_ret (kv (i := 4) v_items_law_some))))))), ?_⟩
    walk_at "ss"
    refine k_draw hb (by decide) (by decide) fun d1 β1 e0 e1 hb1 => ?_
    walk_at "ss"
    intro t1 nt_t1
    rw [upd_swap (up_none nt_t1).2]
    generalize eG_t1 : upd _ t1 _ = G1
    obtain ⟨nb1, sm1, ht1, nt_t1, nG_t1⟩ := new_facts hb1.nb nt_t1 eG_t1
    clear eG_t1
    have hb2 := hb1.up sm1 nb1
    walk_at "ss"
    refine k_of hb2 (SqL.of ht1) (by simp) (by simp) fun v β2 hv hb3 => ?_
    obtain ⟨lo, rfl, hlo0, hlo1⟩ : ∃ n : Int, v = V.int n ∧ 0 ≤ n ∧ n ≤ 90000 := by
      simp only [List.mem_cons, List.not_mem_nil, or_false] at hv
      rcases hv with rfl | rfl | rfl | rfl
      · exact ⟨_, rfl, by decide, by decide⟩
      · exact ⟨_, rfl, by decide, by decide⟩
      · exact ⟨_, rfl, by omega, by omega⟩
      · exact ⟨_, rfl, by decide, by decide⟩
    walk_at "ss"
    intro t2 nt_t2
    rw [upd_swap (up_none nt_t2).2]
    generalize eG_t2 : upd _ t2 _ = G2
    obtain ⟨nb2, sm2, ht2, nt_t2, nG_t2⟩ := new_facts nb1 nt_t2 eG_t2
    clear eG_t2
    have hb4 := hb3.up sm2 nb2
    walk_at "ss"
    refine k_of hb4 (SqL.of ht2) (by simp) (by simp) fun v β3 hv hb5 => ?_
    obtain ⟨wd, rfl, hw0, hw1⟩ : ∃ n : Int, v = V.int n ∧ 1 ≤ n ∧ n ≤ 60 := by
      simp only [List.mem_cons, List.not_mem_nil, or_false] at hv
      rcases hv with rfl | rfl | rfl | rfl <;> exact ⟨_, rfl, by decide, by decide⟩
    walk_at "ss"
    intro L nt_L
    rw [upd_swap (up_none nt_L).2]
    generalize eG_L : upd _ L _ = G3
    obtain ⟨nb3, sm3, hL, nt_L, nG_L⟩ := new_facts nb2 nt_L eG_L
    clear eG_L
    have hb6 := hb5.up sm3 nb3
    walk_at "ss"
    intro t4 nt_t4
    rw [upd_swap (up_none nt_t4).2]
    generalize eG_t4 : upd _ t4 _ = G4
    obtain ⟨nb4, sm4, ht4, nt_t4, nG_t4⟩ := new_facts nb3 nt_t4 eG_t4
    clear eG_t4
    have hb7 := hb6.up sm4 nb4
    walk_at "ss"
    refine k_of hb7 (SqL.of ht4) (by simp) (by simp) fun v β4 hv hb8 => ?_
    obtain ⟨n, rfl, hn0, hn1⟩ : ∃ n : Int, v = V.int n ∧ 0 ≤ n ∧ n ≤ 24 := by
      simp only [List.mem_cons, List.not_mem_nil, or_false] at hv
      rcases hv with rfl | rfl | rfl | rfl | rfl | rfl | rfl | rfl <;> exact ⟨_, rfl, by decide, by decide⟩
    walk_at "ss"
    refine k_r1 ⟨by omega, by omega⟩ ?_
    refine k_forRange (fun i σ H' => ∃ (l : UL) (G' : Hp) (β' : HO) (kv sv mv : Option V), σ = [some (.ref b), some (.ref a), some (.int lo), some (.int wd), some (.ref L), kv, sv, mv] ∧ H' = upd G' b β' ∧ Bag K G0 G' b β' ∧ Same G2 G' ∧ G' L = some (.lst (rfU l)) ∧ PairsAt G' l ∧ l.length = i ∧
      ∀ z ∈ usL l, 1 ≤ z.2 ∧ 0 ≤ z.1 ∧ z.1 ≤ 100000) ⟨[], G4, β4, none, none, none, rfl, rfl, hb8, sm3.trans sm4, sm4 _ _ hL, fun z hz => (by cases hz), rfl, fun z hz => (by cases hz)⟩ ?_ ?_
    · rintro i σ H' hii ⟨l, G5, β5, kv, sv, mv, rfl, rfl, hb9, sm5, hL5, hP, hlen, hz⟩
      walk_at "ss"
      refine k_draw hb9 (by omega) (by omega) fun d β6 d0 d1 hb10 => ?_
      walk_at "ss"
      refine k_meet (fun σ H' => ∃ (s : Int) (β' : HO), σ = [some (.ref b), some (.ref a), some (.int lo), some (.int wd), some (.ref L), some (.int (0 + (i : Nat))), some (.int s), mv] ∧ H' = upd G5 b β' ∧ Bag K G0 G5 b β' ∧ 0 ≤ s ∧ s ≤ 100000) ?_ ?_
      · walk_at "ss"
        refine k_truU ?_
        walk_at "ss"
        refine ⟨!(rfU l).isEmpty, .inl ⟨_, SqL.of (up_get hb10.nb hL5), rfl⟩, ?_⟩
        cases hE : !(rfU l).isEmpty with
        | false =>
          walk_at "ss"
          exact ⟨_, _, rfl, rfl, hb10, by omega, by omega⟩
        | true =>
          walk_at "ss"
          refine k_draw hb10 (by decide) (by decide) fun e β7 e0 e1 hb11 => ?_
          walk_at "ss"
          refine k_d (fun _ => ?_) (fun _ => ?_)
          · walk_at "ss"
            have hpos : 0 < (rfU l).length := by
              cases hh : rfU l with
              | nil => rw [hh] at hE; cases hE
              | cons x r => simp
            refine k_of hb11 (SqL.of hL5) hpos (by rw [List.length_map]; omega) fun v β8 hv hb12 => ?_
            obtain ⟨z, hzm, rfl⟩ := List.mem_map.mp hv
            have htz := up_get (β := β8) hb12.nb (hP z hzm)
            walk_at "ss"
            refine ⟨a, p, _, rfl, (ha.up ((sm1.trans sm2).trans sm5)).up (up_same hb12.nb), op, forms_le op, ?_⟩
            walk_at "ss"
            refine k_draw hb12 (by decide) (by decide) fun f β9 f0 f1 hb13 => ?_
            walk_at "ss"
            have hm := mod_bd (x := p.at z.2.1 - f - lo) (m := 120) (by decide)
            exact ⟨_, _, rfl, rfl, hb13, by omega, by omega⟩
          · walk_at "ss"
            exact ⟨_, _, rfl, rfl, hb11, by omega, by omega⟩
      · rintro σ H' ⟨s, β6, rfl, rfl, hb10, hs0, hs1⟩
        walk_at "ss"
        refine k_draw hb10 (by decide) (by decide) fun e β7 e0 e1 hb11 => ?_
        walk_at "ss"
        refine k_meet (fun σ H' => ∃ (m : Int) (β' : HO), σ = [some (.ref b), some (.ref a), some (.int lo), some (.int wd), some (.ref L), some (.int (0 + (i : Nat))), some (.int s), some (.int m)] ∧ H' = upd G5 b β' ∧ Bag K G0 G5 b β' ∧ 1 ≤ m) ?_ ?_
        · walk_at "ss"
          refine k_draw hb11 (by decide) (by decide) fun f β8 f0 f1 hb12 => ?_
          walk_at "ss"
          refine k_d (fun _ => ?_) (fun _ => ?_)
          · walk_at "ss"
            refine k_draw hb12 (by decide) (by decide) fun g β9 g0 g1 hb13 => ?_
            walk_at "ss"
            exact ⟨_, _, rfl, rfl, hb13, by omega⟩
          · walk_at "ss"
            exact ⟨_, _, rfl, rfl, hb12, by omega⟩
        · rintro σ H' ⟨m, β8, rfl, rfl, hb12, hm⟩
          walk_at "ss"
          refine k_bm ?_
          walk_at "ss"
          refine ⟨.inl ⟨rfl, _, SqL.of (up_get hb12.nb hL5)⟩, ?_⟩
          walk_at "ss"
          intro tz nt_tz
          rw [upd_swap (up_none nt_tz).2]
          generalize eG_tz : upd _ tz _ = G6
          obtain ⟨nb6, sm6, htz, nt_tz, nG_tz⟩ := new_facts hb12.nb nt_tz eG_tz
          clear eG_tz
          have hb13 := hb12.up sm6 nb6
          walk_at "ss"
          refine k_app (up_get nb6 (sm6 _ _ hL5)) (by rw [List.length_map]; omega) ?_
          rw [upd_swap nt_L]
          have es : rfU l ++ [V.ref tz] = rfU (l ++ [(tz, s, m)]) := by
            unfold rfU
            rw [List.map_append]
            rfl
          rw [es]
          refine ⟨l ++ [(tz, s, m)], _, β8, _, _, _, rfl, rfl, hb13.up0 (same_put hb13.sm (g_none hb4.sm nG_L)) (by rw [upd_ne (Ne.symm nt_L)]; exact nb6), same_put (sm5.trans sm6) nG_L, upd_same, ?_, by simp [hlen], ?_⟩
          · intro y hy
            have hy6 : G6 y.1 = some (.tup [.int y.2.1, .int y.2.2]) := by
              rcases List.mem_append.mp hy with hy | hy
              · exact sm6 _ _ (hP y hy)
              · rw [List.mem_singleton.mp hy]; exact htz
            rw [upd_ne (ne_of hy6 (sm6 _ _ hL5) (by intro q; cases q))]
            exact hy6
          · intro y hy
            unfold usL at hy hz
            rw [List.map_append] at hy
            rcases List.mem_append.mp hy with hy | hy
            · exact hz y hy
            · simp only [List.map_cons, List.map_nil, List.mem_singleton] at hy
              subst hy
              exact ⟨hm, hs0, hs1⟩
    · rintro σ H' ⟨l, G5, β5, kv, sv, mv, rfl, rfl, hb9, sm5, hL5, hP, hlen, hz⟩
      walk_at "ss"
      exact k L l G5 β5 ((sm1.trans sm2).trans sm5) hb9 hL5 hP (by omega) hz
end

section
variable {w : World} {K : PySem.W.Frag} {mg : Str → Option Value} {base : Heap}
def ListAt (H : Hp) (u : Addr) (l : UL) : Prop := H u = some (.lst (rfU l)) ∧ PairsAt H l ∧ l.length ≤ 30 ∧ ∀ z ∈ usL l, 1 ≤ z.2 ∧ 0 ≤ z.1 ∧ z.1 ≤ 100000
theorem ListAt.up {H H' : Hp} {u : Addr} {l : UL} (h : ListAt H u l) (e : Same H H') : ListAt H' u l := ⟨e _ _ h.1, h.2.1.up e, h.2.2⟩
def spSum : Sp := fun vs H Q _ => ∃ (a u : Addr) (s : Int) (p : Plan) (l : UL), vs = [.ref a, .ref u, .int s] ∧ PlanAt H a p ∧ p.Ok ∧ ListAt H u l ∧ ∀ H', Same H H' → Q (.int (wOf p (usL l) s)) H'
theorem ok_sum (T : Tx K mg) : FnOk P w K mg base CX0 8 T.a_sum T.fd_sum P_sum spSum := by
  refine T.F_sum.ok sc_sum (fun vs H Q E h => ?_) (fun cdv A outer s H vs Q E hr h => ?_)
  · obtain ⟨a, u, s, p, l, rfl, _⟩ := h
    rfl
  · obtain ⟨a, u, s, p, l, rfl, ha, op, ⟨hu, hp, hlen, hpos⟩, k⟩ := h
    have nd := sc_sum.nd
    refine ⟨_, (pss_cons (ks_setC (i := 3) nd c_sum_law_stop (pe_call (ok_at T) (hr.mono (by first | decide | omega)) g_sum_law_at T.m_at T.k_at T.b_at .nil pass0 (pa_cons (kv (i := 0) v_sum_law_plan_here) (pa_cons (kv (i := 2) v_sum_law_s) pa_nil))))
      (pss_one (ps_ret (kcB b_sum (by decide) (by decide) (kc_sum K rfl) g_sum_sum T.n_sum (pa_cons (pe_lc (own := [("_law_moment", 4), ("_law_many", 5)]) rfl nd (kpi_list K (kv (i := 1) v_sum_law_items_here)) ok_cs_sum_1 (fun _ _ _ _ _ => (kpg_tup K 2 rfl (pgs_cons (kgL (i := 4) nd l_sum_1_law_moment) (pgs_cons (kgL (i := 5) nd l_sum_1_law_many) pgs_nil)))) (fun _ _ _ _ _ => (pts_one (PW.pt (pw_and (pt_cmpR op_le (kv (i := 2) v_sum_1_law_s) (kv (i := 4) v_sum_1_law_moment) (nomark _)) (pw_and1 (pt_cmpR op_lt (kv (i := 4) v_sum_1_law_moment) (kv (i := 3) v_sum_1_law_stop) (nomark _))))))) (fun _ _ _ _ _ => (kv (i := 5) v_sum_1_law_many))) pa_nil))))), ?_⟩
    walk_at "ss"
    refine ⟨a, p, s, rfl, ha, op, forms_le op, ?_⟩
    walk_at "ss"
    refine k_iL (SqL.of hu) ?_
    intro D nD
    refine k_lcList (rfU l) (fun i H' => ∃ ms : List Int, H' D = some (.lst (ms.map V.int)) ∧ Same H H' ∧ ms.length ≤ i ∧ ms.sum = wsum (usL (l.take i)) s (p.at s)) ⟨[], upd_same, same_new nD, Nat.le_refl _, rfl⟩ ?_ ?_ ?_
    · rintro i H' _ ⟨ms, _, sm, _⟩
      exact SqL.of (sm _ _ hu)
    · rintro i x H' hx ⟨ms, hD, sm, hml, hsum⟩
      obtain ⟨t, m, n, hi, rfl⟩ := rfU_at hx
      have ht := sm _ _ (hp _ (List.mem_of_getElem? hi))
      have hil := (List.getElem?_eq_some_iff.mp hi).1
      have step : wsum (usL (l.take (i + 1))) s (p.at s) = wsum (usL (l.take i)) s (p.at s) + if s ≤ m ∧ m < p.at s then n else 0 := by
        rw [usL_take l i hi]
        unfold wsum
        rw [List.map_append, List.sum_append]
        simp
      walk_at "ss"
      refine ⟨rfl, ?_⟩
      walk_at "ss"
      refine k_d (fun h1 => ?_) (fun h1 => ?_)
      · walk_at "ss"
        refine k_d (fun h2 => ?_) (fun h2 => ?_)
        · walk_at "ss"
          refine ⟨_, hD, small_lt (by rw [List.length_map]; omega), ms ++ [n], by rw [upd_same, List.map_append]; rfl, same_put sm nD, by simp; omega, ?_⟩
          rw [List.sum_append, step, if_pos ⟨h1, h2⟩, hsum]
          simp
        · walk_at "ss"
          refine ⟨ms, hD, sm, by omega, ?_⟩
          rw [step, if_neg (fun q => h2 q.2), hsum]
          simp
      · walk_at "ss"
        refine ⟨ms, hD, sm, by omega, ?_⟩
        rw [step, if_neg (fun q => h1 q.1), hsum]
        simp
    · rintro H' ⟨ms, hD, sm, _, hsum⟩
      rw [List.length_map, List.take_length] at hsum
      walk_at "ss"
      refine ⟨D, ms, rfl, SqL.of hD, ?_⟩
      rw [hsum]
      exact k _ sm
def spDue : Sp := fun vs H Q _ => ∃ (a u : Addr) (p : Plan) (l : UL), vs = [.ref a, .ref u] ∧ PlanAt H a p ∧ p.Ok ∧ ListAt H u l ∧
  ∀ (v : Int) (st : Option Int) (t : Addr) (H' : Hp), Same H H' → H' t = some (.tup [.int v, stV st]) → Full p (usL l) v st → Q (.ref t) H'
theorem ok_due (T : Tx K mg) : FnOk P w K mg base CX0 9 T.a_due T.fd_due P_due spDue := by
  refine T.F_due.ok sc_due (fun vs H Q E h => ?_) (fun cdv A outer s H vs Q E hr h => ?_)
  · obtain ⟨a, u, p, l, rfl, _⟩ := h
    rfl
  · obtain ⟨a, u, p, l, rfl, ha, op, hL, k⟩ := h
    have nd := sc_due.nd
    refine ⟨_, (pss_cons (ks_setL (i := 2) nd l_due_law_best (pe_tup (pa_cons pe_int (pa_cons pe_non pa_nil))))
      (pss_cons (ps_for PassesOwn.never rfl (kpi_list K (kcB b_sorted (by decide) (by decide) (kc_sorted K) g_due_sorted T.n_sorted (pa_cons (pe_lc (own := [("_law_moment", 5), ("_law_many", 6)]) rfl nd (kpi_list K (kv (i := 1) v_due_law_items_here)) ok_cs_due_1 (fun _ _ _ _ _ => (kpg_tup K 2 rfl (pgs_cons (kgL (i := 5) nd l_due_1_law_moment) (pgs_cons (kgL (i := 6) nd l_due_1_law_many) pgs_nil)))) (fun _ _ _ _ _ => pts_nil) (fun _ _ _ _ _ => (kv (i := 5) v_due_1_law_moment))) pa_nil))) (kgL (i := 3) nd l_due_law_s) (pss_cons (ks_setL (i := 4) nd l_due_law_here (pe_call (ok_sum T) (hr.mono (by first | decide | omega)) g_due_law_sum T.m_sum T.k_sum T.b_sum .nil pass0 (pa_cons (kv (i := 0) v_due_law_plan_here) (pa_cons (kv (i := 1) v_due_law_items_here) (pa_cons (kv (i := 3) v_due_law_s) pa_nil)))))
      (pss_one (ps_if (pt_cmpR op_gt (kv (i := 4) v_due_law_here) (pe_ix (kix K) (kv (i := 2) v_due_law_best) pe_int (fun _ _ => rfl)) (nomark _)) (pss_one (ks_setL (i := 2) nd l_due_law_best (pe_tup (pa_cons (kv (i := 4) v_due_law_here) (pa_cons (kv (i := 3) v_due_law_s) pa_nil))))) pss_nil))))
      (pss_one (ps_ret (kv (i := 2) v_due_law_best))))), ?_⟩
    obtain ⟨hu, hp, hlen, hpos⟩ := id hL
    walk_at "ss"
    intro t0 nt0
    generalize eH : upd H t0 _ = H1
    have sm1 := upd_sm eH nt0
    have ht0 := upd_at eH
    clear eH
    walk_at "ss"
    refine k_iL (SqL.of (sm1 _ _ hu)) ?_
    intro D nD
    refine k_lcList (rfU l) (fun i H' => H' D = some (.lst (((usL (l.take i)).map (·.1)).map V.int)) ∧ Same H1 H') ⟨upd_same, same_new nD⟩ ?_ ?_ ?_
    · rintro i H' _ ⟨_, sm⟩
      exact SqL.of (sm _ _ (sm1 _ _ hu))
    · rintro i x H' hx ⟨hD, sm⟩
      obtain ⟨t, m, n, hi, rfl⟩ := rfU_at hx
      have ht := sm _ _ (sm1 _ _ (hp _ (List.mem_of_getElem? hi)))
      have hil := (List.getElem?_eq_some_iff.mp hi).1
      walk_at "ss"
      refine ⟨rfl, ?_⟩
      walk_at "ss"
      refine ⟨_, hD, small_lt (by unfold usL; simp; omega), ?_, same_put sm nD⟩
      rw [upd_same, usL_take l i hi]
      simp
    · rintro H2 ⟨hD, sm2⟩
      rw [List.length_map, List.take_length] at hD
      walk_at "ss"
      refine ⟨D, _, rfl, SqL.of hD, by unfold usL; simp; omega, fun ys q perm hpw nq => ?_⟩
      generalize eH : upd H2 q _ = H3
      have sm3 := sm2.trans (upd_sm eH nq)
      have hq3 := upd_at eH
      clear eH
      have hmy : ∀ m, m ∈ ys ↔ m ∈ (usL l).map (·.1) := fun m => perm.mem_iff
      refine k_iL (SqL.of hq3) ?_
      refine k_forList (ys.map V.int) (fun i σ H' => ∃ (v : Int) (st : Option Int) (tb : Addr) (v3 v4 : Option V), σ = [some (.ref a), some (.ref u), some (.ref tb), v3, v4, none, none] ∧ Same H3 H' ∧ H' tb = some (.tup [.int v, stV st]) ∧ Best (wOf p (usL l)) (ys.take i) v st)
        ⟨0, none, t0, none, none, rfl, Same.refl _, sm3 _ _ ht0, best_nil _⟩ ?_ ?_ ?_
      · rintro i σ H' _ ⟨v, st, tb, v3, v4, rfl, sm, _⟩
        exact SqL.of (sm _ _ hq3)
      · rintro i x σ H' hx ⟨v, st, tb, v3, v4, rfl, sm, htb, hB⟩
        obtain ⟨s, hs, rfl⟩ := map_int_at hx
        have sm4 := (sm1.trans sm3).trans sm
        walk_at "ss"
        refine ⟨a, u, s, p, l, rfl, ha.up sm4, op, hL.up sm4, fun H5 sm5 => ?_⟩
        have htb5 := sm5 _ _ htb
        have etk : ys.take (i + 1) = ys.take i ++ [s] := by rw [List.take_add_one, hs]; rfl
        have hms : s ∈ (usL l).map (·.1) := (hmy s).mp (List.mem_of_getElem? hs)
        walk_at "ss"
        refine k_d (fun h1 => ?_) (fun h1 => ?_)
        · walk_at "ss"
          intro t6 nt6
          refine ⟨_, some s, t6, _, _, rfl, (sm.trans sm5).trans (same_new nt6), upd_same, ?_⟩
          rw [etk]
          exact best_up hB (by omega)
        · walk_at "ss"
          refine ⟨v, st, tb, _, _, rfl, sm.trans sm5, htb5, ?_⟩
          rw [etk]
          refine best_stay hB (fun y hy => ?_) (w_one op (fun z hz => (hpos z hz).1) hms) (by omega)
          have hpw2 : (ys.take i ++ [s]).Pairwise (· ≤ ·) := by
            rw [← etk]
            exact hpw.sublist (List.take_sublist _ _)
          exact (List.pairwise_append.mp hpw2).2.2 y hy s (by simp)
      · rintro σ H' ⟨v, st, tb, v3, v4, rfl, sm, htb, hB⟩
        rw [List.length_map, List.take_length] at hB
        walk_at "ss"
        exact k v st tb _ ((sm1.trans sm3).trans sm) htb (full_of hB hmy)
def spGreat : Sp := fun vs H Q _ => ∃ (a u : Addr) (p : Plan) (l : UL), vs = [.ref a, .ref u] ∧ PlanAt H a p ∧ p.Ok ∧ ListAt H u l ∧
  ∃ (v : Int) (st : Option Int), Full p (usL l) v st ∧ ∀ H', Same H H' → Q (.int v) H'
theorem ok_greatest (T : Tx K mg) : FnOk P w K mg base CX0 9 T.a_greatest T.fd_greatest P_greatest spGreat := by
  refine T.F_greatest.ok sc_greatest (fun vs H Q E h => ?_) (fun cdv A outer s H vs Q E hr h => ?_)
  · obtain ⟨a, u, p, l, rfl, _⟩ := h
    rfl
  · obtain ⟨a, u, p, l, rfl, ha, op, hL, k⟩ := h
    have nd := sc_greatest.nd
    refine ⟨_, (pss_cons (ps_if (pt_not (kpt_truth K (kv (i := 1) v_greatest_law_items_here))) (pss_one (ps_ret pe_int)) pss_nil)
      (pss_cons (ks_setL (i := 2) nd l_greatest_law_low (kcB b_min (by decide) (by decide) (kc_minL K rfl) g_greatest_min T.n_min (pa_cons (pe_lc (own := [("_law_moment", 4), ("_law_many", 5)]) rfl nd (kpi_list K (kv (i := 1) v_greatest_law_items_here)) ok_cs_greatest_3 (fun _ _ _ _ _ => (kpg_tup K 2 rfl (pgs_cons (kgL (i := 4) nd l_greatest_3_law_moment) (pgs_cons (kgL (i := 5) nd l_greatest_3_law_many) pgs_nil)))) (fun _ _ _ _ _ => pts_nil) (fun _ _ _ _ _ => (kv (i := 4) v_greatest_3_law_moment))) pa_nil)))
      (pss_cons (ks_setL (i := 3) nd l_greatest_law_high (kcB b_max (by decide) (by decide) (kc_maxL K rfl) g_greatest_max T.n_max (pa_cons (pe_lc (own := [("_law_moment", 4), ("_law_many", 5)]) rfl nd (kpi_list K (kv (i := 1) v_greatest_law_items_here)) ok_cs_greatest_2 (fun _ _ _ _ _ => (kpg_tup K 2 rfl (pgs_cons (kgL (i := 4) nd l_greatest_2_law_moment) (pgs_cons (kgL (i := 5) nd l_greatest_2_law_many) pgs_nil)))) (fun _ _ _ _ _ => pts_nil) (fun _ _ _ _ _ => (kv (i := 4) v_greatest_2_law_moment))) pa_nil)))
      (pss_one (ps_ret (kcB b_max (by decide) (by decide) (kc_maxL K rfl) g_greatest_max T.n_max (pa_cons (pe_lc (own := [("_law_s", 6)]) rfl nd (pi_range2 g_greatest_range T.n_range (pa_cons (kcB b_max (by decide) (by decide) (kc_max2 rfl) g_greatest_max T.n_max (pa_cons pe_int (pa_cons (pe_op op_sub (kv (i := 2) v_greatest_law_low) pe_int) pa_nil))) (pa_cons (pe_op kop_add (kv (i := 3) v_greatest_law_high) pe_int) pa_nil))) ok_cs_greatest_1 (fun _ _ _ _ _ => (kgL (i := 6) nd l_greatest_1_law_s)) (fun _ _ _ _ _ => pts_nil) (fun _ _ _ _ _ => (pe_call (ok_sum T) (hr.mono (by first | decide | omega)) g_greatest_1_law_sum T.m_sum T.k_sum T.b_sum .nil pass0 (pa_cons (kv (i := 0) v_greatest_1_law_plan_here) (pa_cons (kv (i := 1) v_greatest_1_law_items_here) (pa_cons (kv (i := 6) v_greatest_1_law_s) pa_nil)))))) pa_nil))))))), ?_⟩
    obtain ⟨hu, hp, hlen, hpos⟩ := id hL
    obtain ⟨v, st, hf, k⟩ := k
    walk_at "ss"
    refine k_truU ?_
    walk_at "ss"
    refine ⟨!(rfU l).isEmpty, .inl ⟨_, SqL.of hu, rfl⟩, ?_⟩
    cases hE : !(rfU l).isEmpty with
    | false =>
      walk_at "ss"
      have e : usL l = [] := by
        cases l with
        | nil => rfl
        | cons z r => cases hE
      have ev : v = 0 := by
        rcases hf with ⟨_, h, _⟩ | ⟨m, hm, _⟩
        · exact h
        · rw [e] at hm; cases hm
      rw [ev] at k
      exact k _ (Same.refl _)
    | true =>
      have hpos0 : 0 < l.length := by
        cases l with
        | nil => cases hE
        | cons z r => simp
      have hmom : ∀ m ∈ (usL l).map (·.1), 0 ≤ m ∧ m ≤ 100000 := fun m hm => by
        obtain ⟨z, hz, rfl⟩ := List.mem_map.mp hm
        exact (hpos z hz).2
      walk_at "ss"
      refine k_iL (SqL.of hu) ?_
      intro D nD
      refine k_lcList (rfU l) (fun i H' => H' D = some (.lst (((usL (l.take i)).map (·.1)).map V.int)) ∧ Same H H') ⟨upd_same, same_new nD⟩ ?_ ?_ ?_
      · rintro i H' _ ⟨_, sm⟩
        exact SqL.of (sm _ _ hu)
      · rintro i x H' hx ⟨hD, sm⟩
        obtain ⟨t, m, n, hi, rfl⟩ := rfU_at hx
        have ht := sm _ _ (hp _ (List.mem_of_getElem? hi))
        have hil := (List.getElem?_eq_some_iff.mp hi).1
        walk_at "ss"
        refine ⟨rfl, ?_⟩
        walk_at "ss"
        refine ⟨_, hD, small_lt (by unfold usL; simp; omega), ?_, same_put sm nD⟩
        rw [upd_same, usL_take l i hi]
        simp
      rintro H1 ⟨hD, sm1⟩
      rw [List.length_map, List.take_length] at hD
      walk_at "ss"
      refine ⟨D, _, rfl, SqL.of hD, by unfold usL; simp; omega, fun low hlow hlow2 => ?_⟩
      walk_at "ss"
      refine k_iL (SqL.of (sm1 _ _ hu)) ?_
      intro D2 nD2
      refine k_lcList (rfU l) (fun i H' => H' D2 = some (.lst (((usL (l.take i)).map (·.1)).map V.int)) ∧ Same H1 H') ⟨upd_same, same_new nD2⟩ ?_ ?_ ?_
      · rintro i H' _ ⟨_, sm⟩
        exact SqL.of (sm _ _ (sm1 _ _ hu))
      · rintro i x H' hx ⟨hD, sm⟩
        obtain ⟨t, m, n, hi, rfl⟩ := rfU_at hx
        have ht := sm _ _ (sm1 _ _ (hp _ (List.mem_of_getElem? hi)))
        have hil := (List.getElem?_eq_some_iff.mp hi).1
        walk_at "ss"
        refine ⟨rfl, ?_⟩
        walk_at "ss"
        refine ⟨_, hD, small_lt (by unfold usL; simp; omega), ?_, same_put sm nD2⟩
        rw [upd_same, usL_take l i hi]
        simp
      rintro H2 ⟨hD2, sm2⟩
      rw [List.length_map, List.take_length] at hD2
      walk_at "ss"
      refine ⟨D2, _, rfl, SqL.of hD2, by unfold usL; simp; omega, fun high hhigh hhigh2 => ?_⟩
      have hlo := hmom low hlow
      have hhi := hmom high hhigh
      have hlh := hlow2 high hhigh
      have sm12 := sm1.trans sm2
      walk_at "ss"
      have hfr : 0 ≤ (if low - 6 > 0 then low - 6 else 0) ∧ (if low - 6 > 0 then low - 6 else 0) ≤ low := by split <;> omega
      generalize (if low - 6 > 0 then low - 6 else (0 : Int)) = fr at hfr
      refine k_r2 ⟨by omega, by omega, by omega, by omega⟩ ?_
      intro D3 nD3
      refine k_lcRange (lo := fr) (n := (high + 2 - fr).toNat) (fun i H' => H' D3 = some (.lst (((List.range i).map fun j : Nat => wOf p (usL l) (fr + j)).map V.int)) ∧ Same H2 H') ⟨upd_same, same_new nD3⟩ ?_ ?_
      · rintro i H' hi ⟨hD3, sm⟩
        have sm4 := sm12.trans sm
        walk_at "ss"
        refine ⟨rfl, ?_⟩
        walk_at "ss"
        refine ⟨a, u, fr + i, p, l, rfl, ha.up sm4, op, hL.up sm4, fun H5 sm5 => ?_⟩
        refine ⟨_, sm5 _ _ hD3, small_lt (by simp; omega), ?_, same_put (sm.trans sm5) nD3⟩
        rw [upd_same, List.range_succ]
        simp
      · rintro H3 ⟨hD3, sm3⟩
        walk_at "ss"
        refine ⟨D3, _, rfl, SqL.of hD3, by simp; omega, fun m hm hm2 => ?_⟩
        have e : m = v := by
          obtain ⟨j, hj, rfl⟩ := List.mem_map.mp hm
          have h1 := w_max op (fun z hz => (hpos z hz).1) hf (fr + j)
          rcases hf with ⟨h, _⟩ | ⟨s, hs, _, hv, _⟩
          · unfold usL at h
            cases l with
            | nil => simp at hpos0
            | cons z r => cases h
          · have h2 := hlow2 s hs
            have h3 := hhigh2 s hs
            have h4 := hm2 (wOf p (usL l) s) (List.mem_map.mpr ⟨(s - fr).toNat, List.mem_range.mpr (by omega), by congr 1; omega⟩)
            omega
        rw [e]
        exact k _ (sm12.trans sm3)
end

section
variable {w : World} {K : PySem.W.Frag} {mg : Str → Option Value} {base : Heap}
theorem eqd_pair {H : Hp} {s t : Addr} {v : Int} {st : Option Int} (hs : H s = some (.tup [.int v, stV st])) (ht : H t = some (.tup [.int v, stV st])) {d : Nat} : Eqd H (d + 1) (.ref s) (.ref t) := by
  have hst : Sc (stV st) := by cases st with
    | none => exact .non
    | some m => exact .int m
  refine .inr ⟨s, t, _, _, rfl, rfl, .inr ⟨hs, ht⟩, rfl, by simp, fun i x y hx hy => ?_⟩
  match i, hx, hy with
  | 0, hx, hy => cases hx; cases hy; exact Eqd.sc (.int v) d
  | 1, hx, hy => cases hx; cases hy; exact Eqd.sc hst d
theorem UsesAt.but {H : Hp} {u g : Addr} {l : UL} (h : UsesAt H u l) (hg : H g = some (.lst (rfU l))) : UsesAt H g l := ⟨.inl hg, h.2⟩
theorem UsesAt.tup {H : Hp} {u g : Addr} {l : UL} (h : UsesAt H u l) (hg : H g = some (.tup (rfU l))) : UsesAt H g l := ⟨.inr hg, h.2⟩
theorem eqd_rows {H : Hp} {s u : Addr} {l : UL} (hs : H s = some (.lst (rfU l))) (hu : H u = some (.lst (rfU l))) (hp : PairsAt H l) (hl : l.length ≤ 30) : Eqd H 2 (.ref s) (.ref u) := by
  refine .inr ⟨s, u, _, _, rfl, rfl, .inl ⟨hs, hu⟩, rfl, by rw [List.length_map]; omega, fun i x y hx hy => ?_⟩
  rw [hx] at hy
  cases hy
  obtain ⟨t, m, n, hi, rfl⟩ := rfU_at hx
  have h := hp _ (List.mem_of_getElem? hi)
  exact eqd_pair (st := some n) h h
theorem k_pick {σ : L2.St} {H : Hp} {Q : VK} {u t : Addr} {l : UL} {v : Int} {st : Option Int} {p : Plan} (h3 : σ[3]? = some (some (.ref u))) (h4 : σ[4]? = some (some (.ref t))) (hu : H u = some (.lst (rfU l))) (ht : H t = some (.tup [.int v, stV st]))
    (hf : Full p (usL l) v st) (hpos : ∀ z ∈ usL l, 1 ≤ z.2 ∧ 0 ≤ z.1 ∧ z.1 ≤ 100000) (k : ∀ m : Int, 0 ≤ m → m ≤ 100000 → Q (.int m) H) : tIf (tTruU K (tVar 3)) (tOp (rIx K) (tVar 4) (tC (V.int 1))) (tC (V.int 3)) σ H Q := by
  refine k_if ?_
  refine k_truU ?_
  refine k_var h3 ?_
  refine ⟨!(rfU l).isEmpty, .inl ⟨_, SqL.of hu, rfl⟩, ?_⟩
  cases hE : !(rfU l).isEmpty with
  | false =>
    refine k_f ?_
    exact k 3 (by decide) (by decide)
  | true =>
    refine k_t ?_
    rcases hf with ⟨h, _⟩ | ⟨m, hm, rfl, _⟩
    · unfold usL at h
      cases l with
      | nil => cases hE
      | cons z r => cases h
    · refine k_op ?_
      refine k_var h4 ?_
      refine k_c ?_
      refine k_ixT (SqT.of ht) (v := .int m) rfl ?_
      obtain ⟨z, hz, rfl⟩ := List.mem_map.mp hm
      exact k _ (hpos z hz).2.1 (hpos z hz).2.2
theorem rows_cut {l : UL} {z : Addr × Int × Int} : cutV (rfU (l ++ [z])) none (some (-1)) = rfU l := by
  unfold cutV
  rw [HT.sIx_none]
  show ((rfU (l ++ [z])).drop 0).take ((if (-1 : Int) < 0 then ((-1 : Int) + ((rfU (l ++ [z])).length : Int)).toNat else min (-1 : Int).toNat (rfU (l ++ [z])).length) - 0) = _
  rw [if_pos (by decide), List.drop_zero]
  have e : ((-1 : Int) + ((rfU (l ++ [z])).length : Int)).toNat - 0 = (rfU l).length := by
    unfold rfU
    rw [List.map_append, List.length_append]
    simp
    omega
  rw [e]
  unfold rfU
  rw [List.map_append, List.take_left]
theorem nameB_r : nameB "r" := ⟨114, [], by decide +kernel, by decide +kernel, by decide +kernel, by decide +kernel⟩
theorem ListAt.uses {H : Hp} {u : Addr} {l : UL} (h : ListAt H u l) : UsesAt H u l := ⟨.inl h.1, h.2.1, h.2.2.1, fun z hz => (h.2.2.2 z hz).1⟩
def spWso (T : Tx K mg) : Sp := fun vs H Q _ => ∃ (F : Addr → Prop) (G0 G : Hp) (b : Addr) (β : HO) (x : V) (th u : Addr) (v : Int) (st : Option Int) (p : Plan) (l : UL), vs = [.ref b, x, .ref th, .ref u, .int v] ∧ H = upd G b β ∧ Bag K G0 G b β ∧
  RestAt T F G th p ∧ p.Ok ∧ ListAt G u l ∧ Full p (usL l) v st ∧ ∀ (G' : Hp) (β' : HO), Same G G' → Bag K G0 G' b β' → Q (.bl true) (upd G' b β')
theorem ok_within_so (T : Tx K mg) : FnOk P w K mg base CX0 10 T.a_within_so T.fd_within_so P_within_so (spWso T) := by
  refine T.F_within_so.ok sc_within_so (fun vs H Q E h => ?_) (fun cdv A outer s H vs Q E hr h => ?_)
  · obtain ⟨F, G0, G, b, β, x, th, u, v, st, p, l, rfl, _⟩ := h
    rfl
  · obtain ⟨F, G0, G, b, β, x, th, u, v, st, p, l, rfl, rfl, hb, hr1, op, hL, hf, k⟩ := h
    have nd := sc_within_so.nd
    refine ⟨_, (pss_cons (ps_for PassesOwn.never rfl (kpi_tup K (pe_tup (pa_cons (pe_op op_sub (kv (i := 4) v_within_so_law_best) pe_int) (pa_cons (kv (i := 4) v_within_so_law_best) (pa_cons (pe_op kop_add (kv (i := 4) v_within_so_law_best) pe_int) (pa_cons (pe_call (ok_of T) (hr.mono (by first | decide | omega)) g_within_so_law_of T.m_of T.k_of T.b_of .nil pass0 (pa_cons (kv (i := 0) v_within_so_law_bag_here) (pa_cons (pe_lst (pa_cons pe_int (pa_cons pe_int (pa_cons pe_int pa_nil)))) pa_nil))) pa_nil)))))) (kgL (i := 5) nd l_within_so_law_chips) (pss_one (ps_if (PW.pt (pw_and (pt_cmpR op_le pe_int (kv (i := 5) v_within_so_law_chips) (nomark _)) (pw_and1 (pt_cmpR op_le (kv (i := 5) v_within_so_law_chips) pe_int (nomark _))))) (pss_cons (ks_setL (i := 6) nd l_within_so_law_told (pe_ifExp (pt_cmpR op_eq (pe_call (ok_draw T) (hr.mono (by first | decide | omega)) g_within_so_law_draw T.m_draw T.k_draw T.b_draw .nil pass0 (pa_cons (kv (i := 0) v_within_so_law_bag_here) (pa_cons pe_int pa_nil))) pe_int (nomark _)) (pe_call (ok_is_within T) (hr.mono (by first | decide | omega)) g_within_so_is_within T.m_is_within T.k_is_within T.b_is_within .nil pass0 (pa_cons (pe_make T.mk_Rule (ok_Rule_init T) (hr.mono (by first | decide | omega)) g_within_so_Rule T.m_Rule T.b_Rule_init .nil pass0 (pa_cons pe_str (pa_cons (kv (i := 5) v_within_so_law_chips) (pa_cons (kv (i := 2) v_within_so_law_thing) pa_nil)))) (pa_cons (kcT b_list (by decide) (by decide) (kc_list K) g_within_so_list T.n_list (pa_cons (kv (i := 3) v_within_so_law_items_here) pa_nil)) pa_nil))) (pe_callKS (E := fun _ => E0) (ok_is_within T) (hr.mono (by first | decide | omega)) g_within_so_is_within T.m_is_within T.k_is_within T.kb_is_within_uses_rule pass0At (pk_cons (kv (i := 3) v_within_so_law_items_here) (pk_cons (pe_make T.mk_Rule (ok_Rule_init T) (hr.mono (by first | decide | omega)) g_within_so_Rule T.m_Rule T.b_Rule_init .nil pass0 (pa_cons pe_str (pa_cons (kv (i := 5) v_within_so_law_chips) (pa_cons (kv (i := 2) v_within_so_law_thing) pa_nil)))) pk_nil)))))
      (pss_one (ps_if (pt_not (pt_val (pe_call (ok_like T) (hr.mono (by first | decide | omega)) g_within_so_law_like T.m_like T.k_like T.b_like .nil pass0 (pa_cons (kv (i := 6) v_within_so_law_told) (pa_cons (pe_cmpR op_le (kv (i := 4) v_within_so_law_best) (kv (i := 5) v_within_so_law_chips) (nomark _)) pa_nil))))) (pss_one (ps_ret pe_bl)) pss_nil))) pss_nil)))
      (pss_one (ps_ret pe_bl))), ?_⟩
    have hU := hL.uses
    walk_at "ss"
    intro t1 nt_t1
    rw [upd_swap (up_none nt_t1).2]
    generalize eG_t1 : upd _ t1 _ = G1
    obtain ⟨nb1, sm1, ht1, nt_t1, nG_t1⟩ := new_facts hb.nb nt_t1 eG_t1
    clear eG_t1
    have hb1 := hb.up sm1 nb1
    walk_at "ss"
    refine k_of hb1 (SqL.of ht1) (by simp) (by simp) fun y β2 hv hb2 => ?_
    obtain ⟨n, rfl⟩ : ∃ n : Int, y = V.int n := by
      simp only [List.mem_cons, List.not_mem_nil, or_false] at hv
      rcases hv with rfl | rfl | rfl <;> exact ⟨_, rfl⟩
    walk_at "ss"
    intro t2 nt_t2
    rw [upd_swap (up_none nt_t2).2]
    generalize eG_t2 : upd _ t2 _ = G2
    obtain ⟨nb2, sm2, ht2, nt_t2, nG_t2⟩ := new_facts nb1 nt_t2 eG_t2
    clear eG_t2
    have hb3 := hb2.up sm2 nb2
    have sm02 := sm1.trans sm2
    walk_at "ss"
    refine k_iT (SqT.of (up_get nb2 ht2)) ?_
    refine k_forTup [.int (v - 1), .int v, .int (v + 1), .int n] (fun i σ H' => ∃ (G' : Hp) (β' : HO) (v5 v6 : Option V), σ = [some (.ref b), some x, some (.ref th), some (.ref u), some (.int v), v5, v6] ∧ H' = upd G' b β' ∧ Bag K G0 G' b β' ∧ Same G2 G') ⟨G2, β2, none, none, rfl, rfl, hb3, Same.refl _⟩ ?_ ?_ ?_
    · rintro i σ H' _ ⟨G', β', v5, v6, rfl, rfl, hb4, sm4⟩
      exact SqT.of (up_get hb4.nb (sm4 _ _ ht2))
    · rintro i y σ H' hx ⟨G3, β3, v5, v6, rfl, rfl, hb4, sm3⟩
      obtain ⟨c, rfl⟩ : ∃ c : Int, y = V.int c := by
        have hm := List.mem_of_getElem? hx
        simp only [List.mem_cons, List.not_mem_nil, or_false] at hm
        rcases hm with rfl | rfl | rfl | rfl <;> exact ⟨_, rfl⟩
      have sm03 := sm02.trans sm3
      walk_at "ss"
      refine k_d (fun h1 => ?_) (fun h1 => ?_)
      · walk_at "ss"
        refine k_d (fun h2 => ?_) (fun h2 => ?_)
        · walk_at "ss"
          refine k_draw hb4 (by decide) (by decide) fun e β5 e0 e1 hb5 => ?_
          walk_at "ss"
          have smU := up_same (β := β5) hb5.nb
          have hth := (hr1.up sm03).up smU
          have hu5 := (hU.up sm03).up smU
          have hlu := up_get (β := β5) hb5.nb (sm03 _ _ hL.1)
          refine k_d (fun _ => ?_) (fun _ => ?_)
          · walk_at "ss"
            refine k_make ?_
            walk_at "ss"
            intro ra rx na nx ne
            have smM := same_made (C := T.C_Rule) na nx ne
            refine ⟨F, ra, rx, "r", c, th, p, rfl, nameB_r, h1, h2, hth.up smM, upd_same, rfl, ?_⟩
            have smR := same_put (o := .ins T.C_Rule rx (FL nR [.str "r", .int c, .ref th])) smM na
            have hR : RuleAt T (upd (upd (upd (upd G3 b β5) rx (.own ra)) ra (.ins T.C_Rule rx [])) ra (.ins T.C_Rule rx (FL nR [.str "r", .int c, .ref th]))) ra c th := ⟨rx, "r", upd_same⟩
            generalize upd (upd (upd (upd G3 b β5) rx (.own ra)) ra (.ins T.C_Rule rx [])) ra (.ins T.C_Rule rx (FL nR [.str "r", .int c, .ref th])) = HM at smR hR
            walk_at "ss"
            refine k_listL (SqL.of (smR _ _ hlu)) ?_
            intro lq nlq
            have smL := same_new (o := .lst (rfU l)) nlq
            walk_at "ss"
            obtain ⟨dx, nm, hR⟩ := hR
            refine ⟨F, ra, th, lq, c, p, l, rfl, ⟨dx, nm, smL _ _ hR⟩, (hth.up smR).up smL, op, ⟨.inl upd_same, ((hu5.up smR).up smL).2⟩, fun v1 st1 H6 sm6 hf1 => ?_⟩
            obtain ⟨rfl, rfl⟩ := full_same hf1 hf
            walk_at "ss"
            refine ⟨_, _, rfl, Eqd.sc (.bl _) 2, fun H7 sm7 => ?_⟩
            obtain ⟨G6, nb6, sm6, rfl⟩ := split_up hb5.nb (((smR.trans smL).trans sm6).trans sm7)
            walk_at "ss"
            exact ⟨G6, β5, _, _, rfl, rfl, hb5.up sm6 nb6, sm3.trans sm6⟩
          · refine k_callKS ?_
            walk_at "ss"
            refine k_make ?_
            walk_at "ss"
            intro ra rx na nx ne
            have smM := same_made (C := T.C_Rule) na nx ne
            refine ⟨F, ra, rx, "r", c, th, p, rfl, nameB_r, h1, h2, hth.up smM, upd_same, rfl, ?_⟩
            have smR := same_put (o := .ins T.C_Rule rx (FL nR [.str "r", .int c, .ref th])) smM na
            have hR : RuleAt T (upd (upd (upd (upd G3 b β5) rx (.own ra)) ra (.ins T.C_Rule rx [])) ra (.ins T.C_Rule rx (FL nR [.str "r", .int c, .ref th]))) ra c th := ⟨rx, "r", upd_same⟩
            generalize upd (upd (upd (upd G3 b β5) rx (.own ra)) ra (.ins T.C_Rule rx [])) ra (.ins T.C_Rule rx (FL nR [.str "r", .int c, .ref th])) = HM at smR hR
            walk_at "ss"
            refine ⟨F, ra, th, u, c, p, l, rfl, hR, hth.up smR, op, hu5.up smR, fun v1 st1 H6 sm6 hf1 => ?_⟩
            obtain ⟨rfl, rfl⟩ := full_same hf1 hf
            walk_at "ss"
            refine ⟨_, _, rfl, Eqd.sc (.bl _) 2, fun H7 sm7 => ?_⟩
            obtain ⟨G6, nb6, sm6, rfl⟩ := split_up hb5.nb ((smR.trans sm6).trans sm7)
            walk_at "ss"
            exact ⟨G6, β5, _, _, rfl, rfl, hb5.up sm6 nb6, sm3.trans sm6⟩
        · walk_at "ss"
          exact ⟨G3, β3, _, _, rfl, rfl, hb4, sm3⟩
      · walk_at "ss"
        exact ⟨G3, β3, _, _, rfl, rfl, hb4, sm3⟩
    · rintro σ H' ⟨G3, β3, v5, v6, rfl, rfl, hb4, sm3⟩
      walk_at "ss"
      exact k G3 β3 (sm02.trans sm3) hb4
def spSo (T : Tx K mg) : Sp := fun vs H Q _ => ∃ (F : Addr → Prop) (G0 G : Hp) (b : Addr) (β : HO) (a th u : Addr) (p : Plan) (l : UL), vs = [.ref b, .ref a, .ref th, .ref u] ∧ H = upd G b β ∧ Bag K G0 G b β ∧ PlanAt G a p ∧
  RestAt T F G th p ∧ p.Ok ∧ ListAt G u l ∧ l.length ≤ 24 ∧ ∀ (G' : Hp) (β' : HO), Same G G' → Bag K G0 G' b β' → Q (.bl true) (upd G' b β')
theorem ok_so (T : Tx K mg) : FnOk P w K mg base CX0 11 T.a_so T.fd_so P_so (spSo T) := by
  refine T.F_so.ok sc_so (fun vs H Q E h => ?_) (fun cdv A outer s H vs Q E hr h => ?_)
  · obtain ⟨F, G0, G, b, β, a, th, u, p, l, rfl, _⟩ := h
    rfl
  · obtain ⟨F, G0, G, b, β, a, th, u, p, l, rfl, rfl, hb, ha, hr1, op, hL, hl24, k⟩ := h
    have nd := sc_so.nd
    refine ⟨_, (pss_cons (ks_setL (i := 4) nd l_so_law_due_here (pe_call (ok_due T) (hr.mono (by first | decide | omega)) g_so_law_due T.m_due T.k_due T.b_due .nil pass0 (pa_cons (kv (i := 1) v_so_law_plan_here) (pa_cons (kv (i := 3) v_so_law_items_here) pa_nil))))
      (pss_cons (ks_setL (i := 5) nd l_so_law_given (kcT b_list (by decide) (by decide) (kc_list K) g_so_list T.n_list (pa_cons (kv (i := 3) v_so_law_items_here) pa_nil)))
      (pss_cons (ps_if (pt_cmpR op_ne (pe_ix (kix K) (kv (i := 4) v_so_law_due_here) pe_int (fun _ _ => rfl)) (pe_call (ok_greatest T) (hr.mono (by first | decide | omega)) g_so_law_greatest T.m_greatest T.k_greatest T.b_greatest .nil pass0 (pa_cons (kv (i := 1) v_so_law_plan_here) (pa_cons (kv (i := 3) v_so_law_items_here) pa_nil))) (nomark _)) (pss_one (ps_ret pe_bl)) pss_nil)
      (pss_cons (ps_if (PW.pt (pw_or (pt_not (pt_val (pe_call (ok_like T) (hr.mono (by first | decide | omega)) g_so_law_like T.m_like T.k_like T.b_like .nil pass0 (pa_cons (pe_call (ok_fullest T) (hr.mono (by first | decide | omega)) g_so_fullest T.m_fullest T.k_fullest T.b_fullest .nil pass0 (pa_cons (kv (i := 2) v_so_law_thing) (pa_cons (kv (i := 5) v_so_law_given) pa_nil))) (pa_cons (kv (i := 4) v_so_law_due_here) pa_nil))))) (pw_or1 (pt_not (pt_val (pe_call (ok_like T) (hr.mono (by first | decide | omega)) g_so_law_like T.m_like T.k_like T.b_like .nil pass0 (pa_cons (pe_callKS (E := fun _ => E0) (ok_fullest T) (hr.mono (by first | decide | omega)) g_so_fullest T.m_fullest T.k_fullest T.kb_fullest_uses_rest pass0At (pk_cons (kcT b_tuple (by decide) (by decide) (kc_tuple K) g_so_tuple T.n_tuple (pa_cons (kv (i := 3) v_so_law_items_here) pa_nil)) (pk_cons (kv (i := 2) v_so_law_thing) pk_nil))) (pa_cons (kv (i := 4) v_so_law_due_here) pa_nil)))))))) (pss_one (ps_ret pe_bl)) pss_nil)
      (pss_cons (ps_if (pt_not (pt_val (pe_call (ok_within_so T) (hr.mono (by first | decide | omega)) g_so_law_within_so T.m_within_so T.k_within_so T.b_within_so .nil pass0 (pa_cons (kv (i := 0) v_so_law_bag_here) (pa_cons (kv (i := 1) v_so_law_plan_here) (pa_cons (kv (i := 2) v_so_law_thing) (pa_cons (kv (i := 3) v_so_law_items_here) (pa_cons (pe_ix (kix K) (kv (i := 4) v_so_law_due_here) pe_int (fun _ _ => rfl)) pa_nil)))))))) (pss_one (ps_ret pe_bl)) pss_nil)
      (pss_cons (ps_expr (pe_bm PySem.F.plainAttrs_list PySem.F.slot_list_append PySem.F.type_list_append mt_append (kv (i := 5) v_so_law_given) (pa_cons (pe_tup (pa_cons (pe_ifExp (kpt_truth K (kv (i := 3) v_so_law_items_here)) (pe_ix (kix K) (kv (i := 4) v_so_law_due_here) pe_int (fun _ _ => rfl)) pe_int) (pa_cons pe_int pa_nil))) pa_nil)))
      (pss_cons (ks_setL (i := 6) nd l_so_law_more (pe_call (ok_due T) (hr.mono (by first | decide | omega)) g_so_law_due T.m_due T.k_due T.b_due .nil pass0 (pa_cons (kv (i := 1) v_so_law_plan_here) (pa_cons (kv (i := 5) v_so_law_given) pa_nil))))
      (pss_one (ps_ret (pe_and (pe_call (ok_like T) (hr.mono (by first | decide | omega)) g_so_law_like T.m_like T.k_like T.b_like .nil pass0 (pa_cons (pe_slice (ksl_list K) (kv (i := 5) v_so_law_given) po_none (po_some (pe_un un_neg pe_int))) (pa_cons (kv (i := 3) v_so_law_items_here) pa_nil))) (pe_and (pe_call (ok_like T) (hr.mono (by first | decide | omega)) g_so_law_like T.m_like T.k_like T.b_like .nil pass0 (pa_cons (pe_call (ok_fullest T) (hr.mono (by first | decide | omega)) g_so_fullest T.m_fullest T.k_fullest T.b_fullest .nil pass0 (pa_cons (kv (i := 2) v_so_law_thing) (pa_cons (kv (i := 5) v_so_law_given) pa_nil))) (pa_cons (kv (i := 6) v_so_law_more) pa_nil))) (pe_one (pe_call (ok_like T) (hr.mono (by first | decide | omega)) g_so_law_like T.m_like T.k_like T.b_like .nil pass0 (pa_cons (pe_call (ok_fullest T) (hr.mono (by first | decide | omega)) g_so_fullest T.m_fullest T.k_fullest T.b_fullest .nil pass0 (pa_cons (kv (i := 2) v_so_law_thing) (pa_cons (kv (i := 3) v_so_law_items_here) pa_nil))) (pa_cons (kv (i := 4) v_so_law_due_here) pa_nil))))))))))))))), ?_⟩
    walk_at "ss"
    have smU := up_same (β := β) hb.nb
    refine ⟨a, u, p, l, rfl, ha.up smU, op, hL.up smU, fun v st t1 H1 smx ht1 hf => ?_⟩
    obtain ⟨G1, nb1, sm1, rfl⟩ := split_up hb.nb smx
    have ht1 := hb.tupD ht1
    have hb1 := hb.up sm1 nb1
    have hu1 := sm1 _ _ hL.1
    walk_at "ss"
    refine k_listL (SqL.of (up_get nb1 hu1)) ?_
    intro gv nt_gv
    rw [upd_swap (up_none nt_gv).2]
    generalize eG_gv : upd _ gv _ = G2
    obtain ⟨nb2, sm2, hgv, nt_gv, nG_gv⟩ := new_facts nb1 nt_gv eG_gv
    clear eG_gv
    have hb2 := hb1.up sm2 nb2
    have sm02 := sm1.trans sm2
    have ht2 := up_get (β := β) nb2 (sm2 _ _ ht1)
    walk_at "ss"
    refine ⟨a, u, p, l, rfl, (ha.up sm02).up (up_same nb2), op, (hL.up sm02).up (up_same nb2), v, st, hf, fun H3 smy => ?_⟩
    obtain ⟨G3, nb3, sm3, rfl⟩ := split_up nb2 smy
    have hb3 := hb2.up sm3 nb3
    have sm03 := sm02.trans sm3
    walk_at "ss"
    refine k_nt rfl ?_
    walk_at "ss"
    refine ⟨F, th, gv, p, l, rfl, (hr1.up sm03).up (up_same nb3), op, ((hL.up sm03).up (up_same nb3)).uses.but (up_get nb3 (sm3 _ _ hgv)), fun v2 st2 t2 H4 smz ht2' hf2 => ?_⟩
    obtain ⟨e1, e2⟩ := full_same hf2 hf
    subst e1 e2
    obtain ⟨G4, nb4, sm4, rfl⟩ := split_up nb3 smz
    have ht2' := hb3.tupD ht2'
    have hb4 := hb3.up sm4 nb4
    have sm04 := sm03.trans sm4
    have sm14 := (sm2.trans sm3).trans sm4
    walk_at "ss"
    refine ⟨_, _, rfl, eqd_pair (up_get nb4 ht2') (up_get nb4 (sm14 _ _ ht1)), fun H5 smz => ?_⟩
    obtain ⟨G5, nb5, sm5, rfl⟩ := split_up nb4 smz
    have hb5 := hb4.up sm5 nb5
    have sm05 := sm04.trans sm5
    walk_at "ss"
    refine k_callKS ?_
    walk_at "ss"
    refine k_tupleL (SqL.of (up_get nb5 (sm05 _ _ hL.1))) ?_
    intro tu nt_tu
    rw [upd_swap (up_none nt_tu).2]
    generalize eG_tu : upd _ tu _ = G6
    obtain ⟨nb6, sm6, htu, nt_tu, nG_tu⟩ := new_facts nb5 nt_tu eG_tu
    clear eG_tu
    have hb6 := hb5.up sm6 nb6
    have sm06 := sm05.trans sm6
    walk_at "ss"
    refine ⟨F, th, tu, p, l, rfl, (hr1.up sm06).up (up_same nb6), op, ((hL.up sm06).up (up_same nb6)).uses.tup (up_get nb6 htu), fun v2 st2 t3 H7 smz ht3 hf2 => ?_⟩
    obtain ⟨e1, e2⟩ := full_same hf2 hf
    subst e1 e2
    obtain ⟨G7, nb7, sm7, rfl⟩ := split_up nb6 smz
    have ht3 := hb6.tupD ht3
    have hb7 := hb6.up sm7 nb7
    have sm07 := sm06.trans sm7
    have sm17 := ((sm14.trans sm5).trans sm6).trans sm7
    walk_at "ss"
    refine ⟨_, _, rfl, eqd_pair (up_get nb7 ht3) (up_get nb7 (sm17 _ _ ht1)), fun H8 smz => ?_⟩
    obtain ⟨G8, nb8, sm8, rfl⟩ := split_up nb7 smz
    have hb8 := hb7.up sm8 nb8
    have sm08 := sm07.trans sm8
    have sm18 := sm17.trans sm8
    have ht8 := up_get (β := β) nb8 (sm18 _ _ ht1)
    walk_at "ss"
    refine ⟨F, G0, G8, b, β, .ref a, th, u, _, _, p, l, rfl, rfl, hb8, hr1.up sm08, op, hL.up sm08, hf, fun G9 β9 sm9 hb9 => ?_⟩
    have sm09 := sm08.trans sm9
    have sm19 := sm18.trans sm9
    have hgv9 : G9 gv = some (.lst (rfU l)) := ((((((sm3.trans sm4).trans sm5).trans sm6).trans sm7).trans sm8).trans sm9) _ _ hgv
    walk_at "ss"
    refine k_bm ?_
    walk_at "ss"
    refine ⟨.inl ⟨rfl, _, SqL.of (up_get hb9.nb hgv9)⟩, ?_⟩
    walk_at "ss"
    refine k_pick (u := u) (t := t1) rfl rfl (up_get hb9.nb (sm09 _ _ hL.1)) (up_get hb9.nb (sm19 _ _ ht1)) hf hL.2.2.2 fun m hm0 hm1 => ?_
    walk_at "ss"
    intro tz nt_tz
    rw [upd_swap (up_none nt_tz).2]
    generalize eG_tz : upd _ tz _ = GA
    obtain ⟨nbA, smA, htz, nt_tz, nG_tz⟩ := new_facts hb9.nb nt_tz eG_tz
    clear eG_tz
    have hbA := hb9.up smA nbA
    have hgvA := smA _ _ hgv9
    walk_at "ss"
    refine k_app (up_get nbA hgvA) (by rw [List.length_map]; omega) ?_
    rw [upd_swap nt_gv]
    have es : rfU l ++ [V.ref tz] = rfU (l ++ [(tz, m, 1)]) := by
      unfold rfU
      rw [List.map_append]
      rfl
    rw [es]
    generalize eG : upd GA gv _ = GB
    have sm1B : Same G1 GB := eG ▸ same_put (sm19.trans smA) nG_gv
    have hgvB : GB gv = some (.lst (rfU (l ++ [(tz, m, 1)]))) := upd_at eG
    have nbB : GB b = none := by rw [← eG, upd_ne (Ne.symm nt_gv)]; exact nbA
    have hbB : Bag K G0 GB b β9 := hbA.up0 (eG ▸ same_put hbA.sm (g_none hb1.sm nG_gv)) nbB
    have htzB : GB tz = some (.tup [.int m, .int 1]) := by rw [← eG, upd_ne (ne_of htz hgvA (by intro q; cases q))]; exact htz
    clear eG
    have sm0B := sm1.trans sm1B
    have hLB := hL.up sm0B
    have hLg : ListAt GB gv (l ++ [(tz, m, 1)]) := by
      refine ⟨hgvB, fun z hz => ?_, by simp; omega, fun z hz => ?_⟩
      · rcases List.mem_append.mp hz with hz | hz
        · exact hLB.2.1 z hz
        · rw [List.mem_singleton.mp hz]; exact htzB
      · unfold usL at hz
        rw [List.map_append] at hz
        rcases List.mem_append.mp hz with hz | hz
        · exact hL.2.2.2 z hz
        · simp only [List.map_cons, List.map_nil, List.mem_singleton] at hz
          subst hz
          exact ⟨Int.le_refl _, hm0, hm1⟩
    walk_at "ss"
    refine ⟨a, gv, p, _, rfl, (ha.up sm0B).up (up_same nbB), op, hLg.up (up_same nbB), fun v4 st4 t4 HC smz ht4 hf4 => ?_⟩
    obtain ⟨GC, nbC, smC, rfl⟩ := split_up nbB smz
    have ht4 := hbB.tupD ht4
    have hbC := hbB.up smC nbC
    walk_at "ss"
    refine k_slL (SqL.of (up_get nbC (smC _ _ hgvB))) ?_
    rw [rows_cut]
    intro ts nt_ts
    rw [upd_swap (up_none nt_ts).2]
    generalize eG_ts : upd _ ts _ = GD
    obtain ⟨nbD, smD, hts, nt_ts, nG_ts⟩ := new_facts nbC nt_ts eG_ts
    clear eG_ts
    have hbD := hbC.up smD nbD
    have sm0D := (sm0B.trans smC).trans smD
    have hLD := hL.up sm0D
    have hLgD := hLg.up (smC.trans smD)
    walk_at "ss"
    refine ⟨_, _, rfl, eqd_rows (up_get nbD hts) (up_get nbD hLD.1) (hLD.2.1.up (up_same nbD)) hLD.2.2.1, fun HE smz => ?_⟩
    obtain ⟨GE, nbE, smE, rfl⟩ := split_up nbD smz
    have hbE := hbD.up smE nbE
    have sm0E := sm0D.trans smE
    walk_at "ss"
    refine ⟨F, th, gv, p, _, rfl, (hr1.up sm0E).up (up_same nbE), op, ((hLgD.up smE).up (up_same nbE)).uses, fun v5 st5 t5 HF smz ht5 hf5 => ?_⟩
    obtain ⟨e1, e2⟩ := full_same hf5 hf4
    subst e1 e2
    obtain ⟨GF, nbF, smF, rfl⟩ := split_up nbE smz
    have ht5 := hbE.tupD ht5
    have hbF := hbE.up smF nbF
    have sm0F := sm0E.trans smF
    walk_at "ss"
    refine ⟨_, _, rfl, eqd_pair (up_get nbF ht5) (up_get nbF (((smD.trans smE).trans smF) _ _ ht4)), fun HG smz => ?_⟩
    obtain ⟨GG, nbG, smG, rfl⟩ := split_up nbF smz
    have hbG := hbF.up smG nbG
    have sm0G := sm0F.trans smG
    walk_at "ss"
    refine ⟨F, th, u, p, _, rfl, (hr1.up sm0G).up (up_same nbG), op, ((hL.up sm0G).up (up_same nbG)).uses, fun v6 st6 t6 HH smz ht6 hf6 => ?_⟩
    obtain ⟨e1, e2⟩ := full_same hf6 hf
    subst e1 e2
    obtain ⟨GH, nbH, smH, rfl⟩ := split_up nbG smz
    have ht6 := hbG.tupD ht6
    have hbH := hbG.up smH nbH
    walk_at "ss"
    refine ⟨_, _, rfl, eqd_pair (up_get nbH ht6) (up_get nbH ((sm1B.trans ((((smC.trans smD).trans smE).trans smF).trans (smG.trans smH))) _ _ ht1)), fun HI smz => ?_⟩
    obtain ⟨GI, nbI, smI, rfl⟩ := split_up nbH smz
    exact k GI β9 ((sm0G.trans smH).trans smI) (hbH.up smI nbI)
end

section
variable {w : World} {K : PySem.W.Frag} {mg : Str → Option Value} {base : Heap}
theorem RestAt.down {T : Tx K mg} {F : Addr → Prop} {G : Hp} {b l : Addr} {i r s c : Int} : ∀ {a : Addr} {p : Plan}, RestAt T F (upd G b (bagL l i r s c)) a p → RestAt T F G a p := by
  intro a p h
  have key : ∀ {z : Addr} {o : HO}, upd G b (bagL l i r s c) z = some o → o ≠ bagL l i r s c → G z = some o := fun {z o} hz hn => by
    by_cases e : z = b
    · subst e
      rw [upd_same] at hz
      exact absurd (Option.some.inj hz).symm hn
    · rw [upd_ne e] at hz
      exact hz
  induction h with
  | win h ht => exact .win (key h (by intro q; cases q)) ht
  | days h hl ht hF =>
    rename_i bs p
    exact .days (key h (by intro q; cases q)) (key hl (by intro q; cases bs with
      | nil => cases q
      | cons x y => cases q)) ht hF
  | op h h1 h2 ht i1 i2 => exact .op (key h (by intro q; cases q)) i1 i2 ht
theorem Bag.rest {T : Tx K mg} {F : Addr → Prop} {G0 G G' : Hp} {b : Addr} {β : HO} (hb : Bag K G0 G b β) {a : Addr} {p : Plan} (h : RestAt T F (upd G' b β) a p) : RestAt T F G' a p := by
  obtain ⟨l, ns, i, r, s, c, rfl, _⟩ := hb.ex
  exact h.down
structure Two (T : Tx K mg) (F : Addr → Prop) (G : Hp) (PL TH a0 a1 r0 r1 : Addr) (p0 p1 : Plan) : Prop where
  pl : G PL = some (.lst [.ref a0, .ref a1])
  th : G TH = some (.lst [.ref r0, .ref r1])
  a0 : PlanAt G a0 p0
  a1 : PlanAt G a1 p1
  r0 : RestAt T F G r0 p0
  r1 : RestAt T F G r1 p1
  o0 : p0.Ok
  o1 : p1.Ok
theorem Two.up {T : Tx K mg} {F : Addr → Prop} {G G' : Hp} {PL TH a0 a1 r0 r1 : Addr} {p0 p1 : Plan} (h : Two T F G PL TH a0 a1 r0 r1 p0 p1) (e : Same G G') : Two T F G' PL TH a0 a1 r0 r1 p0 p1 :=
  ⟨e _ _ h.pl, e _ _ h.th, h.a0.up e, h.a1.up e, h.r0.up e, h.r1.up e, h.o0, h.o1⟩
theorem Two.pick {T : Tx K mg} {F : Addr → Prop} {G : Hp} {PL TH a0 a1 r0 r1 : Addr} {p0 p1 : Plan} (h : Two T F G PL TH a0 a1 r0 r1 p0 p1) {d : Int} (d0 : 0 ≤ d) (d1 : d < 2) :
    ∃ aa rr p, atI [V.ref a0, V.ref a1] d = some (.ref aa) ∧ atI [V.ref r0, V.ref r1] d = some (.ref rr) ∧ PlanAt G aa p ∧ RestAt T F G rr p ∧ p.Ok := by
  have : d = 0 ∨ d = 1 := by omega
  rcases this with rfl | rfl
  · exact ⟨a0, r0, p0, rfl, rfl, h.a0, h.r0, h.o0⟩
  · exact ⟨a1, r1, p1, rfl, rfl, h.a1, h.r1, h.o1⟩
def spLaw (K : PySem.W.Frag) : Sp := fun vs H Q _ => ∃ (a : Addr) (ns : List Int), vs = [.ref a] ∧ SqL K H a (ns.map V.int) ∧ ns.length ≤ 63 ∧ ∀ H', Q (.bl true) H'
theorem ok_law (T : Tx K mg) : FnOk P w K mg base CX0 20 T.a_law T.fd_law P_law (spLaw K) := by
  refine T.F_law.ok sc_law (fun vs H Q E h => ?_) (fun cdv A outer s H vs Q E hr h => ?_)
  · obtain ⟨a, ns, rfl, _⟩ := h
    rfl
  · obtain ⟨a, ns, rfl, hl, hn, k⟩ := h
    have nd := sc_law.nd
    refine ⟨_, (pss_cons (ks_setL (i := 1) nd l_law_law_bag_here (pe_call (ok_bag T) (hr.mono (by first | decide | omega)) g_law_law_bag T.m_bag T.k_bag T.b_bag .nil pass0 (pa_cons (kv (i := 0) v_law_law_script) pa_nil)))
      (pss_cons (ks_setL (i := 2) nd l_law_law_wide (pe_call (ok_of T) (hr.mono (by first | decide | omega)) g_law_law_of T.m_of T.k_of T.b_of .nil pass0 (pa_cons (kv (i := 1) v_law_law_bag_here) (pa_cons (pe_lst (pa_cons pe_int (pa_cons pe_int (pa_cons pe_int (pa_cons pe_int (pa_cons pe_int (pa_cons pe_int pa_nil))))))) pa_nil))))
      (pss_cons (ks_setL (i := 3) nd l_law_law_plans (pe_lst (pa_cons (pe_call (ok_plan T) (hr.mono (by first | decide | omega)) g_law_law_plan T.m_plan T.k_plan T.b_plan .nil pass0 (pa_cons (kv (i := 1) v_law_law_bag_here) (pa_cons (kv (i := 2) v_law_law_wide) (pa_cons (pe_lst (pa_cons pe_int (pa_cons pe_int pa_nil))) pa_nil)))) (pa_cons (pe_call (ok_plan T) (hr.mono (by first | decide | omega)) g_law_law_plan T.m_plan T.k_plan T.b_plan .nil pass0 (pa_cons (kv (i := 1) v_law_law_bag_here) (pa_cons (pe_call (ok_of T) (hr.mono (by first | decide | omega)) g_law_law_of T.m_of T.k_of T.b_of .nil pass0 (pa_cons (kv (i := 1) v_law_law_bag_here) (pa_cons (pe_lst (pa_cons pe_int (pa_cons pe_int (pa_cons (kv (i := 2) v_law_law_wide) pa_nil)))) pa_nil))) (pa_cons (pe_lst (pa_cons pe_int (pa_cons pe_int pa_nil))) pa_nil)))) pa_nil))))
      (pss_cons (ps_setLc (i := 4) (own := [("_law_plan_here", 7)]) rfl nd rfl (locB_ok l_law_law_things) (sw_true rfl (locB_ok l_law_law_things) rfl (by decide +kernel)) (kpi_list K (kv (i := 3) v_law_law_plans)) ok_cs_law_1 (fun _ _ _ _ _ => (kgL (i := 7) nd l_law_1_law_plan_here)) (fun _ _ _ _ _ => pts_nil) (fun _ _ _ _ _ => (pe_call (ok_made T) (hr.mono (by first | decide | omega)) g_law_1_law_made T.m_made T.k_made T.b_made .nil pass0 (pa_cons (kv (i := 7) v_law_1_law_plan_here) pa_nil))))
      (pss_cons (ps_for PassesOwn.never rfl (kpi_tup K (pe_tup (pa_cons pe_int (pa_cons pe_int (pa_cons pe_int pa_nil))))) (kgL (i := 5) nd l_law_law_j) (pss_cons (ks_setL (i := 6) nd l_law_law_items_here (pe_call (ok_items T) (hr.mono (by first | decide | omega)) g_law_law_items T.m_items T.k_items T.b_items .nil pass0 (pa_cons (kv (i := 1) v_law_law_bag_here) (pa_cons (pe_ix (kix K) (kv (i := 3) v_law_law_plans) (kv (i := 5) v_law_law_j) (fun _ _ => rfl)) pa_nil))))
      (pss_one (ps_if (pt_not (pt_val (pe_call (ok_so T) (hr.mono (by first | decide | omega)) g_law_law_so T.m_so T.k_so T.b_so .nil pass0 (pa_cons (kv (i := 1) v_law_law_bag_here) (pa_cons (pe_ix (kix K) (kv (i := 3) v_law_law_plans) (kv (i := 5) v_law_law_j) (fun _ _ => rfl)) (pa_cons (pe_ix (kix K) (kv (i := 4) v_law_law_things) (kv (i := 5) v_law_law_j) (fun _ _ => rfl)) (pa_cons (kv (i := 6) v_law_law_items_here) pa_nil))))))) (pss_one (ps_ret pe_bl)) pss_nil))))
      (pss_one (ps_ret pe_bl))))))), ?_⟩
    walk_at "ss"
    refine ⟨a, ns, rfl, hl, fun b G0 β sm hb => ?_⟩
    walk_at "ss"
    intro t1 nt_t1
    rw [upd_swap (up_none nt_t1).2]
    generalize eG_t1 : upd _ t1 _ = G1
    obtain ⟨nb1, sm1, ht1, nt_t1, nG_t1⟩ := new_facts hb.nb nt_t1 eG_t1
    clear eG_t1
    have hb1 := hb.up sm1 nb1
    walk_at "ss"
    refine k_of hb1 (SqL.of ht1) (by simp) (by simp) fun v β2 hv hb2 => ?_
    obtain ⟨wd, rfl, hw0, hw1⟩ : ∃ n : Int, v = V.int n ∧ 1 ≤ n ∧ n ≤ 30 := by
      simp only [List.mem_cons, List.not_mem_nil, or_false] at hv
      rcases hv with rfl | rfl | rfl | rfl | rfl | rfl <;> exact ⟨_, rfl, by decide, by decide⟩
    walk_at "ss"
    intro B1 nt_B1
    rw [upd_swap (up_none nt_B1).2]
    generalize eG_B1 : upd _ B1 _ = G2
    obtain ⟨nb2, sm2, hB1, nt_B1, nG_B1⟩ := new_facts nb1 nt_B1 eG_B1
    clear eG_B1
    have hb2 := hb2.up sm2 nb2
    walk_at "ss"
    refine ⟨G0, G2, b, β2, wd, B1, 1, 2000, rfl, rfl, hb2, g_none hb1.sm nG_B1, hB1, hw0, by omega, by omega, by omega, by omega, fun a1 p1 G3 β3 x3 sb3 hB3 hx0 hx1 hb3 ha1 op1 fp1 => ?_⟩
    walk_at "ss"
    intro t4 nt_t4
    rw [upd_swap (up_none nt_t4).2]
    generalize eG_t4 : upd _ t4 _ = G4
    obtain ⟨nb4, sm4, ht4, nt_t4, nG_t4⟩ := new_facts hb3.nb nt_t4 eG_t4
    clear eG_t4
    have hb4 := hb3.up sm4 nb4
    have ha1 := ha1.up sm4
    walk_at "ss"
    refine k_of hb4 (SqL.of ht4) (by simp) (by simp) fun v β5 hv hb5 => ?_
    obtain ⟨wd2, rfl, hv0, hv1⟩ : ∃ n : Int, v = V.int n ∧ 1 ≤ n ∧ n ≤ 30 := by
      simp only [List.mem_cons, List.not_mem_nil, or_false] at hv
      rcases hv with rfl | rfl | rfl
      · exact ⟨_, rfl, by decide, by decide⟩
      · exact ⟨_, rfl, by decide, by decide⟩
      · exact ⟨_, rfl, hw0, hw1⟩
    walk_at "ss"
    intro B2 nt_B2
    rw [upd_swap (up_none nt_B2).2]
    generalize eG_B2 : upd _ B2 _ = G5
    obtain ⟨nb5, sm5, hB2, nt_B2, nG_B2⟩ := new_facts nb4 nt_B2 eG_B2
    clear eG_B2
    have hb5 := hb5.up sm5 nb5
    have ha1 := ha1.up sm5
    walk_at "ss"
    refine ⟨G0, G5, b, β5, wd2, B2, 1, 2000, rfl, rfl, hb5, g_none hb4.sm nG_B2, hB2, hv0, by omega, by omega, by omega, by omega, fun a2 p2 G6 β6 x6 sb6 hB6 hy0 hy1 hb6 ha2 op2 fp2 => ?_⟩
    have ha1 := ha1.upB hB2 sb6
    walk_at "ss"
    intro P1 nt_P1
    rw [upd_swap (up_none nt_P1).2]
    generalize eG_P1 : upd _ P1 _ = G7
    obtain ⟨nb7, sm7, hP1, nt_P1, nG_P1⟩ := new_facts hb6.nb nt_P1 eG_P1
    clear eG_P1
    have hb7 := hb6.up sm7 nb7
    have ha1 := ha1.up sm7
    have ha2 := ha2.up sm7
    walk_at "ss"
    refine k_iL (SqL.of (up_get nb7 hP1)) ?_
    intro D nD
    obtain ⟨nD1, nDb⟩ := up_none nD
    let ls : List (Addr × Plan) := [(a1, p1), (a2, p2)]
    have hls : ∀ z ∈ ls, PlanAt G7 z.1 z.2 ∧ z.2.Ok := by
      intro z hz
      simp only [ls, List.mem_cons, List.not_mem_nil, or_false] at hz
      rcases hz with rfl | rfl
      · exact ⟨ha1, op1⟩
      · exact ⟨ha2, op2⟩
    refine k_lcList (rf ls) (fun i H' => ∃ (rs : List Addr) (G' : Hp), H' = upd G' b β6 ∧ G' b = none ∧ Same G7 G' ∧ G' D = some (.lst (rs.map V.ref)) ∧ rs.length = i ∧ ∀ (j : Nat) (r : Addr) (z : Addr × Plan), rs[j]? = some r → ls[j]? = some z → RestAt T (fun x => x = D) G' r z.2) ⟨[], _, upd_swap nDb, by rw [upd_ne (Ne.symm nDb)]; exact hb7.nb, same_new nD1, upd_same, rfl, fun j r z h => by simp at h⟩ ?_ ?_ ?_
    · rintro i H' _ ⟨rs, G', rfl, nb', sm, _⟩
      exact SqL.of (up_get nb' (sm _ _ hP1))
    · rintro i x H' hx ⟨rs, G', rfl, nb', sm, hD, hlen, hall⟩
      obtain ⟨z, hz, rfl⟩ : ∃ z, ls[i]? = some z ∧ x = V.ref z.1 := by
        rw [List.getElem?_map] at hx
        cases h : ls[i]? with
        | none => rw [h] at hx; cases hx
        | some z => rw [h] at hx; exact ⟨z, rfl, (Option.some.inj hx).symm⟩
      obtain ⟨hz1, hz2⟩ := hls z (List.mem_of_getElem? hz)
      refine k_gName ?_
      refine ⟨rfl, ?_⟩
      walk_at "ss"
      refine ⟨fun x => x = D, z.1, z.2, (fun x hx => by rw [show x = D from hx, up_get nb' hD]; intro q; cases q), rfl, (hz1.up sm).up (up_same nb'), hz2, forms_le hz2, fun r H' smx hr => ?_⟩
      obtain ⟨G2, nb2, sm2, rfl⟩ := split_up nb' smx
      have hr2 := hb7.rest hr
      have hD2 := sm2 _ _ hD
      have hi : i < 2 := (List.getElem?_eq_some_iff.mp hz).1
      let F : Addr → Prop := fun x => x = D
      have hrest : ∀ {a : Addr} {p : Plan}, RestAt T F G2 a p → RestAt T F (upd G2 D (.lst ((rs ++ [r]).map V.ref))) a p := by
        intro a p h
        induction h with
        | win h ht => exact .win (by rw [upd_ne (ne_of h hD2 (by intro q; cases q))]; exact h) ht
        | days h hl ht hF => exact .days (by rw [upd_ne (ne_of h hD2 (by intro q; cases q))]; exact h) (by rw [upd_ne hF]; exact hl) ht hF
        | op h h1 h2 ht i1 i2 => exact .op (by rw [upd_ne (ne_of h hD2 (by intro q; cases q))]; exact h) i1 i2 ht
      refine ⟨_, up_get nb2 hD2, small_lt (by rw [List.length_map]; omega), rs ++ [r], upd G2 D (.lst ((rs ++ [r]).map V.ref)), ?_, by rw [upd_ne (Ne.symm nDb)]; exact nb2, same_put (sm.trans sm2) nD1, upd_same, by simp [hlen], ?_⟩
      · rw [upd_swap nDb]
        simp
      · intro j r' z' hj hz'
        by_cases e : j < rs.length
        · rw [List.getElem?_append_left e] at hj
          exact hrest ((hall j r' z' hj hz').up sm2)
        · rw [List.getElem?_append_right (by omega)] at hj
          have e2 : j - rs.length = 0 := by
            have := (List.getElem?_eq_some_iff.mp hj).1
            simp at this
            omega
          have e3 : j = i := by omega
          subst e3
          rw [e2] at hj
          obtain rfl : r = r' := by simpa using hj
          obtain rfl : z = z' := Option.some.inj (hz.symm.trans hz')
          exact hrest hr2
    · rintro H' ⟨rs, G', rfl, nb', sm, hD, hlen, hall⟩
      obtain ⟨r0, r1, rfl⟩ : ∃ r0 r1, rs = [r0, r1] := by
        match rs, hlen with
        | [x, y], _ => exact ⟨x, y, rfl⟩
      have hr0 := hall 0 r0 (a1, p1) rfl rfl
      have hr1 := hall 1 r1 (a2, p2) rfl rfl
      have ha2 := ha2.up sm
      have ha1 := ha1.up sm
      have hP1 := sm _ _ hP1
      have hb10 := hb7.up sm nb'
      clear hall
      walk_at "ss"
      have tw : Two T (fun x => x = D) G' P1 D a1 a2 r0 r1 p1 p2 := ⟨hP1, hD, ha1, ha2, hr0, hr1, op1, op2⟩
      intro tj nt_tj
      rw [upd_swap (up_none nt_tj).2]
      generalize eG_tj : upd _ tj _ = Ga
      obtain ⟨nba, sma, htj, nt_tj, nG_tj⟩ := new_facts nb' nt_tj eG_tj
      clear eG_tj
      have hba := hb10.up sma nba
      refine k_iT (SqT.of (up_get nba htj)) ?_
      refine k_forTup [.int 0, .int 1, .int 0] (fun i σ H' => ∃ (G' : Hp) (β' : HO) (v5 v6 : Option V), σ = [some (.ref a), some (.ref b), some (.int wd), some (.ref P1), some (.ref D), v5, v6, none] ∧ H' = upd G' b β' ∧ Bag K G0 G' b β' ∧ Same Ga G') ⟨Ga, β6, none, none, rfl, rfl, hba, Same.refl _⟩ ?_ ?_ ?_
      · rintro i σ H' _ ⟨Gb, β', v5, v6, rfl, rfl, hbb, smb⟩
        exact SqT.of (up_get hbb.nb (smb _ _ htj))
      · rintro i x σ H' hx ⟨Gb, βb, v5, v6, rfl, rfl, hbb, smb⟩
        obtain ⟨d, rfl, d0, d1⟩ : ∃ d : Int, x = V.int d ∧ 0 ≤ d ∧ d < 2 := by
          have hm := List.mem_of_getElem? hx
          simp only [List.mem_cons, List.not_mem_nil, or_false] at hm
          rcases hm with rfl | rfl | rfl <;> exact ⟨_, rfl, by decide, by decide⟩
        have twb := tw.up (sma.trans smb)
        obtain ⟨aa, rr, p, e1, e2, haa, hrr, opp⟩ := twb.pick d0 d1
        have hu1 := up_get (β := βb) hbb.nb twb.pl
        have hu2 := up_get (β := βb) hbb.nb twb.th
        walk_at "ss"
        refine ⟨G0, Gb, b, βb, aa, p, rfl, rfl, hbb, haa, opp, fun L l Gc βc smc hbc hL hPl hlen hz => ?_⟩
        have twc := twb.up smc
        have hu1 := up_get (β := βc) hbc.nb twc.pl
        have hu2 := up_get (β := βc) hbc.nb twc.th
        walk_at "ss"
        refine ⟨fun x => x = D, G0, Gc, b, βc, aa, rr, L, p, l, rfl, rfl, hbc, haa.up smc, hrr.up smc, opp, ⟨hL, hPl, by omega, hz⟩, hlen, fun Gd βd smd hbd => ?_⟩
        walk_at "ss"
        exact ⟨Gd, βd, _, _, rfl, rfl, hbd, (smb.trans smc).trans smd⟩
      · rintro σ H' ⟨Gb, βb, v5, v6, rfl, rfl, hbb, smb⟩
        walk_at "ss"
        exact k _
end

def tx_mk {K : PySem.W.Frag} {h : Heap} {mg : Str → Option Value} (X : K.In h) (G : h.Ns mainGlobals mg) {C_Rest : Addr} {C_Window : Addr} {C_Days : Addr} {C_Later : Addr} {C_Sooner : Addr} {C_Next : Addr} {C_Rule : Addr} {A_is_number : Addr} {oc_is_number kV_is_number doc_is_number pm_is_number ct_is_number : Value} {od_is_number an_is_number : Option Addr} {sl_is_number : Array (Option Value)} {cdv_is_number : Value} {A_is_name : Addr} {oc_is_name kV_is_name doc_is_name pm_is_name ct_is_name : Value} {od_is_name an_is_name : Option Addr} {sl_is_name : Array (Option Value)} {cdv_is_name : Value} {A_Rest_init : Addr} {oc_Rest_init kV_Rest_init doc_Rest_init pm_Rest_init ct_Rest_init : Value} {od_Rest_init an_Rest_init : Option Addr} {sl_Rest_init : Array (Option Value)} {cdv_Rest_init : Value} {A_Rest_call : Addr} {oc_Rest_call kV_Rest_call doc_Rest_call pm_Rest_call ct_Rest_call : Value} {od_Rest_call an_Rest_call : Option Addr} {sl_Rest_call : Array (Option Value)} {cdv_Rest_call : Value} {A_Rest_forms : Addr} {oc_Rest_forms kV_Rest_forms doc_Rest_forms pm_Rest_forms ct_Rest_forms : Value} {od_Rest_forms an_Rest_forms : Option Addr} {sl_Rest_forms : Array (Option Value)} {cdv_Rest_forms : Value} {A_Rest_period : Addr} {oc_Rest_period kV_Rest_period doc_Rest_period pm_Rest_period ct_Rest_period : Value} {od_Rest_period an_Rest_period : Option Addr} {sl_Rest_period : Array (Option Value)} {cdv_Rest_period : Value} {A_Rest_bend : Addr} {oc_Rest_bend kV_Rest_bend doc_Rest_bend pm_Rest_bend ct_Rest_bend : Value} {od_Rest_bend an_Rest_bend : Option Addr} {sl_Rest_bend : Array (Option Value)} {cdv_Rest_bend : Value} {A_Rest_written : Addr} {oc_Rest_written kV_Rest_written doc_Rest_written pm_Rest_written ct_Rest_written : Value} {od_Rest_written an_Rest_written : Option Addr} {sl_Rest_written : Array (Option Value)} {cdv_Rest_written : Value} {A_Window_init : Addr} {oc_Window_init kV_Window_init doc_Window_init pm_Window_init ct_Window_init : Value} {od_Window_init an_Window_init : Option Addr} {sl_Window_init : Array (Option Value)} {cc_Window_init cda_Window_init : Addr} {cl_Window_init ccl_Window_init : Value} {cld_Window_init cdd_Window_init : Option Addr} {csl_Window_init ccs_Window_init : Array (Option Value)} {vs_Window_init : Array Value} {file_Window_init : Str} {tf_Window_init : Tok} {cd_Window_init : PySem.ClassData} {A_Window_after : Addr} {oc_Window_after kV_Window_after doc_Window_after pm_Window_after ct_Window_after : Value} {od_Window_after an_Window_after : Option Addr} {sl_Window_after : Array (Option Value)} {cdv_Window_after : Value} {A_Days_init : Addr} {oc_Days_init kV_Days_init doc_Days_init pm_Days_init ct_Days_init : Value} {od_Days_init an_Days_init : Option Addr} {sl_Days_init : Array (Option Value)} {cc_Days_init cda_Days_init : Addr} {cl_Days_init ccl_Days_init : Value} {cld_Days_init cdd_Days_init : Option Addr} {csl_Days_init ccs_Days_init : Array (Option Value)} {vs_Days_init : Array Value} {file_Days_init : Str} {tf_Days_init : Tok} {cd_Days_init : PySem.ClassData} {A_Days_after : Addr} {oc_Days_after kV_Days_after doc_Days_after pm_Days_after ct_Days_after : Value} {od_Days_after an_Days_after : Option Addr} {sl_Days_after : Array (Option Value)} {cdv_Days_after : Value} {A_joined : Addr} {oc_joined kV_joined doc_joined pm_joined ct_joined : Value} {od_joined an_joined : Option Addr} {sl_joined : Array (Option Value)} {cdv_joined : Value} {A_Later_init : Addr} {oc_Later_init kV_Later_init doc_Later_init pm_Later_init ct_Later_init : Value} {od_Later_init an_Later_init : Option Addr} {sl_Later_init : Array (Option Value)} {cc_Later_init cda_Later_init : Addr} {cl_Later_init ccl_Later_init : Value} {cld_Later_init cdd_Later_init : Option Addr} {csl_Later_init ccs_Later_init : Array (Option Value)} {vs_Later_init : Array Value} {file_Later_init : Str} {tf_Later_init : Tok} {cd_Later_init : PySem.ClassData} {A_Later_after : Addr} {oc_Later_after kV_Later_after doc_Later_after pm_Later_after ct_Later_after : Value} {od_Later_after an_Later_after : Option Addr} {sl_Later_after : Array (Option Value)} {cdv_Later_after : Value} {A_Sooner_init : Addr} {oc_Sooner_init kV_Sooner_init doc_Sooner_init pm_Sooner_init ct_Sooner_init : Value} {od_Sooner_init an_Sooner_init : Option Addr} {sl_Sooner_init : Array (Option Value)} {cc_Sooner_init cda_Sooner_init : Addr} {cl_Sooner_init ccl_Sooner_init : Value} {cld_Sooner_init cdd_Sooner_init : Option Addr} {csl_Sooner_init ccs_Sooner_init : Array (Option Value)} {vs_Sooner_init : Array Value} {file_Sooner_init : Str} {tf_Sooner_init : Tok} {cd_Sooner_init : PySem.ClassData} {A_Sooner_after : Addr} {oc_Sooner_after kV_Sooner_after doc_Sooner_after pm_Sooner_after ct_Sooner_after : Value} {od_Sooner_after an_Sooner_after : Option Addr} {sl_Sooner_after : Array (Option Value)} {cdv_Sooner_after : Value} {A_Next_init : Addr} {oc_Next_init kV_Next_init doc_Next_init pm_Next_init ct_Next_init : Value} {od_Next_init an_Next_init : Option Addr} {sl_Next_init : Array (Option Value)} {cc_Next_init cda_Next_init : Addr} {cl_Next_init ccl_Next_init : Value} {cld_Next_init cdd_Next_init : Option Addr} {csl_Next_init ccs_Next_init : Array (Option Value)} {vs_Next_init : Array Value} {file_Next_init : Str} {tf_Next_init : Tok} {cd_Next_init : PySem.ClassData} {A_Next_after : Addr} {oc_Next_after kV_Next_after doc_Next_after pm_Next_after ct_Next_after : Value} {od_Next_after an_Next_after : Option Addr} {sl_Next_after : Array (Option Value)} {cdv_Next_after : Value} {A_Rule_init : Addr} {oc_Rule_init kV_Rule_init doc_Rule_init pm_Rule_init ct_Rule_init : Value} {od_Rule_init an_Rule_init : Option Addr} {sl_Rule_init : Array (Option Value)} {cdv_Rule_init : Value} {A_fullest : Addr} {oc_fullest kV_fullest doc_fullest pm_fullest ct_fullest : Value} {od_fullest an_fullest : Option Addr} {sl_fullest : Array (Option Value)} {cdv_fullest : Value} {A_is_within : Addr} {oc_is_within kV_is_within doc_is_within pm_is_within ct_is_within : Value} {od_is_within an_is_within : Option Addr} {sl_is_within : Array (Option Value)} {cdv_is_within : Value} {A_bag : Addr} {oc_bag kV_bag doc_bag pm_bag ct_bag : Value} {od_bag an_bag : Option Addr} {sl_bag : Array (Option Value)} {cdv_bag : Value} {A_draw : Addr} {oc_draw kV_draw doc_draw pm_draw ct_draw : Value} {od_draw an_draw : Option Addr} {sl_draw : Array (Option Value)} {cdv_draw : Value} {A_of : Addr} {oc_of kV_of doc_of pm_of ct_of : Value} {od_of an_of : Option Addr} {sl_of : Array (Option Value)} {cdv_of : Value} {A_like : Addr} {oc_like kV_like doc_like pm_like ct_like : Value} {od_like an_like : Option Addr} {sl_like : Array (Option Value)} {cdv_like : Value} {A_llcm : Addr} {oc_llcm kV_llcm doc_llcm pm_llcm ct_llcm : Value} {od_llcm an_llcm : Option Addr} {sl_llcm : Array (Option Value)} {cdv_llcm : Value} {A_leaf : Addr} {oc_leaf kV_leaf doc_leaf pm_leaf ct_leaf : Value} {od_leaf an_leaf : Option Addr} {sl_leaf : Array (Option Value)} {cdv_leaf : Value} {A_ljoined : Addr} {oc_ljoined kV_ljoined doc_ljoined pm_ljoined ct_ljoined : Value} {od_ljoined an_ljoined : Option Addr} {sl_ljoined : Array (Option Value)} {cdv_ljoined : Value} {A_plan : Addr} {oc_plan kV_plan doc_plan pm_plan ct_plan : Value} {od_plan an_plan : Option Addr} {sl_plan : Array (Option Value)} {cdv_plan : Value} {A_at : Addr} {oc_at kV_at doc_at pm_at ct_at : Value} {od_at an_at : Option Addr} {sl_at : Array (Option Value)} {cdv_at : Value} {A_made : Addr} {oc_made kV_made doc_made pm_made ct_made : Value} {od_made an_made : Option Addr} {sl_made : Array (Option Value)} {cdv_made : Value} {A_items : Addr} {oc_items kV_items doc_items pm_items ct_items : Value} {od_items an_items : Option Addr} {sl_items : Array (Option Value)} {cdv_items : Value} {A_sum : Addr} {oc_sum kV_sum doc_sum pm_sum ct_sum : Value} {od_sum an_sum : Option Addr} {sl_sum : Array (Option Value)} {cdv_sum : Value} {A_due : Addr} {oc_due kV_due doc_due pm_due ct_due : Value} {od_due an_due : Option Addr} {sl_due : Array (Option Value)} {cdv_due : Value} {A_greatest : Addr} {oc_greatest kV_greatest doc_greatest pm_greatest ct_greatest : Value} {od_greatest an_greatest : Option Addr} {sl_greatest : Array (Option Value)} {cdv_greatest : Value} {A_within_so : Addr} {oc_within_so kV_within_so doc_within_so pm_within_so ct_within_so : Value} {od_within_so an_within_so : Option Addr} {sl_within_so : Array (Option Value)} {cdv_within_so : Value} {A_so : Addr} {oc_so kV_so doc_so pm_so ct_so : Value} {od_so an_so : Option Addr} {sl_so : Array (Option Value)} {cdv_so : Value} {A_law : Addr} {oc_law kV_law doc_law pm_law ct_law : Value} {od_law an_law : Option Addr} {sl_law : Array (Option Value)} {cdv_law : Value} {t_PERIOD : Tok} {t_FORMS : Tok} {t_BORDERS : Tok} {t_LETTERS : Tok} {t_DIGITS : Tok}
    (aC_Rest : PySem.W.nsIn K mainGlobals "Rest" = some (some (.ref C_Rest))) (aC_Window : PySem.W.nsIn K mainGlobals "Window" = some (some (.ref C_Window))) (aC_Days : PySem.W.nsIn K mainGlobals "Days" = some (some (.ref C_Days))) (aC_Later : PySem.W.nsIn K mainGlobals "Later" = some (some (.ref C_Later))) (aC_Sooner : PySem.W.nsIn K mainGlobals "Sooner" = some (some (.ref C_Sooner))) (aC_Next : PySem.W.nsIn K mainGlobals "Next" = some (some (.ref C_Next))) (aC_Rule : PySem.W.nsIn K mainGlobals "Rule" = some (some (.ref C_Rule))) (a_is_number : PySem.W.nsIn K mainGlobals "is_number" = some (some (.ref A_is_number))) (l_is_number : K.lookup A_is_number = some ⟨oc_is_number, od_is_number, .func (PySem.W.fnOf "is_number" "is_number" (defArgs s_is_number) (defBody s_is_number) (defScope s_is_number) .none kV_is_number doc_is_number pm_is_number an_is_number cdv_is_number ct_is_number), sl_is_number⟩) (c_is_number : PySem.W.codeIn K cdv_is_number "is_number" = true) (k_is_number : PySem.W.keepIn K (.ref A_is_number) = true) (a_is_name : PySem.W.nsIn K mainGlobals "is_name" = some (some (.ref A_is_name))) (l_is_name : K.lookup A_is_name = some ⟨oc_is_name, od_is_name, .func (PySem.W.fnOf "is_name" "is_name" (defArgs s_is_name) (defBody s_is_name) (defScope s_is_name) .none kV_is_name doc_is_name pm_is_name an_is_name cdv_is_name ct_is_name), sl_is_name⟩) (c_is_name : PySem.W.codeIn K cdv_is_name "is_name" = true) (k_is_name : PySem.W.keepIn K (.ref A_is_name) = true) (a_Rest_init : PySem.W.findIn K (.ref C_Rest) "__init__" = some (some (.ref A_Rest_init))) (i_Rest_init : PySem.W.isFn K (.ref A_Rest_init) = true) (l_Rest_init : K.lookup A_Rest_init = some ⟨oc_Rest_init, od_Rest_init, .func (PySem.W.fnOf "__init__" "Rest.__init__" (defArgs s_Rest_init) (defBody s_Rest_init) (defScope s_Rest_init) .none kV_Rest_init doc_Rest_init pm_Rest_init an_Rest_init cdv_Rest_init ct_Rest_init), sl_Rest_init⟩) (c_Rest_init : PySem.W.codeIn K cdv_Rest_init "Rest.__init__" = true) (k_Rest_init : PySem.W.keepIn K (.ref A_Rest_init) = true) (a_Rest_call : PySem.W.findIn K (.ref C_Rest) "__call__" = some (some (.ref A_Rest_call))) (i_Rest_call : PySem.W.isFn K (.ref A_Rest_call) = true) (l_Rest_call : K.lookup A_Rest_call = some ⟨oc_Rest_call, od_Rest_call, .func (PySem.W.fnOf "__call__" "Rest.__call__" (defArgs s_Rest_call) (defBody s_Rest_call) (defScope s_Rest_call) .none kV_Rest_call doc_Rest_call pm_Rest_call an_Rest_call cdv_Rest_call ct_Rest_call), sl_Rest_call⟩) (c_Rest_call : PySem.W.codeIn K cdv_Rest_call "Rest.__call__" = true) (k_Rest_call : PySem.W.keepIn K (.ref A_Rest_call) = true) (a_Rest_forms : PySem.W.findIn K (.ref C_Rest) "forms" = some (some (.ref A_Rest_forms))) (i_Rest_forms : PySem.W.isFn K (.ref A_Rest_forms) = true) (l_Rest_forms : K.lookup A_Rest_forms = some ⟨oc_Rest_forms, od_Rest_forms, .func (PySem.W.fnOf "forms" "Rest.forms" (defArgs s_Rest_forms) (defBody s_Rest_forms) (defScope s_Rest_forms) .none kV_Rest_forms doc_Rest_forms pm_Rest_forms an_Rest_forms cdv_Rest_forms ct_Rest_forms), sl_Rest_forms⟩) (c_Rest_forms : PySem.W.codeIn K cdv_Rest_forms "Rest.forms" = true) (k_Rest_forms : PySem.W.keepIn K (.ref A_Rest_forms) = true) (a_Rest_period : PySem.W.findIn K (.ref C_Rest) "period" = some (some (.ref A_Rest_period))) (i_Rest_period : PySem.W.isFn K (.ref A_Rest_period) = true) (l_Rest_period : K.lookup A_Rest_period = some ⟨oc_Rest_period, od_Rest_period, .func (PySem.W.fnOf "period" "Rest.period" (defArgs s_Rest_period) (defBody s_Rest_period) (defScope s_Rest_period) .none kV_Rest_period doc_Rest_period pm_Rest_period an_Rest_period cdv_Rest_period ct_Rest_period), sl_Rest_period⟩) (c_Rest_period : PySem.W.codeIn K cdv_Rest_period "Rest.period" = true) (k_Rest_period : PySem.W.keepIn K (.ref A_Rest_period) = true) (a_Rest_bend : PySem.W.findIn K (.ref C_Rest) "bend" = some (some (.ref A_Rest_bend))) (i_Rest_bend : PySem.W.isFn K (.ref A_Rest_bend) = true) (l_Rest_bend : K.lookup A_Rest_bend = some ⟨oc_Rest_bend, od_Rest_bend, .func (PySem.W.fnOf "bend" "Rest.bend" (defArgs s_Rest_bend) (defBody s_Rest_bend) (defScope s_Rest_bend) .none kV_Rest_bend doc_Rest_bend pm_Rest_bend an_Rest_bend cdv_Rest_bend ct_Rest_bend), sl_Rest_bend⟩) (c_Rest_bend : PySem.W.codeIn K cdv_Rest_bend "Rest.bend" = true) (k_Rest_bend : PySem.W.keepIn K (.ref A_Rest_bend) = true) (a_Rest_written : PySem.W.findIn K (.ref C_Rest) "written" = some (some (.ref A_Rest_written))) (i_Rest_written : PySem.W.isFn K (.ref A_Rest_written) = true) (l_Rest_written : K.lookup A_Rest_written = some ⟨oc_Rest_written, od_Rest_written, .func (PySem.W.fnOf "written" "Rest.written" (defArgs s_Rest_written) (defBody s_Rest_written) (defScope s_Rest_written) .none kV_Rest_written doc_Rest_written pm_Rest_written an_Rest_written cdv_Rest_written ct_Rest_written), sl_Rest_written⟩) (c_Rest_written : PySem.W.codeIn K cdv_Rest_written "Rest.written" = true) (k_Rest_written : PySem.W.keepIn K (.ref A_Rest_written) = true) (a_Window_init : PySem.W.findIn K (.ref C_Window) "__init__" = some (some (.ref A_Window_init))) (i_Window_init : PySem.W.isFn K (.ref A_Window_init) = true) (l_Window_init : K.lookup A_Window_init = some ⟨oc_Window_init, od_Window_init, .func (PySem.W.fnX "__init__" "Window.__init__" (defArgs s_Window_init) (defBody s_Window_init) (defScope s_Window_init) [("__class__", cc_Window_init)] .none kV_Window_init doc_Window_init pm_Window_init an_Window_init (.ref cda_Window_init) ct_Window_init), sl_Window_init⟩) (c_Window_init : PySem.W.codeIn K (.ref cda_Window_init) "Window.__init__" = true) (k_Window_init : PySem.W.keepIn K (.ref A_Window_init) = true) (cell_Window_init : K.lookup cc_Window_init = some ⟨cl_Window_init, cld_Window_init, .cell (some (.ref C_Window)), csl_Window_init⟩) (code_Window_init : K.lookup cda_Window_init = some ⟨ccl_Window_init, cdd_Window_init, .fields vs_Window_init, ccs_Window_init⟩) (vs_Window_init : vs_Window_init[2]? = some (.str file_Window_init tf_Window_init)) (fl_Window_init : ((P.main.file : Str) == file_Window_init) = true) (cd_Window_init : PySem.W.clsIn K C_Window = some cd_Window_init) (a_Window_after : PySem.W.findIn K (.ref C_Window) "_after" = some (some (.ref A_Window_after))) (i_Window_after : PySem.W.isFn K (.ref A_Window_after) = true) (l_Window_after : K.lookup A_Window_after = some ⟨oc_Window_after, od_Window_after, .func (PySem.W.fnOf "_after" "Window._after" (defArgs s_Window_after) (defBody s_Window_after) (defScope s_Window_after) .none kV_Window_after doc_Window_after pm_Window_after an_Window_after cdv_Window_after ct_Window_after), sl_Window_after⟩) (c_Window_after : PySem.W.codeIn K cdv_Window_after "Window._after" = true) (k_Window_after : PySem.W.keepIn K (.ref A_Window_after) = true) (a_Days_init : PySem.W.findIn K (.ref C_Days) "__init__" = some (some (.ref A_Days_init))) (i_Days_init : PySem.W.isFn K (.ref A_Days_init) = true) (l_Days_init : K.lookup A_Days_init = some ⟨oc_Days_init, od_Days_init, .func (PySem.W.fnX "__init__" "Days.__init__" (defArgs s_Days_init) (defBody s_Days_init) (defScope s_Days_init) [("__class__", cc_Days_init)] .none kV_Days_init doc_Days_init pm_Days_init an_Days_init (.ref cda_Days_init) ct_Days_init), sl_Days_init⟩) (c_Days_init : PySem.W.codeIn K (.ref cda_Days_init) "Days.__init__" = true) (k_Days_init : PySem.W.keepIn K (.ref A_Days_init) = true) (cell_Days_init : K.lookup cc_Days_init = some ⟨cl_Days_init, cld_Days_init, .cell (some (.ref C_Days)), csl_Days_init⟩) (code_Days_init : K.lookup cda_Days_init = some ⟨ccl_Days_init, cdd_Days_init, .fields vs_Days_init, ccs_Days_init⟩) (vs_Days_init : vs_Days_init[2]? = some (.str file_Days_init tf_Days_init)) (fl_Days_init : ((P.main.file : Str) == file_Days_init) = true) (cd_Days_init : PySem.W.clsIn K C_Days = some cd_Days_init) (a_Days_after : PySem.W.findIn K (.ref C_Days) "_after" = some (some (.ref A_Days_after))) (i_Days_after : PySem.W.isFn K (.ref A_Days_after) = true) (l_Days_after : K.lookup A_Days_after = some ⟨oc_Days_after, od_Days_after, .func (PySem.W.fnOf "_after" "Days._after" (defArgs s_Days_after) (defBody s_Days_after) (defScope s_Days_after) .none kV_Days_after doc_Days_after pm_Days_after an_Days_after cdv_Days_after ct_Days_after), sl_Days_after⟩) (c_Days_after : PySem.W.codeIn K cdv_Days_after "Days._after" = true) (k_Days_after : PySem.W.keepIn K (.ref A_Days_after) = true) (a_joined : PySem.W.nsIn K mainGlobals "joined" = some (some (.ref A_joined))) (l_joined : K.lookup A_joined = some ⟨oc_joined, od_joined, .func (PySem.W.fnOf "joined" "joined" (defArgs s_joined) (defBody s_joined) (defScope s_joined) .none kV_joined doc_joined pm_joined an_joined cdv_joined ct_joined), sl_joined⟩) (c_joined : PySem.W.codeIn K cdv_joined "joined" = true) (k_joined : PySem.W.keepIn K (.ref A_joined) = true) (a_Later_init : PySem.W.findIn K (.ref C_Later) "__init__" = some (some (.ref A_Later_init))) (i_Later_init : PySem.W.isFn K (.ref A_Later_init) = true) (l_Later_init : K.lookup A_Later_init = some ⟨oc_Later_init, od_Later_init, .func (PySem.W.fnX "__init__" "Later.__init__" (defArgs s_Later_init) (defBody s_Later_init) (defScope s_Later_init) [("__class__", cc_Later_init)] .none kV_Later_init doc_Later_init pm_Later_init an_Later_init (.ref cda_Later_init) ct_Later_init), sl_Later_init⟩) (c_Later_init : PySem.W.codeIn K (.ref cda_Later_init) "Later.__init__" = true) (k_Later_init : PySem.W.keepIn K (.ref A_Later_init) = true) (cell_Later_init : K.lookup cc_Later_init = some ⟨cl_Later_init, cld_Later_init, .cell (some (.ref C_Later)), csl_Later_init⟩) (code_Later_init : K.lookup cda_Later_init = some ⟨ccl_Later_init, cdd_Later_init, .fields vs_Later_init, ccs_Later_init⟩) (vs_Later_init : vs_Later_init[2]? = some (.str file_Later_init tf_Later_init)) (fl_Later_init : ((P.main.file : Str) == file_Later_init) = true) (cd_Later_init : PySem.W.clsIn K C_Later = some cd_Later_init) (a_Later_after : PySem.W.findIn K (.ref C_Later) "_after" = some (some (.ref A_Later_after))) (i_Later_after : PySem.W.isFn K (.ref A_Later_after) = true) (l_Later_after : K.lookup A_Later_after = some ⟨oc_Later_after, od_Later_after, .func (PySem.W.fnOf "_after" "Later._after" (defArgs s_Later_after) (defBody s_Later_after) (defScope s_Later_after) .none kV_Later_after doc_Later_after pm_Later_after an_Later_after cdv_Later_after ct_Later_after), sl_Later_after⟩) (c_Later_after : PySem.W.codeIn K cdv_Later_after "Later._after" = true) (k_Later_after : PySem.W.keepIn K (.ref A_Later_after) = true) (a_Sooner_init : PySem.W.findIn K (.ref C_Sooner) "__init__" = some (some (.ref A_Sooner_init))) (i_Sooner_init : PySem.W.isFn K (.ref A_Sooner_init) = true) (l_Sooner_init : K.lookup A_Sooner_init = some ⟨oc_Sooner_init, od_Sooner_init, .func (PySem.W.fnX "__init__" "Sooner.__init__" (defArgs s_Sooner_init) (defBody s_Sooner_init) (defScope s_Sooner_init) [("__class__", cc_Sooner_init)] .none kV_Sooner_init doc_Sooner_init pm_Sooner_init an_Sooner_init (.ref cda_Sooner_init) ct_Sooner_init), sl_Sooner_init⟩) (c_Sooner_init : PySem.W.codeIn K (.ref cda_Sooner_init) "Sooner.__init__" = true) (k_Sooner_init : PySem.W.keepIn K (.ref A_Sooner_init) = true) (cell_Sooner_init : K.lookup cc_Sooner_init = some ⟨cl_Sooner_init, cld_Sooner_init, .cell (some (.ref C_Sooner)), csl_Sooner_init⟩) (code_Sooner_init : K.lookup cda_Sooner_init = some ⟨ccl_Sooner_init, cdd_Sooner_init, .fields vs_Sooner_init, ccs_Sooner_init⟩) (vs_Sooner_init : vs_Sooner_init[2]? = some (.str file_Sooner_init tf_Sooner_init)) (fl_Sooner_init : ((P.main.file : Str) == file_Sooner_init) = true) (cd_Sooner_init : PySem.W.clsIn K C_Sooner = some cd_Sooner_init) (a_Sooner_after : PySem.W.findIn K (.ref C_Sooner) "_after" = some (some (.ref A_Sooner_after))) (i_Sooner_after : PySem.W.isFn K (.ref A_Sooner_after) = true) (l_Sooner_after : K.lookup A_Sooner_after = some ⟨oc_Sooner_after, od_Sooner_after, .func (PySem.W.fnOf "_after" "Sooner._after" (defArgs s_Sooner_after) (defBody s_Sooner_after) (defScope s_Sooner_after) .none kV_Sooner_after doc_Sooner_after pm_Sooner_after an_Sooner_after cdv_Sooner_after ct_Sooner_after), sl_Sooner_after⟩) (c_Sooner_after : PySem.W.codeIn K cdv_Sooner_after "Sooner._after" = true) (k_Sooner_after : PySem.W.keepIn K (.ref A_Sooner_after) = true) (a_Next_init : PySem.W.findIn K (.ref C_Next) "__init__" = some (some (.ref A_Next_init))) (i_Next_init : PySem.W.isFn K (.ref A_Next_init) = true) (l_Next_init : K.lookup A_Next_init = some ⟨oc_Next_init, od_Next_init, .func (PySem.W.fnX "__init__" "Next.__init__" (defArgs s_Next_init) (defBody s_Next_init) (defScope s_Next_init) [("__class__", cc_Next_init)] .none kV_Next_init doc_Next_init pm_Next_init an_Next_init (.ref cda_Next_init) ct_Next_init), sl_Next_init⟩) (c_Next_init : PySem.W.codeIn K (.ref cda_Next_init) "Next.__init__" = true) (k_Next_init : PySem.W.keepIn K (.ref A_Next_init) = true) (cell_Next_init : K.lookup cc_Next_init = some ⟨cl_Next_init, cld_Next_init, .cell (some (.ref C_Next)), csl_Next_init⟩) (code_Next_init : K.lookup cda_Next_init = some ⟨ccl_Next_init, cdd_Next_init, .fields vs_Next_init, ccs_Next_init⟩) (vs_Next_init : vs_Next_init[2]? = some (.str file_Next_init tf_Next_init)) (fl_Next_init : ((P.main.file : Str) == file_Next_init) = true) (cd_Next_init : PySem.W.clsIn K C_Next = some cd_Next_init) (a_Next_after : PySem.W.findIn K (.ref C_Next) "_after" = some (some (.ref A_Next_after))) (i_Next_after : PySem.W.isFn K (.ref A_Next_after) = true) (l_Next_after : K.lookup A_Next_after = some ⟨oc_Next_after, od_Next_after, .func (PySem.W.fnOf "_after" "Next._after" (defArgs s_Next_after) (defBody s_Next_after) (defScope s_Next_after) .none kV_Next_after doc_Next_after pm_Next_after an_Next_after cdv_Next_after ct_Next_after), sl_Next_after⟩) (c_Next_after : PySem.W.codeIn K cdv_Next_after "Next._after" = true) (k_Next_after : PySem.W.keepIn K (.ref A_Next_after) = true) (a_Rule_init : PySem.W.findIn K (.ref C_Rule) "__init__" = some (some (.ref A_Rule_init))) (i_Rule_init : PySem.W.isFn K (.ref A_Rule_init) = true) (l_Rule_init : K.lookup A_Rule_init = some ⟨oc_Rule_init, od_Rule_init, .func (PySem.W.fnOf "__init__" "Rule.__init__" (defArgs s_Rule_init) (defBody s_Rule_init) (defScope s_Rule_init) .none kV_Rule_init doc_Rule_init pm_Rule_init an_Rule_init cdv_Rule_init ct_Rule_init), sl_Rule_init⟩) (c_Rule_init : PySem.W.codeIn K cdv_Rule_init "Rule.__init__" = true) (k_Rule_init : PySem.W.keepIn K (.ref A_Rule_init) = true) (a_fullest : PySem.W.nsIn K mainGlobals "fullest" = some (some (.ref A_fullest))) (l_fullest : K.lookup A_fullest = some ⟨oc_fullest, od_fullest, .func (PySem.W.fnOf "fullest" "fullest" (defArgs s_fullest) (defBody s_fullest) (defScope s_fullest) .none kV_fullest doc_fullest pm_fullest an_fullest cdv_fullest ct_fullest), sl_fullest⟩) (c_fullest : PySem.W.codeIn K cdv_fullest "fullest" = true) (k_fullest : PySem.W.keepIn K (.ref A_fullest) = true) (a_is_within : PySem.W.nsIn K mainGlobals "is_within" = some (some (.ref A_is_within))) (l_is_within : K.lookup A_is_within = some ⟨oc_is_within, od_is_within, .func (PySem.W.fnOf "is_within" "is_within" (defArgs s_is_within) (defBody s_is_within) (defScope s_is_within) .none kV_is_within doc_is_within pm_is_within an_is_within cdv_is_within ct_is_within), sl_is_within⟩) (c_is_within : PySem.W.codeIn K cdv_is_within "is_within" = true) (k_is_within : PySem.W.keepIn K (.ref A_is_within) = true) (a_bag : PySem.W.nsIn K mainGlobals "_law_bag" = some (some (.ref A_bag))) (l_bag : K.lookup A_bag = some ⟨oc_bag, od_bag, .func (PySem.W.fnOf "_law_bag" "_law_bag" (defArgs s_bag) (defBody s_bag) (defScope s_bag) .none kV_bag doc_bag pm_bag an_bag cdv_bag ct_bag), sl_bag⟩) (c_bag : PySem.W.codeIn K cdv_bag "_law_bag" = true) (k_bag : PySem.W.keepIn K (.ref A_bag) = true) (a_draw : PySem.W.nsIn K mainGlobals "_law_draw" = some (some (.ref A_draw))) (l_draw : K.lookup A_draw = some ⟨oc_draw, od_draw, .func (PySem.W.fnOf "_law_draw" "_law_draw" (defArgs s_draw) (defBody s_draw) (defScope s_draw) .none kV_draw doc_draw pm_draw an_draw cdv_draw ct_draw), sl_draw⟩) (c_draw : PySem.W.codeIn K cdv_draw "_law_draw" = true) (k_draw : PySem.W.keepIn K (.ref A_draw) = true) (a_of : PySem.W.nsIn K mainGlobals "_law_of" = some (some (.ref A_of))) (l_of : K.lookup A_of = some ⟨oc_of, od_of, .func (PySem.W.fnOf "_law_of" "_law_of" (defArgs s_of) (defBody s_of) (defScope s_of) .none kV_of doc_of pm_of an_of cdv_of ct_of), sl_of⟩) (c_of : PySem.W.codeIn K cdv_of "_law_of" = true) (k_of : PySem.W.keepIn K (.ref A_of) = true) (a_like : PySem.W.nsIn K mainGlobals "_law_like" = some (some (.ref A_like))) (l_like : K.lookup A_like = some ⟨oc_like, od_like, .func (PySem.W.fnOf "_law_like" "_law_like" (defArgs s_like) (defBody s_like) (defScope s_like) .none kV_like doc_like pm_like an_like cdv_like ct_like), sl_like⟩) (c_like : PySem.W.codeIn K cdv_like "_law_like" = true) (k_like : PySem.W.keepIn K (.ref A_like) = true) (a_llcm : PySem.W.nsIn K mainGlobals "_law_lcm" = some (some (.ref A_llcm))) (l_llcm : K.lookup A_llcm = some ⟨oc_llcm, od_llcm, .func (PySem.W.fnOf "_law_lcm" "_law_lcm" (defArgs s_llcm) (defBody s_llcm) (defScope s_llcm) .none kV_llcm doc_llcm pm_llcm an_llcm cdv_llcm ct_llcm), sl_llcm⟩) (c_llcm : PySem.W.codeIn K cdv_llcm "_law_lcm" = true) (k_llcm : PySem.W.keepIn K (.ref A_llcm) = true) (a_leaf : PySem.W.nsIn K mainGlobals "_law_leaf" = some (some (.ref A_leaf))) (l_leaf : K.lookup A_leaf = some ⟨oc_leaf, od_leaf, .func (PySem.W.fnOf "_law_leaf" "_law_leaf" (defArgs s_leaf) (defBody s_leaf) (defScope s_leaf) .none kV_leaf doc_leaf pm_leaf an_leaf cdv_leaf ct_leaf), sl_leaf⟩) (c_leaf : PySem.W.codeIn K cdv_leaf "_law_leaf" = true) (k_leaf : PySem.W.keepIn K (.ref A_leaf) = true) (a_ljoined : PySem.W.nsIn K mainGlobals "_law_joined" = some (some (.ref A_ljoined))) (l_ljoined : K.lookup A_ljoined = some ⟨oc_ljoined, od_ljoined, .func (PySem.W.fnOf "_law_joined" "_law_joined" (defArgs s_ljoined) (defBody s_ljoined) (defScope s_ljoined) .none kV_ljoined doc_ljoined pm_ljoined an_ljoined cdv_ljoined ct_ljoined), sl_ljoined⟩) (c_ljoined : PySem.W.codeIn K cdv_ljoined "_law_joined" = true) (k_ljoined : PySem.W.keepIn K (.ref A_ljoined) = true) (a_plan : PySem.W.nsIn K mainGlobals "_law_plan" = some (some (.ref A_plan))) (l_plan : K.lookup A_plan = some ⟨oc_plan, od_plan, .func (PySem.W.fnOf "_law_plan" "_law_plan" (defArgs s_plan) (defBody s_plan) (defScope s_plan) .none kV_plan doc_plan pm_plan an_plan cdv_plan ct_plan), sl_plan⟩) (c_plan : PySem.W.codeIn K cdv_plan "_law_plan" = true) (k_plan : PySem.W.keepIn K (.ref A_plan) = true) (a_at : PySem.W.nsIn K mainGlobals "_law_at" = some (some (.ref A_at))) (l_at : K.lookup A_at = some ⟨oc_at, od_at, .func (PySem.W.fnOf "_law_at" "_law_at" (defArgs s_at) (defBody s_at) (defScope s_at) .none kV_at doc_at pm_at an_at cdv_at ct_at), sl_at⟩) (c_at : PySem.W.codeIn K cdv_at "_law_at" = true) (k_at : PySem.W.keepIn K (.ref A_at) = true) (a_made : PySem.W.nsIn K mainGlobals "_law_made" = some (some (.ref A_made))) (l_made : K.lookup A_made = some ⟨oc_made, od_made, .func (PySem.W.fnOf "_law_made" "_law_made" (defArgs s_made) (defBody s_made) (defScope s_made) .none kV_made doc_made pm_made an_made cdv_made ct_made), sl_made⟩) (c_made : PySem.W.codeIn K cdv_made "_law_made" = true) (k_made : PySem.W.keepIn K (.ref A_made) = true) (a_items : PySem.W.nsIn K mainGlobals "_law_items" = some (some (.ref A_items))) (l_items : K.lookup A_items = some ⟨oc_items, od_items, .func (PySem.W.fnOf "_law_items" "_law_items" (defArgs s_items) (defBody s_items) (defScope s_items) .none kV_items doc_items pm_items an_items cdv_items ct_items), sl_items⟩) (c_items : PySem.W.codeIn K cdv_items "_law_items" = true) (k_items : PySem.W.keepIn K (.ref A_items) = true) (a_sum : PySem.W.nsIn K mainGlobals "_law_sum" = some (some (.ref A_sum))) (l_sum : K.lookup A_sum = some ⟨oc_sum, od_sum, .func (PySem.W.fnOf "_law_sum" "_law_sum" (defArgs s_sum) (defBody s_sum) (defScope s_sum) .none kV_sum doc_sum pm_sum an_sum cdv_sum ct_sum), sl_sum⟩) (c_sum : PySem.W.codeIn K cdv_sum "_law_sum" = true) (k_sum : PySem.W.keepIn K (.ref A_sum) = true) (a_due : PySem.W.nsIn K mainGlobals "_law_due" = some (some (.ref A_due))) (l_due : K.lookup A_due = some ⟨oc_due, od_due, .func (PySem.W.fnOf "_law_due" "_law_due" (defArgs s_due) (defBody s_due) (defScope s_due) .none kV_due doc_due pm_due an_due cdv_due ct_due), sl_due⟩) (c_due : PySem.W.codeIn K cdv_due "_law_due" = true) (k_due : PySem.W.keepIn K (.ref A_due) = true) (a_greatest : PySem.W.nsIn K mainGlobals "_law_greatest" = some (some (.ref A_greatest))) (l_greatest : K.lookup A_greatest = some ⟨oc_greatest, od_greatest, .func (PySem.W.fnOf "_law_greatest" "_law_greatest" (defArgs s_greatest) (defBody s_greatest) (defScope s_greatest) .none kV_greatest doc_greatest pm_greatest an_greatest cdv_greatest ct_greatest), sl_greatest⟩) (c_greatest : PySem.W.codeIn K cdv_greatest "_law_greatest" = true) (k_greatest : PySem.W.keepIn K (.ref A_greatest) = true) (a_within_so : PySem.W.nsIn K mainGlobals "_law_within_so" = some (some (.ref A_within_so))) (l_within_so : K.lookup A_within_so = some ⟨oc_within_so, od_within_so, .func (PySem.W.fnOf "_law_within_so" "_law_within_so" (defArgs s_within_so) (defBody s_within_so) (defScope s_within_so) .none kV_within_so doc_within_so pm_within_so an_within_so cdv_within_so ct_within_so), sl_within_so⟩) (c_within_so : PySem.W.codeIn K cdv_within_so "_law_within_so" = true) (k_within_so : PySem.W.keepIn K (.ref A_within_so) = true) (a_so : PySem.W.nsIn K mainGlobals "_law_so" = some (some (.ref A_so))) (l_so : K.lookup A_so = some ⟨oc_so, od_so, .func (PySem.W.fnOf "_law_so" "_law_so" (defArgs s_so) (defBody s_so) (defScope s_so) .none kV_so doc_so pm_so an_so cdv_so ct_so), sl_so⟩) (c_so : PySem.W.codeIn K cdv_so "_law_so" = true) (k_so : PySem.W.keepIn K (.ref A_so) = true) (a_law : PySem.W.nsIn K mainGlobals "law" = some (some (.ref A_law))) (l_law : K.lookup A_law = some ⟨oc_law, od_law, .func (PySem.W.fnOf "law" "law" (defArgs s_law) (defBody s_law) (defScope s_law) .none kV_law doc_law pm_law an_law cdv_law ct_law), sl_law⟩) (c_law : PySem.W.codeIn K cdv_law "law" = true) (k_law : PySem.W.keepIn K (.ref A_law) = true) (top_super : (P.main.scope.names.lookup ("super" : Str)).isSome = false) (st_thirdparty : PySem.W.nsIn K cStatics "thirdparty.any" = some none) (z_int : PySem.W.nsIn K mainGlobals "int" = some none) (z_len : PySem.W.nsIn K mainGlobals "len" = some none) (z_list : PySem.W.nsIn K mainGlobals "list" = some none) (z_isinstance : PySem.W.nsIn K mainGlobals "isinstance" = some none) (z_bool : PySem.W.nsIn K mainGlobals "bool" = some none) (z_max : PySem.W.nsIn K mainGlobals "max" = some none) (z_str : PySem.W.nsIn K mainGlobals "str" = some none) (z_enumerate : PySem.W.nsIn K mainGlobals "enumerate" = some none) (z_tuple : PySem.W.nsIn K mainGlobals "tuple" = some none) (z_min : PySem.W.nsIn K mainGlobals "min" = some none) (z_range : PySem.W.nsIn K mainGlobals "range" = some none) (z_sorted : PySem.W.nsIn K mainGlobals "sorted" = some none) (z_dict : PySem.W.nsIn K mainGlobals "dict" = some none) (z_all : PySem.W.nsIn K mainGlobals "all" = some none) (z_zip : PySem.W.nsIn K mainGlobals "zip" = some none) (z_sum : PySem.W.nsIn K mainGlobals "sum" = some none) (z_super : PySem.W.nsIn K mainGlobals "super" = some none) (ac_PERIOD : PySem.W.nsIn K mainGlobals "PERIOD" = some (some (.int 2000 t_PERIOD))) (ab_lcm : PySem.W.nsIn K mainGlobals "lcm" = some (some (.builtin "math.lcm"))) (ac_FORMS : PySem.W.nsIn K mainGlobals "FORMS" = some (some (.int 6 t_FORMS))) (ac_BORDERS : PySem.W.nsIn K mainGlobals "BORDERS" = some (some (.int 12 t_BORDERS))) (ac_LETTERS : PySem.W.nsIn K mainGlobals "LETTERS" = some (some (.str "abcdefghijklmnopqrstuvwxyz" t_LETTERS))) (ac_DIGITS : PySem.W.nsIn K mainGlobals "DIGITS" = some (some (.str "0123456789" t_DIGITS))) (pg_Window : PySem.W.plainGet K C_Window Str.empty = true) (hd_Window : PySem.W.hasDictIn K C_Window = true) (po_Window : PySem.W.plainOver K C_Window = true) (sa_Window : PySem.W.findIn K (.ref C_Window) "__setattr__" = some (some (.builtin "object.__setattr__"))) (mk_Window : PySem.W.makesIn K C_Window = true) (kc_Window : PySem.W.keepIn K (.ref C_Window) = true) (th_Window : PySem.W.findIn K (.ref C_Window) "__class__" = some (some (.builtin "object.__class__"))) (tn_Window : PySem.W.specialIn K (.builtin "object.__class__") "__get__" = some (some (.builtin "getset_descriptor.__get__"))) (tk_Window : PySem.W.takesIn K (.builtin "object.__class__") = some true) (tm_Window : PySem.W.mroIn K C_Window (.type "object") = some true) (kt_Window_Rest : PySem.W.kitOne K (.ref C_Window) (.ref C_Rest) = some true) (su_Window : PySem.W.mroIn K C_Window (.ref C_Window) = some true) (sm_Window : PySem.W.ks_superIn K C_Window C_Window "__init__" = some (some (.ref A_Rest_init))) (sf_Window : PySem.W.fnIn K A_Rest_init = true) (st_Window : PySem.W.typeIn K (.ref A_Rest_init) = some (.type "function")) (no_Window_text : PySem.W.findIn K (.ref C_Window) "_text" = some none) (no_Window_forms : PySem.W.findIn K (.ref C_Window) "_forms" = some none) (no_Window_period : PySem.W.findIn K (.ref C_Window) "_period" = some none) (no_Window_bend : PySem.W.findIn K (.ref C_Window) "_bend" = some none) (no_Window_width : PySem.W.findIn K (.ref C_Window) "width" = some none) (me_Window_after : PySem.W.findIn K (.ref C_Window) "_after" = some (some (.ref A_Window_after))) (mi_Window_after : PySem.W.isFn K (.ref A_Window_after) = true) (me_Window_forms : PySem.W.findIn K (.ref C_Window) "forms" = some (some (.ref A_Rest_forms))) (mi_Window_forms : PySem.W.isFn K (.ref A_Rest_forms) = true) (me_Window_period : PySem.W.findIn K (.ref C_Window) "period" = some (some (.ref A_Rest_period))) (mi_Window_period : PySem.W.isFn K (.ref A_Rest_period) = true) (me_Window_bend : PySem.W.findIn K (.ref C_Window) "bend" = some (some (.ref A_Rest_bend))) (mi_Window_bend : PySem.W.isFn K (.ref A_Rest_bend) = true) (me_Window_written : PySem.W.findIn K (.ref C_Window) "written" = some (some (.ref A_Rest_written))) (mi_Window_written : PySem.W.isFn K (.ref A_Rest_written) = true) (co_Window : PySem.W.findIn K (.ref C_Window) "__call__" = some (some (.ref A_Rest_call))) (ci_Window : PySem.W.isFn K (.ref A_Rest_call) = true) (cf_Window : PySem.W.fnIn K A_Rest_call = true) (pg_Days : PySem.W.plainGet K C_Days Str.empty = true) (hd_Days : PySem.W.hasDictIn K C_Days = true) (po_Days : PySem.W.plainOver K C_Days = true) (sa_Days : PySem.W.findIn K (.ref C_Days) "__setattr__" = some (some (.builtin "object.__setattr__"))) (mk_Days : PySem.W.makesIn K C_Days = true) (kc_Days : PySem.W.keepIn K (.ref C_Days) = true) (th_Days : PySem.W.findIn K (.ref C_Days) "__class__" = some (some (.builtin "object.__class__"))) (tn_Days : PySem.W.specialIn K (.builtin "object.__class__") "__get__" = some (some (.builtin "getset_descriptor.__get__"))) (tk_Days : PySem.W.takesIn K (.builtin "object.__class__") = some true) (tm_Days : PySem.W.mroIn K C_Days (.type "object") = some true) (kt_Days_Rest : PySem.W.kitOne K (.ref C_Days) (.ref C_Rest) = some true) (su_Days : PySem.W.mroIn K C_Days (.ref C_Days) = some true) (sm_Days : PySem.W.ks_superIn K C_Days C_Days "__init__" = some (some (.ref A_Rest_init))) (sf_Days : PySem.W.fnIn K A_Rest_init = true) (st_Days : PySem.W.typeIn K (.ref A_Rest_init) = some (.type "function")) (no_Days_text : PySem.W.findIn K (.ref C_Days) "_text" = some none) (no_Days_forms : PySem.W.findIn K (.ref C_Days) "_forms" = some none) (no_Days_period : PySem.W.findIn K (.ref C_Days) "_period" = some none) (no_Days_bend : PySem.W.findIn K (.ref C_Days) "_bend" = some none) (no_Days_every : PySem.W.findIn K (.ref C_Days) "every" = some none) (no_Days_borders : PySem.W.findIn K (.ref C_Days) "_borders" = some none) (me_Days_after : PySem.W.findIn K (.ref C_Days) "_after" = some (some (.ref A_Days_after))) (mi_Days_after : PySem.W.isFn K (.ref A_Days_after) = true) (me_Days_forms : PySem.W.findIn K (.ref C_Days) "forms" = some (some (.ref A_Rest_forms))) (mi_Days_forms : PySem.W.isFn K (.ref A_Rest_forms) = true) (me_Days_period : PySem.W.findIn K (.ref C_Days) "period" = some (some (.ref A_Rest_period))) (mi_Days_period : PySem.W.isFn K (.ref A_Rest_period) = true) (me_Days_bend : PySem.W.findIn K (.ref C_Days) "bend" = some (some (.ref A_Rest_bend))) (mi_Days_bend : PySem.W.isFn K (.ref A_Rest_bend) = true) (me_Days_written : PySem.W.findIn K (.ref C_Days) "written" = some (some (.ref A_Rest_written))) (mi_Days_written : PySem.W.isFn K (.ref A_Rest_written) = true) (co_Days : PySem.W.findIn K (.ref C_Days) "__call__" = some (some (.ref A_Rest_call))) (ci_Days : PySem.W.isFn K (.ref A_Rest_call) = true) (cf_Days : PySem.W.fnIn K A_Rest_call = true) (pg_Later : PySem.W.plainGet K C_Later Str.empty = true) (hd_Later : PySem.W.hasDictIn K C_Later = true) (po_Later : PySem.W.plainOver K C_Later = true) (sa_Later : PySem.W.findIn K (.ref C_Later) "__setattr__" = some (some (.builtin "object.__setattr__"))) (mk_Later : PySem.W.makesIn K C_Later = true) (kc_Later : PySem.W.keepIn K (.ref C_Later) = true) (th_Later : PySem.W.findIn K (.ref C_Later) "__class__" = some (some (.builtin "object.__class__"))) (tn_Later : PySem.W.specialIn K (.builtin "object.__class__") "__get__" = some (some (.builtin "getset_descriptor.__get__"))) (tk_Later : PySem.W.takesIn K (.builtin "object.__class__") = some true) (tm_Later : PySem.W.mroIn K C_Later (.type "object") = some true) (kt_Later_Rest : PySem.W.kitOne K (.ref C_Later) (.ref C_Rest) = some true) (su_Later : PySem.W.mroIn K C_Later (.ref C_Later) = some true) (sm_Later : PySem.W.ks_superIn K C_Later C_Later "__init__" = some (some (.ref A_Rest_init))) (sf_Later : PySem.W.fnIn K A_Rest_init = true) (st_Later : PySem.W.typeIn K (.ref A_Rest_init) = some (.type "function")) (no_Later_text : PySem.W.findIn K (.ref C_Later) "_text" = some none) (no_Later_forms : PySem.W.findIn K (.ref C_Later) "_forms" = some none) (no_Later_period : PySem.W.findIn K (.ref C_Later) "_period" = some none) (no_Later_bend : PySem.W.findIn K (.ref C_Later) "_bend" = some none) (no_Later_first : PySem.W.findIn K (.ref C_Later) "first" = some none) (no_Later_second : PySem.W.findIn K (.ref C_Later) "second" = some none) (me_Later_after : PySem.W.findIn K (.ref C_Later) "_after" = some (some (.ref A_Later_after))) (mi_Later_after : PySem.W.isFn K (.ref A_Later_after) = true) (me_Later_forms : PySem.W.findIn K (.ref C_Later) "forms" = some (some (.ref A_Rest_forms))) (mi_Later_forms : PySem.W.isFn K (.ref A_Rest_forms) = true) (me_Later_period : PySem.W.findIn K (.ref C_Later) "period" = some (some (.ref A_Rest_period))) (mi_Later_period : PySem.W.isFn K (.ref A_Rest_period) = true) (me_Later_bend : PySem.W.findIn K (.ref C_Later) "bend" = some (some (.ref A_Rest_bend))) (mi_Later_bend : PySem.W.isFn K (.ref A_Rest_bend) = true) (me_Later_written : PySem.W.findIn K (.ref C_Later) "written" = some (some (.ref A_Rest_written))) (mi_Later_written : PySem.W.isFn K (.ref A_Rest_written) = true) (co_Later : PySem.W.findIn K (.ref C_Later) "__call__" = some (some (.ref A_Rest_call))) (ci_Later : PySem.W.isFn K (.ref A_Rest_call) = true) (cf_Later : PySem.W.fnIn K A_Rest_call = true) (pg_Sooner : PySem.W.plainGet K C_Sooner Str.empty = true) (hd_Sooner : PySem.W.hasDictIn K C_Sooner = true) (po_Sooner : PySem.W.plainOver K C_Sooner = true) (sa_Sooner : PySem.W.findIn K (.ref C_Sooner) "__setattr__" = some (some (.builtin "object.__setattr__"))) (mk_Sooner : PySem.W.makesIn K C_Sooner = true) (kc_Sooner : PySem.W.keepIn K (.ref C_Sooner) = true) (th_Sooner : PySem.W.findIn K (.ref C_Sooner) "__class__" = some (some (.builtin "object.__class__"))) (tn_Sooner : PySem.W.specialIn K (.builtin "object.__class__") "__get__" = some (some (.builtin "getset_descriptor.__get__"))) (tk_Sooner : PySem.W.takesIn K (.builtin "object.__class__") = some true) (tm_Sooner : PySem.W.mroIn K C_Sooner (.type "object") = some true) (kt_Sooner_Rest : PySem.W.kitOne K (.ref C_Sooner) (.ref C_Rest) = some true) (su_Sooner : PySem.W.mroIn K C_Sooner (.ref C_Sooner) = some true) (sm_Sooner : PySem.W.ks_superIn K C_Sooner C_Sooner "__init__" = some (some (.ref A_Rest_init))) (sf_Sooner : PySem.W.fnIn K A_Rest_init = true) (st_Sooner : PySem.W.typeIn K (.ref A_Rest_init) = some (.type "function")) (no_Sooner_text : PySem.W.findIn K (.ref C_Sooner) "_text" = some none) (no_Sooner_forms : PySem.W.findIn K (.ref C_Sooner) "_forms" = some none) (no_Sooner_period : PySem.W.findIn K (.ref C_Sooner) "_period" = some none) (no_Sooner_bend : PySem.W.findIn K (.ref C_Sooner) "_bend" = some none) (no_Sooner_first : PySem.W.findIn K (.ref C_Sooner) "first" = some none) (no_Sooner_second : PySem.W.findIn K (.ref C_Sooner) "second" = some none) (me_Sooner_after : PySem.W.findIn K (.ref C_Sooner) "_after" = some (some (.ref A_Sooner_after))) (mi_Sooner_after : PySem.W.isFn K (.ref A_Sooner_after) = true) (me_Sooner_forms : PySem.W.findIn K (.ref C_Sooner) "forms" = some (some (.ref A_Rest_forms))) (mi_Sooner_forms : PySem.W.isFn K (.ref A_Rest_forms) = true) (me_Sooner_period : PySem.W.findIn K (.ref C_Sooner) "period" = some (some (.ref A_Rest_period))) (mi_Sooner_period : PySem.W.isFn K (.ref A_Rest_period) = true) (me_Sooner_bend : PySem.W.findIn K (.ref C_Sooner) "bend" = some (some (.ref A_Rest_bend))) (mi_Sooner_bend : PySem.W.isFn K (.ref A_Rest_bend) = true) (me_Sooner_written : PySem.W.findIn K (.ref C_Sooner) "written" = some (some (.ref A_Rest_written))) (mi_Sooner_written : PySem.W.isFn K (.ref A_Rest_written) = true) (co_Sooner : PySem.W.findIn K (.ref C_Sooner) "__call__" = some (some (.ref A_Rest_call))) (ci_Sooner : PySem.W.isFn K (.ref A_Rest_call) = true) (cf_Sooner : PySem.W.fnIn K A_Rest_call = true) (pg_Next : PySem.W.plainGet K C_Next Str.empty = true) (hd_Next : PySem.W.hasDictIn K C_Next = true) (po_Next : PySem.W.plainOver K C_Next = true) (sa_Next : PySem.W.findIn K (.ref C_Next) "__setattr__" = some (some (.builtin "object.__setattr__"))) (mk_Next : PySem.W.makesIn K C_Next = true) (kc_Next : PySem.W.keepIn K (.ref C_Next) = true) (th_Next : PySem.W.findIn K (.ref C_Next) "__class__" = some (some (.builtin "object.__class__"))) (tn_Next : PySem.W.specialIn K (.builtin "object.__class__") "__get__" = some (some (.builtin "getset_descriptor.__get__"))) (tk_Next : PySem.W.takesIn K (.builtin "object.__class__") = some true) (tm_Next : PySem.W.mroIn K C_Next (.type "object") = some true) (kt_Next_Rest : PySem.W.kitOne K (.ref C_Next) (.ref C_Rest) = some true) (su_Next : PySem.W.mroIn K C_Next (.ref C_Next) = some true) (sm_Next : PySem.W.ks_superIn K C_Next C_Next "__init__" = some (some (.ref A_Rest_init))) (sf_Next : PySem.W.fnIn K A_Rest_init = true) (st_Next : PySem.W.typeIn K (.ref A_Rest_init) = some (.type "function")) (no_Next_text : PySem.W.findIn K (.ref C_Next) "_text" = some none) (no_Next_forms : PySem.W.findIn K (.ref C_Next) "_forms" = some none) (no_Next_period : PySem.W.findIn K (.ref C_Next) "_period" = some none) (no_Next_bend : PySem.W.findIn K (.ref C_Next) "_bend" = some none) (no_Next_first : PySem.W.findIn K (.ref C_Next) "first" = some none) (no_Next_second : PySem.W.findIn K (.ref C_Next) "second" = some none) (me_Next_after : PySem.W.findIn K (.ref C_Next) "_after" = some (some (.ref A_Next_after))) (mi_Next_after : PySem.W.isFn K (.ref A_Next_after) = true) (me_Next_forms : PySem.W.findIn K (.ref C_Next) "forms" = some (some (.ref A_Rest_forms))) (mi_Next_forms : PySem.W.isFn K (.ref A_Rest_forms) = true) (me_Next_period : PySem.W.findIn K (.ref C_Next) "period" = some (some (.ref A_Rest_period))) (mi_Next_period : PySem.W.isFn K (.ref A_Rest_period) = true) (me_Next_bend : PySem.W.findIn K (.ref C_Next) "bend" = some (some (.ref A_Rest_bend))) (mi_Next_bend : PySem.W.isFn K (.ref A_Rest_bend) = true) (me_Next_written : PySem.W.findIn K (.ref C_Next) "written" = some (some (.ref A_Rest_written))) (mi_Next_written : PySem.W.isFn K (.ref A_Rest_written) = true) (co_Next : PySem.W.findIn K (.ref C_Next) "__call__" = some (some (.ref A_Rest_call))) (ci_Next : PySem.W.isFn K (.ref A_Rest_call) = true) (cf_Next : PySem.W.fnIn K A_Rest_call = true) (pg_Rule : PySem.W.plainGet K C_Rule Str.empty = true) (hd_Rule : PySem.W.hasDictIn K C_Rule = true) (po_Rule : PySem.W.plainOver K C_Rule = true) (sa_Rule : PySem.W.findIn K (.ref C_Rule) "__setattr__" = some (some (.builtin "object.__setattr__"))) (mk_Rule : PySem.W.makesIn K C_Rule = true) (kc_Rule : PySem.W.keepIn K (.ref C_Rule) = true) (no_Rule_name : PySem.W.findIn K (.ref C_Rule) "name" = some none) (no_Rule_chips : PySem.W.findIn K (.ref C_Rule) "chips" = some none) (no_Rule_rest : PySem.W.findIn K (.ref C_Rule) "rest" = some none) : Tx K mg where
  C_Rest := C_Rest
  m_Rest := PySem.W.mg_of X G aC_Rest
  C_Window := C_Window
  m_Window := PySem.W.mg_of X G aC_Window
  C_Days := C_Days
  m_Days := PySem.W.mg_of X G aC_Days
  C_Later := C_Later
  m_Later := PySem.W.mg_of X G aC_Later
  C_Sooner := C_Sooner
  m_Sooner := PySem.W.mg_of X G aC_Sooner
  C_Next := C_Next
  m_Next := PySem.W.mg_of X G aC_Next
  C_Rule := C_Rule
  m_Rule := PySem.W.mg_of X G aC_Rule
  a_is_number := A_is_number
  fd_is_number := PySem.W.fnOf "is_number" "is_number" (defArgs s_is_number) (defBody s_is_number) (defScope s_is_number) .none kV_is_number doc_is_number pm_is_number an_is_number cdv_is_number ct_is_number
  F_is_number := fun_mk (st := s_is_number) l_is_number c_is_number k_is_number
  b_is_number := (fun_mk (st := s_is_number) l_is_number c_is_number k_is_number).binds (ps := P_is_number) fun _ _ _ _ _ _ us hl => match us, hl with | [_, _, _], _ => rfl
  k_is_number := k_is_number
  m_is_number := PySem.W.mg_of X G a_is_number
  a_is_name := A_is_name
  fd_is_name := PySem.W.fnOf "is_name" "is_name" (defArgs s_is_name) (defBody s_is_name) (defScope s_is_name) .none kV_is_name doc_is_name pm_is_name an_is_name cdv_is_name ct_is_name
  F_is_name := fun_mk (st := s_is_name) l_is_name c_is_name k_is_name
  b_is_name := (fun_mk (st := s_is_name) l_is_name c_is_name k_is_name).binds (ps := P_is_name) fun _ _ _ _ _ _ us hl => match us, hl with | [_], _ => rfl
  k_is_name := k_is_name
  m_is_name := PySem.W.mg_of X G a_is_name
  a_Rest_init := A_Rest_init
  fd_Rest_init := PySem.W.fnOf "__init__" "Rest.__init__" (defArgs s_Rest_init) (defBody s_Rest_init) (defScope s_Rest_init) .none kV_Rest_init doc_Rest_init pm_Rest_init an_Rest_init cdv_Rest_init ct_Rest_init
  F_Rest_init := fun_mk (st := s_Rest_init) l_Rest_init c_Rest_init k_Rest_init
  b_Rest_init := (fun_mk (st := s_Rest_init) l_Rest_init c_Rest_init k_Rest_init).binds (ps := P_Rest_init) fun _ _ _ _ _ _ us hl => match us, hl with | [_, _, _, _, _], _ => rfl
  k_Rest_init := k_Rest_init
  a_Rest_call := A_Rest_call
  fd_Rest_call := PySem.W.fnOf "__call__" "Rest.__call__" (defArgs s_Rest_call) (defBody s_Rest_call) (defScope s_Rest_call) .none kV_Rest_call doc_Rest_call pm_Rest_call an_Rest_call cdv_Rest_call ct_Rest_call
  F_Rest_call := fun_mk (st := s_Rest_call) l_Rest_call c_Rest_call k_Rest_call
  b_Rest_call := (fun_mk (st := s_Rest_call) l_Rest_call c_Rest_call k_Rest_call).binds (ps := P_Rest_call) fun _ _ _ _ _ _ us hl => match us, hl with | [_, _], _ => rfl
  k_Rest_call := k_Rest_call
  a_Rest_forms := A_Rest_forms
  fd_Rest_forms := PySem.W.fnOf "forms" "Rest.forms" (defArgs s_Rest_forms) (defBody s_Rest_forms) (defScope s_Rest_forms) .none kV_Rest_forms doc_Rest_forms pm_Rest_forms an_Rest_forms cdv_Rest_forms ct_Rest_forms
  F_Rest_forms := fun_mk (st := s_Rest_forms) l_Rest_forms c_Rest_forms k_Rest_forms
  b_Rest_forms := (fun_mk (st := s_Rest_forms) l_Rest_forms c_Rest_forms k_Rest_forms).binds (ps := P_Rest_forms) fun _ _ _ _ _ _ us hl => match us, hl with | [_], _ => rfl
  k_Rest_forms := k_Rest_forms
  a_Rest_period := A_Rest_period
  fd_Rest_period := PySem.W.fnOf "period" "Rest.period" (defArgs s_Rest_period) (defBody s_Rest_period) (defScope s_Rest_period) .none kV_Rest_period doc_Rest_period pm_Rest_period an_Rest_period cdv_Rest_period ct_Rest_period
  F_Rest_period := fun_mk (st := s_Rest_period) l_Rest_period c_Rest_period k_Rest_period
  b_Rest_period := (fun_mk (st := s_Rest_period) l_Rest_period c_Rest_period k_Rest_period).binds (ps := P_Rest_period) fun _ _ _ _ _ _ us hl => match us, hl with | [_], _ => rfl
  k_Rest_period := k_Rest_period
  a_Rest_bend := A_Rest_bend
  fd_Rest_bend := PySem.W.fnOf "bend" "Rest.bend" (defArgs s_Rest_bend) (defBody s_Rest_bend) (defScope s_Rest_bend) .none kV_Rest_bend doc_Rest_bend pm_Rest_bend an_Rest_bend cdv_Rest_bend ct_Rest_bend
  F_Rest_bend := fun_mk (st := s_Rest_bend) l_Rest_bend c_Rest_bend k_Rest_bend
  b_Rest_bend := (fun_mk (st := s_Rest_bend) l_Rest_bend c_Rest_bend k_Rest_bend).binds (ps := P_Rest_bend) fun _ _ _ _ _ _ us hl => match us, hl with | [_], _ => rfl
  k_Rest_bend := k_Rest_bend
  a_Rest_written := A_Rest_written
  fd_Rest_written := PySem.W.fnOf "written" "Rest.written" (defArgs s_Rest_written) (defBody s_Rest_written) (defScope s_Rest_written) .none kV_Rest_written doc_Rest_written pm_Rest_written an_Rest_written cdv_Rest_written ct_Rest_written
  F_Rest_written := fun_mk (st := s_Rest_written) l_Rest_written c_Rest_written k_Rest_written
  b_Rest_written := (fun_mk (st := s_Rest_written) l_Rest_written c_Rest_written k_Rest_written).binds (ps := P_Rest_written) fun _ _ _ _ _ _ us hl => match us, hl with | [_], _ => rfl
  k_Rest_written := k_Rest_written
  a_Window_init := A_Window_init
  cc_Window_init := cc_Window_init
  cda_Window_init := cda_Window_init
  fd_Window_init := PySem.W.fnX "__init__" "Window.__init__" (defArgs s_Window_init) (defBody s_Window_init) (defScope s_Window_init) [("__class__", cc_Window_init)] .none kV_Window_init doc_Window_init pm_Window_init an_Window_init (.ref cda_Window_init) ct_Window_init
  F_Window_init := funS_mk l_Window_init c_Window_init k_Window_init
  b_Window_init := (funS_mk l_Window_init c_Window_init k_Window_init).binds (st := s_Window_init) (ps := P_Window_init) fun _ _ _ _ _ us hl => match us, hl with | [_, _], _ => rfl
  ce_Window_init := ⟨_, _, _, cell_Window_init⟩
  sd_Window_init := ⟨⟨_, _, _, _, _, l_Window_init, rfl, rfl⟩, ⟨_, _, _, _, _, _, code_Window_init, vs_Window_init, fl_Window_init⟩, ⟨_, _, _, cell_Window_init⟩, ⟨_, cd_Window_init⟩, PySem.W.mg_none_of X G z_super, top_super, st_thirdparty⟩
  k_Window_init := k_Window_init
  a_Window_after := A_Window_after
  fd_Window_after := PySem.W.fnOf "_after" "Window._after" (defArgs s_Window_after) (defBody s_Window_after) (defScope s_Window_after) .none kV_Window_after doc_Window_after pm_Window_after an_Window_after cdv_Window_after ct_Window_after
  F_Window_after := fun_mk (st := s_Window_after) l_Window_after c_Window_after k_Window_after
  b_Window_after := (fun_mk (st := s_Window_after) l_Window_after c_Window_after k_Window_after).binds (ps := P_Window_after) fun _ _ _ _ _ _ us hl => match us, hl with | [_, _], _ => rfl
  k_Window_after := k_Window_after
  a_Days_init := A_Days_init
  cc_Days_init := cc_Days_init
  cda_Days_init := cda_Days_init
  fd_Days_init := PySem.W.fnX "__init__" "Days.__init__" (defArgs s_Days_init) (defBody s_Days_init) (defScope s_Days_init) [("__class__", cc_Days_init)] .none kV_Days_init doc_Days_init pm_Days_init an_Days_init (.ref cda_Days_init) ct_Days_init
  F_Days_init := funS_mk l_Days_init c_Days_init k_Days_init
  b_Days_init := (funS_mk l_Days_init c_Days_init k_Days_init).binds (st := s_Days_init) (ps := P_Days_init) fun _ _ _ _ _ us hl => match us, hl with | [_, _, _], _ => rfl
  ce_Days_init := ⟨_, _, _, cell_Days_init⟩
  sd_Days_init := ⟨⟨_, _, _, _, _, l_Days_init, rfl, rfl⟩, ⟨_, _, _, _, _, _, code_Days_init, vs_Days_init, fl_Days_init⟩, ⟨_, _, _, cell_Days_init⟩, ⟨_, cd_Days_init⟩, PySem.W.mg_none_of X G z_super, top_super, st_thirdparty⟩
  k_Days_init := k_Days_init
  a_Days_after := A_Days_after
  fd_Days_after := PySem.W.fnOf "_after" "Days._after" (defArgs s_Days_after) (defBody s_Days_after) (defScope s_Days_after) .none kV_Days_after doc_Days_after pm_Days_after an_Days_after cdv_Days_after ct_Days_after
  F_Days_after := fun_mk (st := s_Days_after) l_Days_after c_Days_after k_Days_after
  b_Days_after := (fun_mk (st := s_Days_after) l_Days_after c_Days_after k_Days_after).binds (ps := P_Days_after) fun _ _ _ _ _ _ us hl => match us, hl with | [_, _], _ => rfl
  k_Days_after := k_Days_after
  a_joined := A_joined
  fd_joined := PySem.W.fnOf "joined" "joined" (defArgs s_joined) (defBody s_joined) (defScope s_joined) .none kV_joined doc_joined pm_joined an_joined cdv_joined ct_joined
  F_joined := fun_mk (st := s_joined) l_joined c_joined k_joined
  b_joined := (fun_mk (st := s_joined) l_joined c_joined k_joined).binds (ps := P_joined) fun _ _ _ _ _ _ us hl => match us, hl with | [_, _, _], _ => rfl
  k_joined := k_joined
  m_joined := PySem.W.mg_of X G a_joined
  a_Later_init := A_Later_init
  cc_Later_init := cc_Later_init
  cda_Later_init := cda_Later_init
  fd_Later_init := PySem.W.fnX "__init__" "Later.__init__" (defArgs s_Later_init) (defBody s_Later_init) (defScope s_Later_init) [("__class__", cc_Later_init)] .none kV_Later_init doc_Later_init pm_Later_init an_Later_init (.ref cda_Later_init) ct_Later_init
  F_Later_init := funS_mk l_Later_init c_Later_init k_Later_init
  b_Later_init := (funS_mk l_Later_init c_Later_init k_Later_init).binds (st := s_Later_init) (ps := P_Later_init) fun _ _ _ _ _ us hl => match us, hl with | [_, _, _], _ => rfl
  ce_Later_init := ⟨_, _, _, cell_Later_init⟩
  sd_Later_init := ⟨⟨_, _, _, _, _, l_Later_init, rfl, rfl⟩, ⟨_, _, _, _, _, _, code_Later_init, vs_Later_init, fl_Later_init⟩, ⟨_, _, _, cell_Later_init⟩, ⟨_, cd_Later_init⟩, PySem.W.mg_none_of X G z_super, top_super, st_thirdparty⟩
  k_Later_init := k_Later_init
  a_Later_after := A_Later_after
  fd_Later_after := PySem.W.fnOf "_after" "Later._after" (defArgs s_Later_after) (defBody s_Later_after) (defScope s_Later_after) .none kV_Later_after doc_Later_after pm_Later_after an_Later_after cdv_Later_after ct_Later_after
  F_Later_after := fun_mk (st := s_Later_after) l_Later_after c_Later_after k_Later_after
  b_Later_after := (fun_mk (st := s_Later_after) l_Later_after c_Later_after k_Later_after).binds (ps := P_Later_after) fun _ _ _ _ _ _ us hl => match us, hl with | [_, _], _ => rfl
  k_Later_after := k_Later_after
  a_Sooner_init := A_Sooner_init
  cc_Sooner_init := cc_Sooner_init
  cda_Sooner_init := cda_Sooner_init
  fd_Sooner_init := PySem.W.fnX "__init__" "Sooner.__init__" (defArgs s_Sooner_init) (defBody s_Sooner_init) (defScope s_Sooner_init) [("__class__", cc_Sooner_init)] .none kV_Sooner_init doc_Sooner_init pm_Sooner_init an_Sooner_init (.ref cda_Sooner_init) ct_Sooner_init
  F_Sooner_init := funS_mk l_Sooner_init c_Sooner_init k_Sooner_init
  b_Sooner_init := (funS_mk l_Sooner_init c_Sooner_init k_Sooner_init).binds (st := s_Sooner_init) (ps := P_Sooner_init) fun _ _ _ _ _ us hl => match us, hl with | [_, _, _], _ => rfl
  ce_Sooner_init := ⟨_, _, _, cell_Sooner_init⟩
  sd_Sooner_init := ⟨⟨_, _, _, _, _, l_Sooner_init, rfl, rfl⟩, ⟨_, _, _, _, _, _, code_Sooner_init, vs_Sooner_init, fl_Sooner_init⟩, ⟨_, _, _, cell_Sooner_init⟩, ⟨_, cd_Sooner_init⟩, PySem.W.mg_none_of X G z_super, top_super, st_thirdparty⟩
  k_Sooner_init := k_Sooner_init
  a_Sooner_after := A_Sooner_after
  fd_Sooner_after := PySem.W.fnOf "_after" "Sooner._after" (defArgs s_Sooner_after) (defBody s_Sooner_after) (defScope s_Sooner_after) .none kV_Sooner_after doc_Sooner_after pm_Sooner_after an_Sooner_after cdv_Sooner_after ct_Sooner_after
  F_Sooner_after := fun_mk (st := s_Sooner_after) l_Sooner_after c_Sooner_after k_Sooner_after
  b_Sooner_after := (fun_mk (st := s_Sooner_after) l_Sooner_after c_Sooner_after k_Sooner_after).binds (ps := P_Sooner_after) fun _ _ _ _ _ _ us hl => match us, hl with | [_, _], _ => rfl
  k_Sooner_after := k_Sooner_after
  a_Next_init := A_Next_init
  cc_Next_init := cc_Next_init
  cda_Next_init := cda_Next_init
  fd_Next_init := PySem.W.fnX "__init__" "Next.__init__" (defArgs s_Next_init) (defBody s_Next_init) (defScope s_Next_init) [("__class__", cc_Next_init)] .none kV_Next_init doc_Next_init pm_Next_init an_Next_init (.ref cda_Next_init) ct_Next_init
  F_Next_init := funS_mk l_Next_init c_Next_init k_Next_init
  b_Next_init := (funS_mk l_Next_init c_Next_init k_Next_init).binds (st := s_Next_init) (ps := P_Next_init) fun _ _ _ _ _ us hl => match us, hl with | [_, _, _], _ => rfl
  ce_Next_init := ⟨_, _, _, cell_Next_init⟩
  sd_Next_init := ⟨⟨_, _, _, _, _, l_Next_init, rfl, rfl⟩, ⟨_, _, _, _, _, _, code_Next_init, vs_Next_init, fl_Next_init⟩, ⟨_, _, _, cell_Next_init⟩, ⟨_, cd_Next_init⟩, PySem.W.mg_none_of X G z_super, top_super, st_thirdparty⟩
  k_Next_init := k_Next_init
  a_Next_after := A_Next_after
  fd_Next_after := PySem.W.fnOf "_after" "Next._after" (defArgs s_Next_after) (defBody s_Next_after) (defScope s_Next_after) .none kV_Next_after doc_Next_after pm_Next_after an_Next_after cdv_Next_after ct_Next_after
  F_Next_after := fun_mk (st := s_Next_after) l_Next_after c_Next_after k_Next_after
  b_Next_after := (fun_mk (st := s_Next_after) l_Next_after c_Next_after k_Next_after).binds (ps := P_Next_after) fun _ _ _ _ _ _ us hl => match us, hl with | [_, _], _ => rfl
  k_Next_after := k_Next_after
  a_Rule_init := A_Rule_init
  fd_Rule_init := PySem.W.fnOf "__init__" "Rule.__init__" (defArgs s_Rule_init) (defBody s_Rule_init) (defScope s_Rule_init) .none kV_Rule_init doc_Rule_init pm_Rule_init an_Rule_init cdv_Rule_init ct_Rule_init
  F_Rule_init := fun_mk (st := s_Rule_init) l_Rule_init c_Rule_init k_Rule_init
  b_Rule_init := (fun_mk (st := s_Rule_init) l_Rule_init c_Rule_init k_Rule_init).binds (ps := P_Rule_init) fun _ _ _ _ _ _ us hl => match us, hl with | [_, _, _, _], _ => rfl
  k_Rule_init := k_Rule_init
  a_fullest := A_fullest
  fd_fullest := PySem.W.fnOf "fullest" "fullest" (defArgs s_fullest) (defBody s_fullest) (defScope s_fullest) .none kV_fullest doc_fullest pm_fullest an_fullest cdv_fullest ct_fullest
  F_fullest := fun_mk (st := s_fullest) l_fullest c_fullest k_fullest
  b_fullest := (fun_mk (st := s_fullest) l_fullest c_fullest k_fullest).binds (ps := P_fullest) fun _ _ _ _ _ _ us hl => match us, hl with | [_, _], _ => rfl
  k_fullest := k_fullest
  m_fullest := PySem.W.mg_of X G a_fullest
  a_is_within := A_is_within
  fd_is_within := PySem.W.fnOf "is_within" "is_within" (defArgs s_is_within) (defBody s_is_within) (defScope s_is_within) .none kV_is_within doc_is_within pm_is_within an_is_within cdv_is_within ct_is_within
  F_is_within := fun_mk (st := s_is_within) l_is_within c_is_within k_is_within
  b_is_within := (fun_mk (st := s_is_within) l_is_within c_is_within k_is_within).binds (ps := P_is_within) fun _ _ _ _ _ _ us hl => match us, hl with | [_, _], _ => rfl
  k_is_within := k_is_within
  m_is_within := PySem.W.mg_of X G a_is_within
  a_bag := A_bag
  fd_bag := PySem.W.fnOf "_law_bag" "_law_bag" (defArgs s_bag) (defBody s_bag) (defScope s_bag) .none kV_bag doc_bag pm_bag an_bag cdv_bag ct_bag
  F_bag := fun_mk (st := s_bag) l_bag c_bag k_bag
  b_bag := (fun_mk (st := s_bag) l_bag c_bag k_bag).binds (ps := P_bag) fun _ _ _ _ _ _ us hl => match us, hl with | [_], _ => rfl
  k_bag := k_bag
  m_bag := PySem.W.mg_of X G a_bag
  a_draw := A_draw
  fd_draw := PySem.W.fnOf "_law_draw" "_law_draw" (defArgs s_draw) (defBody s_draw) (defScope s_draw) .none kV_draw doc_draw pm_draw an_draw cdv_draw ct_draw
  F_draw := fun_mk (st := s_draw) l_draw c_draw k_draw
  b_draw := (fun_mk (st := s_draw) l_draw c_draw k_draw).binds (ps := P_draw) fun _ _ _ _ _ _ us hl => match us, hl with | [_, _], _ => rfl
  k_draw := k_draw
  m_draw := PySem.W.mg_of X G a_draw
  a_of := A_of
  fd_of := PySem.W.fnOf "_law_of" "_law_of" (defArgs s_of) (defBody s_of) (defScope s_of) .none kV_of doc_of pm_of an_of cdv_of ct_of
  F_of := fun_mk (st := s_of) l_of c_of k_of
  b_of := (fun_mk (st := s_of) l_of c_of k_of).binds (ps := P_of) fun _ _ _ _ _ _ us hl => match us, hl with | [_, _], _ => rfl
  k_of := k_of
  m_of := PySem.W.mg_of X G a_of
  a_like := A_like
  fd_like := PySem.W.fnOf "_law_like" "_law_like" (defArgs s_like) (defBody s_like) (defScope s_like) .none kV_like doc_like pm_like an_like cdv_like ct_like
  F_like := fun_mk (st := s_like) l_like c_like k_like
  b_like := (fun_mk (st := s_like) l_like c_like k_like).binds (ps := P_like) fun _ _ _ _ _ _ us hl => match us, hl with | [_, _], _ => rfl
  k_like := k_like
  m_like := PySem.W.mg_of X G a_like
  a_llcm := A_llcm
  fd_llcm := PySem.W.fnOf "_law_lcm" "_law_lcm" (defArgs s_llcm) (defBody s_llcm) (defScope s_llcm) .none kV_llcm doc_llcm pm_llcm an_llcm cdv_llcm ct_llcm
  F_llcm := fun_mk (st := s_llcm) l_llcm c_llcm k_llcm
  b_llcm := (fun_mk (st := s_llcm) l_llcm c_llcm k_llcm).binds (ps := P_llcm) fun _ _ _ _ _ _ us hl => match us, hl with | [_, _], _ => rfl
  k_llcm := k_llcm
  m_llcm := PySem.W.mg_of X G a_llcm
  a_leaf := A_leaf
  fd_leaf := PySem.W.fnOf "_law_leaf" "_law_leaf" (defArgs s_leaf) (defBody s_leaf) (defScope s_leaf) .none kV_leaf doc_leaf pm_leaf an_leaf cdv_leaf ct_leaf
  F_leaf := fun_mk (st := s_leaf) l_leaf c_leaf k_leaf
  b_leaf := (fun_mk (st := s_leaf) l_leaf c_leaf k_leaf).binds (ps := P_leaf) fun _ _ _ _ _ _ us hl => match us, hl with | [_, _, _], _ => rfl
  k_leaf := k_leaf
  m_leaf := PySem.W.mg_of X G a_leaf
  a_ljoined := A_ljoined
  fd_ljoined := PySem.W.fnOf "_law_joined" "_law_joined" (defArgs s_ljoined) (defBody s_ljoined) (defScope s_ljoined) .none kV_ljoined doc_ljoined pm_ljoined an_ljoined cdv_ljoined ct_ljoined
  F_ljoined := fun_mk (st := s_ljoined) l_ljoined c_ljoined k_ljoined
  b_ljoined := (fun_mk (st := s_ljoined) l_ljoined c_ljoined k_ljoined).binds (ps := P_ljoined) fun _ _ _ _ _ _ us hl => match us, hl with | [_, _], _ => rfl
  k_ljoined := k_ljoined
  m_ljoined := PySem.W.mg_of X G a_ljoined
  a_plan := A_plan
  fd_plan := PySem.W.fnOf "_law_plan" "_law_plan" (defArgs s_plan) (defBody s_plan) (defScope s_plan) .none kV_plan doc_plan pm_plan an_plan cdv_plan ct_plan
  F_plan := fun_mk (st := s_plan) l_plan c_plan k_plan
  b_plan := (fun_mk (st := s_plan) l_plan c_plan k_plan).binds (ps := P_plan) fun _ _ _ _ _ _ us hl => match us, hl with | [_, _, _], _ => rfl
  k_plan := k_plan
  m_plan := PySem.W.mg_of X G a_plan
  a_at := A_at
  fd_at := PySem.W.fnOf "_law_at" "_law_at" (defArgs s_at) (defBody s_at) (defScope s_at) .none kV_at doc_at pm_at an_at cdv_at ct_at
  F_at := fun_mk (st := s_at) l_at c_at k_at
  b_at := (fun_mk (st := s_at) l_at c_at k_at).binds (ps := P_at) fun _ _ _ _ _ _ us hl => match us, hl with | [_, _], _ => rfl
  k_at := k_at
  m_at := PySem.W.mg_of X G a_at
  a_made := A_made
  fd_made := PySem.W.fnOf "_law_made" "_law_made" (defArgs s_made) (defBody s_made) (defScope s_made) .none kV_made doc_made pm_made an_made cdv_made ct_made
  F_made := fun_mk (st := s_made) l_made c_made k_made
  b_made := (fun_mk (st := s_made) l_made c_made k_made).binds (ps := P_made) fun _ _ _ _ _ _ us hl => match us, hl with | [_], _ => rfl
  k_made := k_made
  m_made := PySem.W.mg_of X G a_made
  a_items := A_items
  fd_items := PySem.W.fnOf "_law_items" "_law_items" (defArgs s_items) (defBody s_items) (defScope s_items) .none kV_items doc_items pm_items an_items cdv_items ct_items
  F_items := fun_mk (st := s_items) l_items c_items k_items
  b_items := (fun_mk (st := s_items) l_items c_items k_items).binds (ps := P_items) fun _ _ _ _ _ _ us hl => match us, hl with | [_, _], _ => rfl
  k_items := k_items
  m_items := PySem.W.mg_of X G a_items
  a_sum := A_sum
  fd_sum := PySem.W.fnOf "_law_sum" "_law_sum" (defArgs s_sum) (defBody s_sum) (defScope s_sum) .none kV_sum doc_sum pm_sum an_sum cdv_sum ct_sum
  F_sum := fun_mk (st := s_sum) l_sum c_sum k_sum
  b_sum := (fun_mk (st := s_sum) l_sum c_sum k_sum).binds (ps := P_sum) fun _ _ _ _ _ _ us hl => match us, hl with | [_, _, _], _ => rfl
  k_sum := k_sum
  m_sum := PySem.W.mg_of X G a_sum
  a_due := A_due
  fd_due := PySem.W.fnOf "_law_due" "_law_due" (defArgs s_due) (defBody s_due) (defScope s_due) .none kV_due doc_due pm_due an_due cdv_due ct_due
  F_due := fun_mk (st := s_due) l_due c_due k_due
  b_due := (fun_mk (st := s_due) l_due c_due k_due).binds (ps := P_due) fun _ _ _ _ _ _ us hl => match us, hl with | [_, _], _ => rfl
  k_due := k_due
  m_due := PySem.W.mg_of X G a_due
  a_greatest := A_greatest
  fd_greatest := PySem.W.fnOf "_law_greatest" "_law_greatest" (defArgs s_greatest) (defBody s_greatest) (defScope s_greatest) .none kV_greatest doc_greatest pm_greatest an_greatest cdv_greatest ct_greatest
  F_greatest := fun_mk (st := s_greatest) l_greatest c_greatest k_greatest
  b_greatest := (fun_mk (st := s_greatest) l_greatest c_greatest k_greatest).binds (ps := P_greatest) fun _ _ _ _ _ _ us hl => match us, hl with | [_, _], _ => rfl
  k_greatest := k_greatest
  m_greatest := PySem.W.mg_of X G a_greatest
  a_within_so := A_within_so
  fd_within_so := PySem.W.fnOf "_law_within_so" "_law_within_so" (defArgs s_within_so) (defBody s_within_so) (defScope s_within_so) .none kV_within_so doc_within_so pm_within_so an_within_so cdv_within_so ct_within_so
  F_within_so := fun_mk (st := s_within_so) l_within_so c_within_so k_within_so
  b_within_so := (fun_mk (st := s_within_so) l_within_so c_within_so k_within_so).binds (ps := P_within_so) fun _ _ _ _ _ _ us hl => match us, hl with | [_, _, _, _, _], _ => rfl
  k_within_so := k_within_so
  m_within_so := PySem.W.mg_of X G a_within_so
  a_so := A_so
  fd_so := PySem.W.fnOf "_law_so" "_law_so" (defArgs s_so) (defBody s_so) (defScope s_so) .none kV_so doc_so pm_so an_so cdv_so ct_so
  F_so := fun_mk (st := s_so) l_so c_so k_so
  b_so := (fun_mk (st := s_so) l_so c_so k_so).binds (ps := P_so) fun _ _ _ _ _ _ us hl => match us, hl with | [_, _, _, _], _ => rfl
  k_so := k_so
  m_so := PySem.W.mg_of X G a_so
  a_law := A_law
  fd_law := PySem.W.fnOf "law" "law" (defArgs s_law) (defBody s_law) (defScope s_law) .none kV_law doc_law pm_law an_law cdv_law ct_law
  F_law := fun_mk (st := s_law) l_law c_law k_law
  b_law := (fun_mk (st := s_law) l_law c_law k_law).binds (ps := P_law) fun _ _ _ _ _ _ us hl => match us, hl with | [_], _ => rfl
  k_law := k_law
  m_law := PySem.W.mg_of X G a_law
  n_int := PySem.W.mg_none_of X G z_int
  n_len := PySem.W.mg_none_of X G z_len
  n_list := PySem.W.mg_none_of X G z_list
  n_isinstance := PySem.W.mg_none_of X G z_isinstance
  n_bool := PySem.W.mg_none_of X G z_bool
  n_max := PySem.W.mg_none_of X G z_max
  n_str := PySem.W.mg_none_of X G z_str
  n_enumerate := PySem.W.mg_none_of X G z_enumerate
  n_tuple := PySem.W.mg_none_of X G z_tuple
  n_min := PySem.W.mg_none_of X G z_min
  n_range := PySem.W.mg_none_of X G z_range
  n_sorted := PySem.W.mg_none_of X G z_sorted
  n_dict := PySem.W.mg_none_of X G z_dict
  n_all := PySem.W.mg_none_of X G z_all
  n_zip := PySem.W.mg_none_of X G z_zip
  n_sum := PySem.W.mg_none_of X G z_sum
  n_super := PySem.W.mg_none_of X G z_super
  t_PERIOD := t_PERIOD
  m_PERIOD := PySem.W.mg_of X G ac_PERIOD
  r_PERIOD := ⟨_, rfl⟩
  m_lcm := PySem.W.mg_of X G ab_lcm
  t_FORMS := t_FORMS
  m_FORMS := PySem.W.mg_of X G ac_FORMS
  r_FORMS := ⟨_, rfl⟩
  t_BORDERS := t_BORDERS
  m_BORDERS := PySem.W.mg_of X G ac_BORDERS
  r_BORDERS := ⟨_, rfl⟩
  t_LETTERS := t_LETTERS
  m_LETTERS := PySem.W.mg_of X G ac_LETTERS
  r_LETTERS := ⟨_, rfl⟩
  t_DIGITS := t_DIGITS
  m_DIGITS := PySem.W.mg_of X G ac_DIGITS
  r_DIGITS := ⟨_, rfl⟩
  kb_is_within_uses_rule := ⟨fun s us ws _ h => by (rcases us with _ | ⟨u, us⟩ <;> rcases ws with _ | ⟨w0, _ | ⟨w1, _ | ⟨z, ws⟩⟩⟩ <;> first | exact .of_eq rfl | exact absurd h (fun z => Nat.noConfusion (show (0 : Nat) = Nat.succ _ from z))), fun r1 r2 => by (cases r1 with | nil => (cases r2 with | nil => exact .nil | cons h0 r2 => (cases r2 with | nil => exact .nil | cons h1 r2 => (cases r2 with | nil => exact (.cons h1 (.cons h0 .nil)) | cons _ _ => exact .nil))) | cons _ _ => exact .nil)⟩
  kb_fullest_uses_rest := ⟨fun s us ws _ h => by (rcases us with _ | ⟨u, us⟩ <;> rcases ws with _ | ⟨w0, _ | ⟨w1, _ | ⟨z, ws⟩⟩⟩ <;> first | exact .of_eq rfl | exact absurd h (fun z => Nat.noConfusion (show (0 : Nat) = Nat.succ _ from z))), fun r1 r2 => by (cases r1 with | nil => (cases r2 with | nil => exact .nil | cons h0 r2 => (cases r2 with | nil => exact .nil | cons h1 r2 => (cases r2 with | nil => exact (.cons h1 (.cons h0 .nil)) | cons _ _ => exact .nil))) | cons _ _ => exact .nil)⟩
  cl_Window := ⟨pg_Window, hd_Window, po_Window, sa_Window⟩
  mk_Window := ⟨mk_Window, a_Window_init, i_Window_init, kc_Window⟩
  ty_Window := ⟨⟨pg_Window, hd_Window, po_Window, sa_Window⟩, th_Window, tn_Window, tk_Window, tm_Window⟩
  kt_Window_Rest := kt_Window_Rest
  su_Window := ⟨su_Window, sm_Window, sf_Window, st_Window⟩
  no_Window_text := no_Window_text
  no_Window_forms := no_Window_forms
  no_Window_period := no_Window_period
  no_Window_bend := no_Window_bend
  no_Window_width := no_Window_width
  me_Window_after := ⟨me_Window_after, mi_Window_after, k_Window_after⟩
  me_Window_forms := ⟨me_Window_forms, mi_Window_forms, k_Rest_forms⟩
  me_Window_period := ⟨me_Window_period, mi_Window_period, k_Rest_period⟩
  me_Window_bend := ⟨me_Window_bend, mi_Window_bend, k_Rest_bend⟩
  me_Window_written := ⟨me_Window_written, mi_Window_written, k_Rest_written⟩
  co_Window := ⟨co_Window, ci_Window, cf_Window⟩
  cl_Days := ⟨pg_Days, hd_Days, po_Days, sa_Days⟩
  mk_Days := ⟨mk_Days, a_Days_init, i_Days_init, kc_Days⟩
  ty_Days := ⟨⟨pg_Days, hd_Days, po_Days, sa_Days⟩, th_Days, tn_Days, tk_Days, tm_Days⟩
  kt_Days_Rest := kt_Days_Rest
  su_Days := ⟨su_Days, sm_Days, sf_Days, st_Days⟩
  no_Days_text := no_Days_text
  no_Days_forms := no_Days_forms
  no_Days_period := no_Days_period
  no_Days_bend := no_Days_bend
  no_Days_every := no_Days_every
  no_Days_borders := no_Days_borders
  me_Days_after := ⟨me_Days_after, mi_Days_after, k_Days_after⟩
  me_Days_forms := ⟨me_Days_forms, mi_Days_forms, k_Rest_forms⟩
  me_Days_period := ⟨me_Days_period, mi_Days_period, k_Rest_period⟩
  me_Days_bend := ⟨me_Days_bend, mi_Days_bend, k_Rest_bend⟩
  me_Days_written := ⟨me_Days_written, mi_Days_written, k_Rest_written⟩
  co_Days := ⟨co_Days, ci_Days, cf_Days⟩
  cl_Later := ⟨pg_Later, hd_Later, po_Later, sa_Later⟩
  mk_Later := ⟨mk_Later, a_Later_init, i_Later_init, kc_Later⟩
  ty_Later := ⟨⟨pg_Later, hd_Later, po_Later, sa_Later⟩, th_Later, tn_Later, tk_Later, tm_Later⟩
  kt_Later_Rest := kt_Later_Rest
  su_Later := ⟨su_Later, sm_Later, sf_Later, st_Later⟩
  no_Later_text := no_Later_text
  no_Later_forms := no_Later_forms
  no_Later_period := no_Later_period
  no_Later_bend := no_Later_bend
  no_Later_first := no_Later_first
  no_Later_second := no_Later_second
  me_Later_after := ⟨me_Later_after, mi_Later_after, k_Later_after⟩
  me_Later_forms := ⟨me_Later_forms, mi_Later_forms, k_Rest_forms⟩
  me_Later_period := ⟨me_Later_period, mi_Later_period, k_Rest_period⟩
  me_Later_bend := ⟨me_Later_bend, mi_Later_bend, k_Rest_bend⟩
  me_Later_written := ⟨me_Later_written, mi_Later_written, k_Rest_written⟩
  co_Later := ⟨co_Later, ci_Later, cf_Later⟩
  cl_Sooner := ⟨pg_Sooner, hd_Sooner, po_Sooner, sa_Sooner⟩
  mk_Sooner := ⟨mk_Sooner, a_Sooner_init, i_Sooner_init, kc_Sooner⟩
  ty_Sooner := ⟨⟨pg_Sooner, hd_Sooner, po_Sooner, sa_Sooner⟩, th_Sooner, tn_Sooner, tk_Sooner, tm_Sooner⟩
  kt_Sooner_Rest := kt_Sooner_Rest
  su_Sooner := ⟨su_Sooner, sm_Sooner, sf_Sooner, st_Sooner⟩
  no_Sooner_text := no_Sooner_text
  no_Sooner_forms := no_Sooner_forms
  no_Sooner_period := no_Sooner_period
  no_Sooner_bend := no_Sooner_bend
  no_Sooner_first := no_Sooner_first
  no_Sooner_second := no_Sooner_second
  me_Sooner_after := ⟨me_Sooner_after, mi_Sooner_after, k_Sooner_after⟩
  me_Sooner_forms := ⟨me_Sooner_forms, mi_Sooner_forms, k_Rest_forms⟩
  me_Sooner_period := ⟨me_Sooner_period, mi_Sooner_period, k_Rest_period⟩
  me_Sooner_bend := ⟨me_Sooner_bend, mi_Sooner_bend, k_Rest_bend⟩
  me_Sooner_written := ⟨me_Sooner_written, mi_Sooner_written, k_Rest_written⟩
  co_Sooner := ⟨co_Sooner, ci_Sooner, cf_Sooner⟩
  cl_Next := ⟨pg_Next, hd_Next, po_Next, sa_Next⟩
  mk_Next := ⟨mk_Next, a_Next_init, i_Next_init, kc_Next⟩
  ty_Next := ⟨⟨pg_Next, hd_Next, po_Next, sa_Next⟩, th_Next, tn_Next, tk_Next, tm_Next⟩
  kt_Next_Rest := kt_Next_Rest
  su_Next := ⟨su_Next, sm_Next, sf_Next, st_Next⟩
  no_Next_text := no_Next_text
  no_Next_forms := no_Next_forms
  no_Next_period := no_Next_period
  no_Next_bend := no_Next_bend
  no_Next_first := no_Next_first
  no_Next_second := no_Next_second
  me_Next_after := ⟨me_Next_after, mi_Next_after, k_Next_after⟩
  me_Next_forms := ⟨me_Next_forms, mi_Next_forms, k_Rest_forms⟩
  me_Next_period := ⟨me_Next_period, mi_Next_period, k_Rest_period⟩
  me_Next_bend := ⟨me_Next_bend, mi_Next_bend, k_Rest_bend⟩
  me_Next_written := ⟨me_Next_written, mi_Next_written, k_Rest_written⟩
  co_Next := ⟨co_Next, ci_Next, cf_Next⟩
  cl_Rule := ⟨pg_Rule, hd_Rule, po_Rule, sa_Rule⟩
  mk_Rule := ⟨mk_Rule, a_Rule_init, i_Rule_init, kc_Rule⟩
  no_Rule_name := no_Rule_name
  no_Rule_chips := no_Rule_chips
  no_Rule_rest := no_Rule_rest
theorem all_mk {w : World} {K : PySem.W.Frag} {h : Heap} {mg : Str → Option Value} {fa : Addr} (X : K.In h) (G : h.Ns mainGlobals mg) (hfa : mg "law" = some (.ref fa)) {C_Rest : Addr} {C_Window : Addr} {C_Days : Addr} {C_Later : Addr} {C_Sooner : Addr} {C_Next : Addr} {C_Rule : Addr} {A_is_number : Addr} {oc_is_number kV_is_number doc_is_number pm_is_number ct_is_number : Value} {od_is_number an_is_number : Option Addr} {sl_is_number : Array (Option Value)} {cdv_is_number : Value} {A_is_name : Addr} {oc_is_name kV_is_name doc_is_name pm_is_name ct_is_name : Value} {od_is_name an_is_name : Option Addr} {sl_is_name : Array (Option Value)} {cdv_is_name : Value} {A_Rest_init : Addr} {oc_Rest_init kV_Rest_init doc_Rest_init pm_Rest_init ct_Rest_init : Value} {od_Rest_init an_Rest_init : Option Addr} {sl_Rest_init : Array (Option Value)} {cdv_Rest_init : Value} {A_Rest_call : Addr} {oc_Rest_call kV_Rest_call doc_Rest_call pm_Rest_call ct_Rest_call : Value} {od_Rest_call an_Rest_call : Option Addr} {sl_Rest_call : Array (Option Value)} {cdv_Rest_call : Value} {A_Rest_forms : Addr} {oc_Rest_forms kV_Rest_forms doc_Rest_forms pm_Rest_forms ct_Rest_forms : Value} {od_Rest_forms an_Rest_forms : Option Addr} {sl_Rest_forms : Array (Option Value)} {cdv_Rest_forms : Value} {A_Rest_period : Addr} {oc_Rest_period kV_Rest_period doc_Rest_period pm_Rest_period ct_Rest_period : Value} {od_Rest_period an_Rest_period : Option Addr} {sl_Rest_period : Array (Option Value)} {cdv_Rest_period : Value} {A_Rest_bend : Addr} {oc_Rest_bend kV_Rest_bend doc_Rest_bend pm_Rest_bend ct_Rest_bend : Value} {od_Rest_bend an_Rest_bend : Option Addr} {sl_Rest_bend : Array (Option Value)} {cdv_Rest_bend : Value} {A_Rest_written : Addr} {oc_Rest_written kV_Rest_written doc_Rest_written pm_Rest_written ct_Rest_written : Value} {od_Rest_written an_Rest_written : Option Addr} {sl_Rest_written : Array (Option Value)} {cdv_Rest_written : Value} {A_Window_init : Addr} {oc_Window_init kV_Window_init doc_Window_init pm_Window_init ct_Window_init : Value} {od_Window_init an_Window_init : Option Addr} {sl_Window_init : Array (Option Value)} {cc_Window_init cda_Window_init : Addr} {cl_Window_init ccl_Window_init : Value} {cld_Window_init cdd_Window_init : Option Addr} {csl_Window_init ccs_Window_init : Array (Option Value)} {vs_Window_init : Array Value} {file_Window_init : Str} {tf_Window_init : Tok} {cd_Window_init : PySem.ClassData} {A_Window_after : Addr} {oc_Window_after kV_Window_after doc_Window_after pm_Window_after ct_Window_after : Value} {od_Window_after an_Window_after : Option Addr} {sl_Window_after : Array (Option Value)} {cdv_Window_after : Value} {A_Days_init : Addr} {oc_Days_init kV_Days_init doc_Days_init pm_Days_init ct_Days_init : Value} {od_Days_init an_Days_init : Option Addr} {sl_Days_init : Array (Option Value)} {cc_Days_init cda_Days_init : Addr} {cl_Days_init ccl_Days_init : Value} {cld_Days_init cdd_Days_init : Option Addr} {csl_Days_init ccs_Days_init : Array (Option Value)} {vs_Days_init : Array Value} {file_Days_init : Str} {tf_Days_init : Tok} {cd_Days_init : PySem.ClassData} {A_Days_after : Addr} {oc_Days_after kV_Days_after doc_Days_after pm_Days_after ct_Days_after : Value} {od_Days_after an_Days_after : Option Addr} {sl_Days_after : Array (Option Value)} {cdv_Days_after : Value} {A_joined : Addr} {oc_joined kV_joined doc_joined pm_joined ct_joined : Value} {od_joined an_joined : Option Addr} {sl_joined : Array (Option Value)} {cdv_joined : Value} {A_Later_init : Addr} {oc_Later_init kV_Later_init doc_Later_init pm_Later_init ct_Later_init : Value} {od_Later_init an_Later_init : Option Addr} {sl_Later_init : Array (Option Value)} {cc_Later_init cda_Later_init : Addr} {cl_Later_init ccl_Later_init : Value} {cld_Later_init cdd_Later_init : Option Addr} {csl_Later_init ccs_Later_init : Array (Option Value)} {vs_Later_init : Array Value} {file_Later_init : Str} {tf_Later_init : Tok} {cd_Later_init : PySem.ClassData} {A_Later_after : Addr} {oc_Later_after kV_Later_after doc_Later_after pm_Later_after ct_Later_after : Value} {od_Later_after an_Later_after : Option Addr} {sl_Later_after : Array (Option Value)} {cdv_Later_after : Value} {A_Sooner_init : Addr} {oc_Sooner_init kV_Sooner_init doc_Sooner_init pm_Sooner_init ct_Sooner_init : Value} {od_Sooner_init an_Sooner_init : Option Addr} {sl_Sooner_init : Array (Option Value)} {cc_Sooner_init cda_Sooner_init : Addr} {cl_Sooner_init ccl_Sooner_init : Value} {cld_Sooner_init cdd_Sooner_init : Option Addr} {csl_Sooner_init ccs_Sooner_init : Array (Option Value)} {vs_Sooner_init : Array Value} {file_Sooner_init : Str} {tf_Sooner_init : Tok} {cd_Sooner_init : PySem.ClassData} {A_Sooner_after : Addr} {oc_Sooner_after kV_Sooner_after doc_Sooner_after pm_Sooner_after ct_Sooner_after : Value} {od_Sooner_after an_Sooner_after : Option Addr} {sl_Sooner_after : Array (Option Value)} {cdv_Sooner_after : Value} {A_Next_init : Addr} {oc_Next_init kV_Next_init doc_Next_init pm_Next_init ct_Next_init : Value} {od_Next_init an_Next_init : Option Addr} {sl_Next_init : Array (Option Value)} {cc_Next_init cda_Next_init : Addr} {cl_Next_init ccl_Next_init : Value} {cld_Next_init cdd_Next_init : Option Addr} {csl_Next_init ccs_Next_init : Array (Option Value)} {vs_Next_init : Array Value} {file_Next_init : Str} {tf_Next_init : Tok} {cd_Next_init : PySem.ClassData} {A_Next_after : Addr} {oc_Next_after kV_Next_after doc_Next_after pm_Next_after ct_Next_after : Value} {od_Next_after an_Next_after : Option Addr} {sl_Next_after : Array (Option Value)} {cdv_Next_after : Value} {A_Rule_init : Addr} {oc_Rule_init kV_Rule_init doc_Rule_init pm_Rule_init ct_Rule_init : Value} {od_Rule_init an_Rule_init : Option Addr} {sl_Rule_init : Array (Option Value)} {cdv_Rule_init : Value} {A_fullest : Addr} {oc_fullest kV_fullest doc_fullest pm_fullest ct_fullest : Value} {od_fullest an_fullest : Option Addr} {sl_fullest : Array (Option Value)} {cdv_fullest : Value} {A_is_within : Addr} {oc_is_within kV_is_within doc_is_within pm_is_within ct_is_within : Value} {od_is_within an_is_within : Option Addr} {sl_is_within : Array (Option Value)} {cdv_is_within : Value} {A_bag : Addr} {oc_bag kV_bag doc_bag pm_bag ct_bag : Value} {od_bag an_bag : Option Addr} {sl_bag : Array (Option Value)} {cdv_bag : Value} {A_draw : Addr} {oc_draw kV_draw doc_draw pm_draw ct_draw : Value} {od_draw an_draw : Option Addr} {sl_draw : Array (Option Value)} {cdv_draw : Value} {A_of : Addr} {oc_of kV_of doc_of pm_of ct_of : Value} {od_of an_of : Option Addr} {sl_of : Array (Option Value)} {cdv_of : Value} {A_like : Addr} {oc_like kV_like doc_like pm_like ct_like : Value} {od_like an_like : Option Addr} {sl_like : Array (Option Value)} {cdv_like : Value} {A_llcm : Addr} {oc_llcm kV_llcm doc_llcm pm_llcm ct_llcm : Value} {od_llcm an_llcm : Option Addr} {sl_llcm : Array (Option Value)} {cdv_llcm : Value} {A_leaf : Addr} {oc_leaf kV_leaf doc_leaf pm_leaf ct_leaf : Value} {od_leaf an_leaf : Option Addr} {sl_leaf : Array (Option Value)} {cdv_leaf : Value} {A_ljoined : Addr} {oc_ljoined kV_ljoined doc_ljoined pm_ljoined ct_ljoined : Value} {od_ljoined an_ljoined : Option Addr} {sl_ljoined : Array (Option Value)} {cdv_ljoined : Value} {A_plan : Addr} {oc_plan kV_plan doc_plan pm_plan ct_plan : Value} {od_plan an_plan : Option Addr} {sl_plan : Array (Option Value)} {cdv_plan : Value} {A_at : Addr} {oc_at kV_at doc_at pm_at ct_at : Value} {od_at an_at : Option Addr} {sl_at : Array (Option Value)} {cdv_at : Value} {A_made : Addr} {oc_made kV_made doc_made pm_made ct_made : Value} {od_made an_made : Option Addr} {sl_made : Array (Option Value)} {cdv_made : Value} {A_items : Addr} {oc_items kV_items doc_items pm_items ct_items : Value} {od_items an_items : Option Addr} {sl_items : Array (Option Value)} {cdv_items : Value} {A_sum : Addr} {oc_sum kV_sum doc_sum pm_sum ct_sum : Value} {od_sum an_sum : Option Addr} {sl_sum : Array (Option Value)} {cdv_sum : Value} {A_due : Addr} {oc_due kV_due doc_due pm_due ct_due : Value} {od_due an_due : Option Addr} {sl_due : Array (Option Value)} {cdv_due : Value} {A_greatest : Addr} {oc_greatest kV_greatest doc_greatest pm_greatest ct_greatest : Value} {od_greatest an_greatest : Option Addr} {sl_greatest : Array (Option Value)} {cdv_greatest : Value} {A_within_so : Addr} {oc_within_so kV_within_so doc_within_so pm_within_so ct_within_so : Value} {od_within_so an_within_so : Option Addr} {sl_within_so : Array (Option Value)} {cdv_within_so : Value} {A_so : Addr} {oc_so kV_so doc_so pm_so ct_so : Value} {od_so an_so : Option Addr} {sl_so : Array (Option Value)} {cdv_so : Value} {A_law : Addr} {oc_law kV_law doc_law pm_law ct_law : Value} {od_law an_law : Option Addr} {sl_law : Array (Option Value)} {cdv_law : Value} {t_PERIOD : Tok} {t_FORMS : Tok} {t_BORDERS : Tok} {t_LETTERS : Tok} {t_DIGITS : Tok}
    (aC_Rest : PySem.W.nsIn K mainGlobals "Rest" = some (some (.ref C_Rest))) (aC_Window : PySem.W.nsIn K mainGlobals "Window" = some (some (.ref C_Window))) (aC_Days : PySem.W.nsIn K mainGlobals "Days" = some (some (.ref C_Days))) (aC_Later : PySem.W.nsIn K mainGlobals "Later" = some (some (.ref C_Later))) (aC_Sooner : PySem.W.nsIn K mainGlobals "Sooner" = some (some (.ref C_Sooner))) (aC_Next : PySem.W.nsIn K mainGlobals "Next" = some (some (.ref C_Next))) (aC_Rule : PySem.W.nsIn K mainGlobals "Rule" = some (some (.ref C_Rule))) (a_is_number : PySem.W.nsIn K mainGlobals "is_number" = some (some (.ref A_is_number))) (l_is_number : K.lookup A_is_number = some ⟨oc_is_number, od_is_number, .func (PySem.W.fnOf "is_number" "is_number" (defArgs s_is_number) (defBody s_is_number) (defScope s_is_number) .none kV_is_number doc_is_number pm_is_number an_is_number cdv_is_number ct_is_number), sl_is_number⟩) (c_is_number : PySem.W.codeIn K cdv_is_number "is_number" = true) (k_is_number : PySem.W.keepIn K (.ref A_is_number) = true) (a_is_name : PySem.W.nsIn K mainGlobals "is_name" = some (some (.ref A_is_name))) (l_is_name : K.lookup A_is_name = some ⟨oc_is_name, od_is_name, .func (PySem.W.fnOf "is_name" "is_name" (defArgs s_is_name) (defBody s_is_name) (defScope s_is_name) .none kV_is_name doc_is_name pm_is_name an_is_name cdv_is_name ct_is_name), sl_is_name⟩) (c_is_name : PySem.W.codeIn K cdv_is_name "is_name" = true) (k_is_name : PySem.W.keepIn K (.ref A_is_name) = true) (a_Rest_init : PySem.W.findIn K (.ref C_Rest) "__init__" = some (some (.ref A_Rest_init))) (i_Rest_init : PySem.W.isFn K (.ref A_Rest_init) = true) (l_Rest_init : K.lookup A_Rest_init = some ⟨oc_Rest_init, od_Rest_init, .func (PySem.W.fnOf "__init__" "Rest.__init__" (defArgs s_Rest_init) (defBody s_Rest_init) (defScope s_Rest_init) .none kV_Rest_init doc_Rest_init pm_Rest_init an_Rest_init cdv_Rest_init ct_Rest_init), sl_Rest_init⟩) (c_Rest_init : PySem.W.codeIn K cdv_Rest_init "Rest.__init__" = true) (k_Rest_init : PySem.W.keepIn K (.ref A_Rest_init) = true) (a_Rest_call : PySem.W.findIn K (.ref C_Rest) "__call__" = some (some (.ref A_Rest_call))) (i_Rest_call : PySem.W.isFn K (.ref A_Rest_call) = true) (l_Rest_call : K.lookup A_Rest_call = some ⟨oc_Rest_call, od_Rest_call, .func (PySem.W.fnOf "__call__" "Rest.__call__" (defArgs s_Rest_call) (defBody s_Rest_call) (defScope s_Rest_call) .none kV_Rest_call doc_Rest_call pm_Rest_call an_Rest_call cdv_Rest_call ct_Rest_call), sl_Rest_call⟩) (c_Rest_call : PySem.W.codeIn K cdv_Rest_call "Rest.__call__" = true) (k_Rest_call : PySem.W.keepIn K (.ref A_Rest_call) = true) (a_Rest_forms : PySem.W.findIn K (.ref C_Rest) "forms" = some (some (.ref A_Rest_forms))) (i_Rest_forms : PySem.W.isFn K (.ref A_Rest_forms) = true) (l_Rest_forms : K.lookup A_Rest_forms = some ⟨oc_Rest_forms, od_Rest_forms, .func (PySem.W.fnOf "forms" "Rest.forms" (defArgs s_Rest_forms) (defBody s_Rest_forms) (defScope s_Rest_forms) .none kV_Rest_forms doc_Rest_forms pm_Rest_forms an_Rest_forms cdv_Rest_forms ct_Rest_forms), sl_Rest_forms⟩) (c_Rest_forms : PySem.W.codeIn K cdv_Rest_forms "Rest.forms" = true) (k_Rest_forms : PySem.W.keepIn K (.ref A_Rest_forms) = true) (a_Rest_period : PySem.W.findIn K (.ref C_Rest) "period" = some (some (.ref A_Rest_period))) (i_Rest_period : PySem.W.isFn K (.ref A_Rest_period) = true) (l_Rest_period : K.lookup A_Rest_period = some ⟨oc_Rest_period, od_Rest_period, .func (PySem.W.fnOf "period" "Rest.period" (defArgs s_Rest_period) (defBody s_Rest_period) (defScope s_Rest_period) .none kV_Rest_period doc_Rest_period pm_Rest_period an_Rest_period cdv_Rest_period ct_Rest_period), sl_Rest_period⟩) (c_Rest_period : PySem.W.codeIn K cdv_Rest_period "Rest.period" = true) (k_Rest_period : PySem.W.keepIn K (.ref A_Rest_period) = true) (a_Rest_bend : PySem.W.findIn K (.ref C_Rest) "bend" = some (some (.ref A_Rest_bend))) (i_Rest_bend : PySem.W.isFn K (.ref A_Rest_bend) = true) (l_Rest_bend : K.lookup A_Rest_bend = some ⟨oc_Rest_bend, od_Rest_bend, .func (PySem.W.fnOf "bend" "Rest.bend" (defArgs s_Rest_bend) (defBody s_Rest_bend) (defScope s_Rest_bend) .none kV_Rest_bend doc_Rest_bend pm_Rest_bend an_Rest_bend cdv_Rest_bend ct_Rest_bend), sl_Rest_bend⟩) (c_Rest_bend : PySem.W.codeIn K cdv_Rest_bend "Rest.bend" = true) (k_Rest_bend : PySem.W.keepIn K (.ref A_Rest_bend) = true) (a_Rest_written : PySem.W.findIn K (.ref C_Rest) "written" = some (some (.ref A_Rest_written))) (i_Rest_written : PySem.W.isFn K (.ref A_Rest_written) = true) (l_Rest_written : K.lookup A_Rest_written = some ⟨oc_Rest_written, od_Rest_written, .func (PySem.W.fnOf "written" "Rest.written" (defArgs s_Rest_written) (defBody s_Rest_written) (defScope s_Rest_written) .none kV_Rest_written doc_Rest_written pm_Rest_written an_Rest_written cdv_Rest_written ct_Rest_written), sl_Rest_written⟩) (c_Rest_written : PySem.W.codeIn K cdv_Rest_written "Rest.written" = true) (k_Rest_written : PySem.W.keepIn K (.ref A_Rest_written) = true) (a_Window_init : PySem.W.findIn K (.ref C_Window) "__init__" = some (some (.ref A_Window_init))) (i_Window_init : PySem.W.isFn K (.ref A_Window_init) = true) (l_Window_init : K.lookup A_Window_init = some ⟨oc_Window_init, od_Window_init, .func (PySem.W.fnX "__init__" "Window.__init__" (defArgs s_Window_init) (defBody s_Window_init) (defScope s_Window_init) [("__class__", cc_Window_init)] .none kV_Window_init doc_Window_init pm_Window_init an_Window_init (.ref cda_Window_init) ct_Window_init), sl_Window_init⟩) (c_Window_init : PySem.W.codeIn K (.ref cda_Window_init) "Window.__init__" = true) (k_Window_init : PySem.W.keepIn K (.ref A_Window_init) = true) (cell_Window_init : K.lookup cc_Window_init = some ⟨cl_Window_init, cld_Window_init, .cell (some (.ref C_Window)), csl_Window_init⟩) (code_Window_init : K.lookup cda_Window_init = some ⟨ccl_Window_init, cdd_Window_init, .fields vs_Window_init, ccs_Window_init⟩) (vs_Window_init : vs_Window_init[2]? = some (.str file_Window_init tf_Window_init)) (fl_Window_init : ((P.main.file : Str) == file_Window_init) = true) (cd_Window_init : PySem.W.clsIn K C_Window = some cd_Window_init) (a_Window_after : PySem.W.findIn K (.ref C_Window) "_after" = some (some (.ref A_Window_after))) (i_Window_after : PySem.W.isFn K (.ref A_Window_after) = true) (l_Window_after : K.lookup A_Window_after = some ⟨oc_Window_after, od_Window_after, .func (PySem.W.fnOf "_after" "Window._after" (defArgs s_Window_after) (defBody s_Window_after) (defScope s_Window_after) .none kV_Window_after doc_Window_after pm_Window_after an_Window_after cdv_Window_after ct_Window_after), sl_Window_after⟩) (c_Window_after : PySem.W.codeIn K cdv_Window_after "Window._after" = true) (k_Window_after : PySem.W.keepIn K (.ref A_Window_after) = true) (a_Days_init : PySem.W.findIn K (.ref C_Days) "__init__" = some (some (.ref A_Days_init))) (i_Days_init : PySem.W.isFn K (.ref A_Days_init) = true) (l_Days_init : K.lookup A_Days_init = some ⟨oc_Days_init, od_Days_init, .func (PySem.W.fnX "__init__" "Days.__init__" (defArgs s_Days_init) (defBody s_Days_init) (defScope s_Days_init) [("__class__", cc_Days_init)] .none kV_Days_init doc_Days_init pm_Days_init an_Days_init (.ref cda_Days_init) ct_Days_init), sl_Days_init⟩) (c_Days_init : PySem.W.codeIn K (.ref cda_Days_init) "Days.__init__" = true) (k_Days_init : PySem.W.keepIn K (.ref A_Days_init) = true) (cell_Days_init : K.lookup cc_Days_init = some ⟨cl_Days_init, cld_Days_init, .cell (some (.ref C_Days)), csl_Days_init⟩) (code_Days_init : K.lookup cda_Days_init = some ⟨ccl_Days_init, cdd_Days_init, .fields vs_Days_init, ccs_Days_init⟩) (vs_Days_init : vs_Days_init[2]? = some (.str file_Days_init tf_Days_init)) (fl_Days_init : ((P.main.file : Str) == file_Days_init) = true) (cd_Days_init : PySem.W.clsIn K C_Days = some cd_Days_init) (a_Days_after : PySem.W.findIn K (.ref C_Days) "_after" = some (some (.ref A_Days_after))) (i_Days_after : PySem.W.isFn K (.ref A_Days_after) = true) (l_Days_after : K.lookup A_Days_after = some ⟨oc_Days_after, od_Days_after, .func (PySem.W.fnOf "_after" "Days._after" (defArgs s_Days_after) (defBody s_Days_after) (defScope s_Days_after) .none kV_Days_after doc_Days_after pm_Days_after an_Days_after cdv_Days_after ct_Days_after), sl_Days_after⟩) (c_Days_after : PySem.W.codeIn K cdv_Days_after "Days._after" = true) (k_Days_after : PySem.W.keepIn K (.ref A_Days_after) = true) (a_joined : PySem.W.nsIn K mainGlobals "joined" = some (some (.ref A_joined))) (l_joined : K.lookup A_joined = some ⟨oc_joined, od_joined, .func (PySem.W.fnOf "joined" "joined" (defArgs s_joined) (defBody s_joined) (defScope s_joined) .none kV_joined doc_joined pm_joined an_joined cdv_joined ct_joined), sl_joined⟩) (c_joined : PySem.W.codeIn K cdv_joined "joined" = true) (k_joined : PySem.W.keepIn K (.ref A_joined) = true) (a_Later_init : PySem.W.findIn K (.ref C_Later) "__init__" = some (some (.ref A_Later_init))) (i_Later_init : PySem.W.isFn K (.ref A_Later_init) = true) (l_Later_init : K.lookup A_Later_init = some ⟨oc_Later_init, od_Later_init, .func (PySem.W.fnX "__init__" "Later.__init__" (defArgs s_Later_init) (defBody s_Later_init) (defScope s_Later_init) [("__class__", cc_Later_init)] .none kV_Later_init doc_Later_init pm_Later_init an_Later_init (.ref cda_Later_init) ct_Later_init), sl_Later_init⟩) (c_Later_init : PySem.W.codeIn K (.ref cda_Later_init) "Later.__init__" = true) (k_Later_init : PySem.W.keepIn K (.ref A_Later_init) = true) (cell_Later_init : K.lookup cc_Later_init = some ⟨cl_Later_init, cld_Later_init, .cell (some (.ref C_Later)), csl_Later_init⟩) (code_Later_init : K.lookup cda_Later_init = some ⟨ccl_Later_init, cdd_Later_init, .fields vs_Later_init, ccs_Later_init⟩) (vs_Later_init : vs_Later_init[2]? = some (.str file_Later_init tf_Later_init)) (fl_Later_init : ((P.main.file : Str) == file_Later_init) = true) (cd_Later_init : PySem.W.clsIn K C_Later = some cd_Later_init) (a_Later_after : PySem.W.findIn K (.ref C_Later) "_after" = some (some (.ref A_Later_after))) (i_Later_after : PySem.W.isFn K (.ref A_Later_after) = true) (l_Later_after : K.lookup A_Later_after = some ⟨oc_Later_after, od_Later_after, .func (PySem.W.fnOf "_after" "Later._after" (defArgs s_Later_after) (defBody s_Later_after) (defScope s_Later_after) .none kV_Later_after doc_Later_after pm_Later_after an_Later_after cdv_Later_after ct_Later_after), sl_Later_after⟩) (c_Later_after : PySem.W.codeIn K cdv_Later_after "Later._after" = true) (k_Later_after : PySem.W.keepIn K (.ref A_Later_after) = true) (a_Sooner_init : PySem.W.findIn K (.ref C_Sooner) "__init__" = some (some (.ref A_Sooner_init))) (i_Sooner_init : PySem.W.isFn K (.ref A_Sooner_init) = true) (l_Sooner_init : K.lookup A_Sooner_init = some ⟨oc_Sooner_init, od_Sooner_init, .func (PySem.W.fnX "__init__" "Sooner.__init__" (defArgs s_Sooner_init) (defBody s_Sooner_init) (defScope s_Sooner_init) [("__class__", cc_Sooner_init)] .none kV_Sooner_init doc_Sooner_init pm_Sooner_init an_Sooner_init (.ref cda_Sooner_init) ct_Sooner_init), sl_Sooner_init⟩) (c_Sooner_init : PySem.W.codeIn K (.ref cda_Sooner_init) "Sooner.__init__" = true) (k_Sooner_init : PySem.W.keepIn K (.ref A_Sooner_init) = true) (cell_Sooner_init : K.lookup cc_Sooner_init = some ⟨cl_Sooner_init, cld_Sooner_init, .cell (some (.ref C_Sooner)), csl_Sooner_init⟩) (code_Sooner_init : K.lookup cda_Sooner_init = some ⟨ccl_Sooner_init, cdd_Sooner_init, .fields vs_Sooner_init, ccs_Sooner_init⟩) (vs_Sooner_init : vs_Sooner_init[2]? = some (.str file_Sooner_init tf_Sooner_init)) (fl_Sooner_init : ((P.main.file : Str) == file_Sooner_init) = true) (cd_Sooner_init : PySem.W.clsIn K C_Sooner = some cd_Sooner_init) (a_Sooner_after : PySem.W.findIn K (.ref C_Sooner) "_after" = some (some (.ref A_Sooner_after))) (i_Sooner_after : PySem.W.isFn K (.ref A_Sooner_after) = true) (l_Sooner_after : K.lookup A_Sooner_after = some ⟨oc_Sooner_after, od_Sooner_after, .func (PySem.W.fnOf "_after" "Sooner._after" (defArgs s_Sooner_after) (defBody s_Sooner_after) (defScope s_Sooner_after) .none kV_Sooner_after doc_Sooner_after pm_Sooner_after an_Sooner_after cdv_Sooner_after ct_Sooner_after), sl_Sooner_after⟩) (c_Sooner_after : PySem.W.codeIn K cdv_Sooner_after "Sooner._after" = true) (k_Sooner_after : PySem.W.keepIn K (.ref A_Sooner_after) = true) (a_Next_init : PySem.W.findIn K (.ref C_Next) "__init__" = some (some (.ref A_Next_init))) (i_Next_init : PySem.W.isFn K (.ref A_Next_init) = true) (l_Next_init : K.lookup A_Next_init = some ⟨oc_Next_init, od_Next_init, .func (PySem.W.fnX "__init__" "Next.__init__" (defArgs s_Next_init) (defBody s_Next_init) (defScope s_Next_init) [("__class__", cc_Next_init)] .none kV_Next_init doc_Next_init pm_Next_init an_Next_init (.ref cda_Next_init) ct_Next_init), sl_Next_init⟩) (c_Next_init : PySem.W.codeIn K (.ref cda_Next_init) "Next.__init__" = true) (k_Next_init : PySem.W.keepIn K (.ref A_Next_init) = true) (cell_Next_init : K.lookup cc_Next_init = some ⟨cl_Next_init, cld_Next_init, .cell (some (.ref C_Next)), csl_Next_init⟩) (code_Next_init : K.lookup cda_Next_init = some ⟨ccl_Next_init, cdd_Next_init, .fields vs_Next_init, ccs_Next_init⟩) (vs_Next_init : vs_Next_init[2]? = some (.str file_Next_init tf_Next_init)) (fl_Next_init : ((P.main.file : Str) == file_Next_init) = true) (cd_Next_init : PySem.W.clsIn K C_Next = some cd_Next_init) (a_Next_after : PySem.W.findIn K (.ref C_Next) "_after" = some (some (.ref A_Next_after))) (i_Next_after : PySem.W.isFn K (.ref A_Next_after) = true) (l_Next_after : K.lookup A_Next_after = some ⟨oc_Next_after, od_Next_after, .func (PySem.W.fnOf "_after" "Next._after" (defArgs s_Next_after) (defBody s_Next_after) (defScope s_Next_after) .none kV_Next_after doc_Next_after pm_Next_after an_Next_after cdv_Next_after ct_Next_after), sl_Next_after⟩) (c_Next_after : PySem.W.codeIn K cdv_Next_after "Next._after" = true) (k_Next_after : PySem.W.keepIn K (.ref A_Next_after) = true) (a_Rule_init : PySem.W.findIn K (.ref C_Rule) "__init__" = some (some (.ref A_Rule_init))) (i_Rule_init : PySem.W.isFn K (.ref A_Rule_init) = true) (l_Rule_init : K.lookup A_Rule_init = some ⟨oc_Rule_init, od_Rule_init, .func (PySem.W.fnOf "__init__" "Rule.__init__" (defArgs s_Rule_init) (defBody s_Rule_init) (defScope s_Rule_init) .none kV_Rule_init doc_Rule_init pm_Rule_init an_Rule_init cdv_Rule_init ct_Rule_init), sl_Rule_init⟩) (c_Rule_init : PySem.W.codeIn K cdv_Rule_init "Rule.__init__" = true) (k_Rule_init : PySem.W.keepIn K (.ref A_Rule_init) = true) (a_fullest : PySem.W.nsIn K mainGlobals "fullest" = some (some (.ref A_fullest))) (l_fullest : K.lookup A_fullest = some ⟨oc_fullest, od_fullest, .func (PySem.W.fnOf "fullest" "fullest" (defArgs s_fullest) (defBody s_fullest) (defScope s_fullest) .none kV_fullest doc_fullest pm_fullest an_fullest cdv_fullest ct_fullest), sl_fullest⟩) (c_fullest : PySem.W.codeIn K cdv_fullest "fullest" = true) (k_fullest : PySem.W.keepIn K (.ref A_fullest) = true) (a_is_within : PySem.W.nsIn K mainGlobals "is_within" = some (some (.ref A_is_within))) (l_is_within : K.lookup A_is_within = some ⟨oc_is_within, od_is_within, .func (PySem.W.fnOf "is_within" "is_within" (defArgs s_is_within) (defBody s_is_within) (defScope s_is_within) .none kV_is_within doc_is_within pm_is_within an_is_within cdv_is_within ct_is_within), sl_is_within⟩) (c_is_within : PySem.W.codeIn K cdv_is_within "is_within" = true) (k_is_within : PySem.W.keepIn K (.ref A_is_within) = true) (a_bag : PySem.W.nsIn K mainGlobals "_law_bag" = some (some (.ref A_bag))) (l_bag : K.lookup A_bag = some ⟨oc_bag, od_bag, .func (PySem.W.fnOf "_law_bag" "_law_bag" (defArgs s_bag) (defBody s_bag) (defScope s_bag) .none kV_bag doc_bag pm_bag an_bag cdv_bag ct_bag), sl_bag⟩) (c_bag : PySem.W.codeIn K cdv_bag "_law_bag" = true) (k_bag : PySem.W.keepIn K (.ref A_bag) = true) (a_draw : PySem.W.nsIn K mainGlobals "_law_draw" = some (some (.ref A_draw))) (l_draw : K.lookup A_draw = some ⟨oc_draw, od_draw, .func (PySem.W.fnOf "_law_draw" "_law_draw" (defArgs s_draw) (defBody s_draw) (defScope s_draw) .none kV_draw doc_draw pm_draw an_draw cdv_draw ct_draw), sl_draw⟩) (c_draw : PySem.W.codeIn K cdv_draw "_law_draw" = true) (k_draw : PySem.W.keepIn K (.ref A_draw) = true) (a_of : PySem.W.nsIn K mainGlobals "_law_of" = some (some (.ref A_of))) (l_of : K.lookup A_of = some ⟨oc_of, od_of, .func (PySem.W.fnOf "_law_of" "_law_of" (defArgs s_of) (defBody s_of) (defScope s_of) .none kV_of doc_of pm_of an_of cdv_of ct_of), sl_of⟩) (c_of : PySem.W.codeIn K cdv_of "_law_of" = true) (k_of : PySem.W.keepIn K (.ref A_of) = true) (a_like : PySem.W.nsIn K mainGlobals "_law_like" = some (some (.ref A_like))) (l_like : K.lookup A_like = some ⟨oc_like, od_like, .func (PySem.W.fnOf "_law_like" "_law_like" (defArgs s_like) (defBody s_like) (defScope s_like) .none kV_like doc_like pm_like an_like cdv_like ct_like), sl_like⟩) (c_like : PySem.W.codeIn K cdv_like "_law_like" = true) (k_like : PySem.W.keepIn K (.ref A_like) = true) (a_llcm : PySem.W.nsIn K mainGlobals "_law_lcm" = some (some (.ref A_llcm))) (l_llcm : K.lookup A_llcm = some ⟨oc_llcm, od_llcm, .func (PySem.W.fnOf "_law_lcm" "_law_lcm" (defArgs s_llcm) (defBody s_llcm) (defScope s_llcm) .none kV_llcm doc_llcm pm_llcm an_llcm cdv_llcm ct_llcm), sl_llcm⟩) (c_llcm : PySem.W.codeIn K cdv_llcm "_law_lcm" = true) (k_llcm : PySem.W.keepIn K (.ref A_llcm) = true) (a_leaf : PySem.W.nsIn K mainGlobals "_law_leaf" = some (some (.ref A_leaf))) (l_leaf : K.lookup A_leaf = some ⟨oc_leaf, od_leaf, .func (PySem.W.fnOf "_law_leaf" "_law_leaf" (defArgs s_leaf) (defBody s_leaf) (defScope s_leaf) .none kV_leaf doc_leaf pm_leaf an_leaf cdv_leaf ct_leaf), sl_leaf⟩) (c_leaf : PySem.W.codeIn K cdv_leaf "_law_leaf" = true) (k_leaf : PySem.W.keepIn K (.ref A_leaf) = true) (a_ljoined : PySem.W.nsIn K mainGlobals "_law_joined" = some (some (.ref A_ljoined))) (l_ljoined : K.lookup A_ljoined = some ⟨oc_ljoined, od_ljoined, .func (PySem.W.fnOf "_law_joined" "_law_joined" (defArgs s_ljoined) (defBody s_ljoined) (defScope s_ljoined) .none kV_ljoined doc_ljoined pm_ljoined an_ljoined cdv_ljoined ct_ljoined), sl_ljoined⟩) (c_ljoined : PySem.W.codeIn K cdv_ljoined "_law_joined" = true) (k_ljoined : PySem.W.keepIn K (.ref A_ljoined) = true) (a_plan : PySem.W.nsIn K mainGlobals "_law_plan" = some (some (.ref A_plan))) (l_plan : K.lookup A_plan = some ⟨oc_plan, od_plan, .func (PySem.W.fnOf "_law_plan" "_law_plan" (defArgs s_plan) (defBody s_plan) (defScope s_plan) .none kV_plan doc_plan pm_plan an_plan cdv_plan ct_plan), sl_plan⟩) (c_plan : PySem.W.codeIn K cdv_plan "_law_plan" = true) (k_plan : PySem.W.keepIn K (.ref A_plan) = true) (a_at : PySem.W.nsIn K mainGlobals "_law_at" = some (some (.ref A_at))) (l_at : K.lookup A_at = some ⟨oc_at, od_at, .func (PySem.W.fnOf "_law_at" "_law_at" (defArgs s_at) (defBody s_at) (defScope s_at) .none kV_at doc_at pm_at an_at cdv_at ct_at), sl_at⟩) (c_at : PySem.W.codeIn K cdv_at "_law_at" = true) (k_at : PySem.W.keepIn K (.ref A_at) = true) (a_made : PySem.W.nsIn K mainGlobals "_law_made" = some (some (.ref A_made))) (l_made : K.lookup A_made = some ⟨oc_made, od_made, .func (PySem.W.fnOf "_law_made" "_law_made" (defArgs s_made) (defBody s_made) (defScope s_made) .none kV_made doc_made pm_made an_made cdv_made ct_made), sl_made⟩) (c_made : PySem.W.codeIn K cdv_made "_law_made" = true) (k_made : PySem.W.keepIn K (.ref A_made) = true) (a_items : PySem.W.nsIn K mainGlobals "_law_items" = some (some (.ref A_items))) (l_items : K.lookup A_items = some ⟨oc_items, od_items, .func (PySem.W.fnOf "_law_items" "_law_items" (defArgs s_items) (defBody s_items) (defScope s_items) .none kV_items doc_items pm_items an_items cdv_items ct_items), sl_items⟩) (c_items : PySem.W.codeIn K cdv_items "_law_items" = true) (k_items : PySem.W.keepIn K (.ref A_items) = true) (a_sum : PySem.W.nsIn K mainGlobals "_law_sum" = some (some (.ref A_sum))) (l_sum : K.lookup A_sum = some ⟨oc_sum, od_sum, .func (PySem.W.fnOf "_law_sum" "_law_sum" (defArgs s_sum) (defBody s_sum) (defScope s_sum) .none kV_sum doc_sum pm_sum an_sum cdv_sum ct_sum), sl_sum⟩) (c_sum : PySem.W.codeIn K cdv_sum "_law_sum" = true) (k_sum : PySem.W.keepIn K (.ref A_sum) = true) (a_due : PySem.W.nsIn K mainGlobals "_law_due" = some (some (.ref A_due))) (l_due : K.lookup A_due = some ⟨oc_due, od_due, .func (PySem.W.fnOf "_law_due" "_law_due" (defArgs s_due) (defBody s_due) (defScope s_due) .none kV_due doc_due pm_due an_due cdv_due ct_due), sl_due⟩) (c_due : PySem.W.codeIn K cdv_due "_law_due" = true) (k_due : PySem.W.keepIn K (.ref A_due) = true) (a_greatest : PySem.W.nsIn K mainGlobals "_law_greatest" = some (some (.ref A_greatest))) (l_greatest : K.lookup A_greatest = some ⟨oc_greatest, od_greatest, .func (PySem.W.fnOf "_law_greatest" "_law_greatest" (defArgs s_greatest) (defBody s_greatest) (defScope s_greatest) .none kV_greatest doc_greatest pm_greatest an_greatest cdv_greatest ct_greatest), sl_greatest⟩) (c_greatest : PySem.W.codeIn K cdv_greatest "_law_greatest" = true) (k_greatest : PySem.W.keepIn K (.ref A_greatest) = true) (a_within_so : PySem.W.nsIn K mainGlobals "_law_within_so" = some (some (.ref A_within_so))) (l_within_so : K.lookup A_within_so = some ⟨oc_within_so, od_within_so, .func (PySem.W.fnOf "_law_within_so" "_law_within_so" (defArgs s_within_so) (defBody s_within_so) (defScope s_within_so) .none kV_within_so doc_within_so pm_within_so an_within_so cdv_within_so ct_within_so), sl_within_so⟩) (c_within_so : PySem.W.codeIn K cdv_within_so "_law_within_so" = true) (k_within_so : PySem.W.keepIn K (.ref A_within_so) = true) (a_so : PySem.W.nsIn K mainGlobals "_law_so" = some (some (.ref A_so))) (l_so : K.lookup A_so = some ⟨oc_so, od_so, .func (PySem.W.fnOf "_law_so" "_law_so" (defArgs s_so) (defBody s_so) (defScope s_so) .none kV_so doc_so pm_so an_so cdv_so ct_so), sl_so⟩) (c_so : PySem.W.codeIn K cdv_so "_law_so" = true) (k_so : PySem.W.keepIn K (.ref A_so) = true) (a_law : PySem.W.nsIn K mainGlobals "law" = some (some (.ref A_law))) (l_law : K.lookup A_law = some ⟨oc_law, od_law, .func (PySem.W.fnOf "law" "law" (defArgs s_law) (defBody s_law) (defScope s_law) .none kV_law doc_law pm_law an_law cdv_law ct_law), sl_law⟩) (c_law : PySem.W.codeIn K cdv_law "law" = true) (k_law : PySem.W.keepIn K (.ref A_law) = true) (top_super : (P.main.scope.names.lookup ("super" : Str)).isSome = false) (st_thirdparty : PySem.W.nsIn K cStatics "thirdparty.any" = some none) (z_int : PySem.W.nsIn K mainGlobals "int" = some none) (z_len : PySem.W.nsIn K mainGlobals "len" = some none) (z_list : PySem.W.nsIn K mainGlobals "list" = some none) (z_isinstance : PySem.W.nsIn K mainGlobals "isinstance" = some none) (z_bool : PySem.W.nsIn K mainGlobals "bool" = some none) (z_max : PySem.W.nsIn K mainGlobals "max" = some none) (z_str : PySem.W.nsIn K mainGlobals "str" = some none) (z_enumerate : PySem.W.nsIn K mainGlobals "enumerate" = some none) (z_tuple : PySem.W.nsIn K mainGlobals "tuple" = some none) (z_min : PySem.W.nsIn K mainGlobals "min" = some none) (z_range : PySem.W.nsIn K mainGlobals "range" = some none) (z_sorted : PySem.W.nsIn K mainGlobals "sorted" = some none) (z_dict : PySem.W.nsIn K mainGlobals "dict" = some none) (z_all : PySem.W.nsIn K mainGlobals "all" = some none) (z_zip : PySem.W.nsIn K mainGlobals "zip" = some none) (z_sum : PySem.W.nsIn K mainGlobals "sum" = some none) (z_super : PySem.W.nsIn K mainGlobals "super" = some none) (ac_PERIOD : PySem.W.nsIn K mainGlobals "PERIOD" = some (some (.int 2000 t_PERIOD))) (ab_lcm : PySem.W.nsIn K mainGlobals "lcm" = some (some (.builtin "math.lcm"))) (ac_FORMS : PySem.W.nsIn K mainGlobals "FORMS" = some (some (.int 6 t_FORMS))) (ac_BORDERS : PySem.W.nsIn K mainGlobals "BORDERS" = some (some (.int 12 t_BORDERS))) (ac_LETTERS : PySem.W.nsIn K mainGlobals "LETTERS" = some (some (.str "abcdefghijklmnopqrstuvwxyz" t_LETTERS))) (ac_DIGITS : PySem.W.nsIn K mainGlobals "DIGITS" = some (some (.str "0123456789" t_DIGITS))) (pg_Window : PySem.W.plainGet K C_Window Str.empty = true) (hd_Window : PySem.W.hasDictIn K C_Window = true) (po_Window : PySem.W.plainOver K C_Window = true) (sa_Window : PySem.W.findIn K (.ref C_Window) "__setattr__" = some (some (.builtin "object.__setattr__"))) (mk_Window : PySem.W.makesIn K C_Window = true) (kc_Window : PySem.W.keepIn K (.ref C_Window) = true) (th_Window : PySem.W.findIn K (.ref C_Window) "__class__" = some (some (.builtin "object.__class__"))) (tn_Window : PySem.W.specialIn K (.builtin "object.__class__") "__get__" = some (some (.builtin "getset_descriptor.__get__"))) (tk_Window : PySem.W.takesIn K (.builtin "object.__class__") = some true) (tm_Window : PySem.W.mroIn K C_Window (.type "object") = some true) (kt_Window_Rest : PySem.W.kitOne K (.ref C_Window) (.ref C_Rest) = some true) (su_Window : PySem.W.mroIn K C_Window (.ref C_Window) = some true) (sm_Window : PySem.W.ks_superIn K C_Window C_Window "__init__" = some (some (.ref A_Rest_init))) (sf_Window : PySem.W.fnIn K A_Rest_init = true) (st_Window : PySem.W.typeIn K (.ref A_Rest_init) = some (.type "function")) (no_Window_text : PySem.W.findIn K (.ref C_Window) "_text" = some none) (no_Window_forms : PySem.W.findIn K (.ref C_Window) "_forms" = some none) (no_Window_period : PySem.W.findIn K (.ref C_Window) "_period" = some none) (no_Window_bend : PySem.W.findIn K (.ref C_Window) "_bend" = some none) (no_Window_width : PySem.W.findIn K (.ref C_Window) "width" = some none) (me_Window_after : PySem.W.findIn K (.ref C_Window) "_after" = some (some (.ref A_Window_after))) (mi_Window_after : PySem.W.isFn K (.ref A_Window_after) = true) (me_Window_forms : PySem.W.findIn K (.ref C_Window) "forms" = some (some (.ref A_Rest_forms))) (mi_Window_forms : PySem.W.isFn K (.ref A_Rest_forms) = true) (me_Window_period : PySem.W.findIn K (.ref C_Window) "period" = some (some (.ref A_Rest_period))) (mi_Window_period : PySem.W.isFn K (.ref A_Rest_period) = true) (me_Window_bend : PySem.W.findIn K (.ref C_Window) "bend" = some (some (.ref A_Rest_bend))) (mi_Window_bend : PySem.W.isFn K (.ref A_Rest_bend) = true) (me_Window_written : PySem.W.findIn K (.ref C_Window) "written" = some (some (.ref A_Rest_written))) (mi_Window_written : PySem.W.isFn K (.ref A_Rest_written) = true) (co_Window : PySem.W.findIn K (.ref C_Window) "__call__" = some (some (.ref A_Rest_call))) (ci_Window : PySem.W.isFn K (.ref A_Rest_call) = true) (cf_Window : PySem.W.fnIn K A_Rest_call = true) (pg_Days : PySem.W.plainGet K C_Days Str.empty = true) (hd_Days : PySem.W.hasDictIn K C_Days = true) (po_Days : PySem.W.plainOver K C_Days = true) (sa_Days : PySem.W.findIn K (.ref C_Days) "__setattr__" = some (some (.builtin "object.__setattr__"))) (mk_Days : PySem.W.makesIn K C_Days = true) (kc_Days : PySem.W.keepIn K (.ref C_Days) = true) (th_Days : PySem.W.findIn K (.ref C_Days) "__class__" = some (some (.builtin "object.__class__"))) (tn_Days : PySem.W.specialIn K (.builtin "object.__class__") "__get__" = some (some (.builtin "getset_descriptor.__get__"))) (tk_Days : PySem.W.takesIn K (.builtin "object.__class__") = some true) (tm_Days : PySem.W.mroIn K C_Days (.type "object") = some true) (kt_Days_Rest : PySem.W.kitOne K (.ref C_Days) (.ref C_Rest) = some true) (su_Days : PySem.W.mroIn K C_Days (.ref C_Days) = some true) (sm_Days : PySem.W.ks_superIn K C_Days C_Days "__init__" = some (some (.ref A_Rest_init))) (sf_Days : PySem.W.fnIn K A_Rest_init = true) (st_Days : PySem.W.typeIn K (.ref A_Rest_init) = some (.type "function")) (no_Days_text : PySem.W.findIn K (.ref C_Days) "_text" = some none) (no_Days_forms : PySem.W.findIn K (.ref C_Days) "_forms" = some none) (no_Days_period : PySem.W.findIn K (.ref C_Days) "_period" = some none) (no_Days_bend : PySem.W.findIn K (.ref C_Days) "_bend" = some none) (no_Days_every : PySem.W.findIn K (.ref C_Days) "every" = some none) (no_Days_borders : PySem.W.findIn K (.ref C_Days) "_borders" = some none) (me_Days_after : PySem.W.findIn K (.ref C_Days) "_after" = some (some (.ref A_Days_after))) (mi_Days_after : PySem.W.isFn K (.ref A_Days_after) = true) (me_Days_forms : PySem.W.findIn K (.ref C_Days) "forms" = some (some (.ref A_Rest_forms))) (mi_Days_forms : PySem.W.isFn K (.ref A_Rest_forms) = true) (me_Days_period : PySem.W.findIn K (.ref C_Days) "period" = some (some (.ref A_Rest_period))) (mi_Days_period : PySem.W.isFn K (.ref A_Rest_period) = true) (me_Days_bend : PySem.W.findIn K (.ref C_Days) "bend" = some (some (.ref A_Rest_bend))) (mi_Days_bend : PySem.W.isFn K (.ref A_Rest_bend) = true) (me_Days_written : PySem.W.findIn K (.ref C_Days) "written" = some (some (.ref A_Rest_written))) (mi_Days_written : PySem.W.isFn K (.ref A_Rest_written) = true) (co_Days : PySem.W.findIn K (.ref C_Days) "__call__" = some (some (.ref A_Rest_call))) (ci_Days : PySem.W.isFn K (.ref A_Rest_call) = true) (cf_Days : PySem.W.fnIn K A_Rest_call = true) (pg_Later : PySem.W.plainGet K C_Later Str.empty = true) (hd_Later : PySem.W.hasDictIn K C_Later = true) (po_Later : PySem.W.plainOver K C_Later = true) (sa_Later : PySem.W.findIn K (.ref C_Later) "__setattr__" = some (some (.builtin "object.__setattr__"))) (mk_Later : PySem.W.makesIn K C_Later = true) (kc_Later : PySem.W.keepIn K (.ref C_Later) = true) (th_Later : PySem.W.findIn K (.ref C_Later) "__class__" = some (some (.builtin "object.__class__"))) (tn_Later : PySem.W.specialIn K (.builtin "object.__class__") "__get__" = some (some (.builtin "getset_descriptor.__get__"))) (tk_Later : PySem.W.takesIn K (.builtin "object.__class__") = some true) (tm_Later : PySem.W.mroIn K C_Later (.type "object") = some true) (kt_Later_Rest : PySem.W.kitOne K (.ref C_Later) (.ref C_Rest) = some true) (su_Later : PySem.W.mroIn K C_Later (.ref C_Later) = some true) (sm_Later : PySem.W.ks_superIn K C_Later C_Later "__init__" = some (some (.ref A_Rest_init))) (sf_Later : PySem.W.fnIn K A_Rest_init = true) (st_Later : PySem.W.typeIn K (.ref A_Rest_init) = some (.type "function")) (no_Later_text : PySem.W.findIn K (.ref C_Later) "_text" = some none) (no_Later_forms : PySem.W.findIn K (.ref C_Later) "_forms" = some none) (no_Later_period : PySem.W.findIn K (.ref C_Later) "_period" = some none) (no_Later_bend : PySem.W.findIn K (.ref C_Later) "_bend" = some none) (no_Later_first : PySem.W.findIn K (.ref C_Later) "first" = some none) (no_Later_second : PySem.W.findIn K (.ref C_Later) "second" = some none) (me_Later_after : PySem.W.findIn K (.ref C_Later) "_after" = some (some (.ref A_Later_after))) (mi_Later_after : PySem.W.isFn K (.ref A_Later_after) = true) (me_Later_forms : PySem.W.findIn K (.ref C_Later) "forms" = some (some (.ref A_Rest_forms))) (mi_Later_forms : PySem.W.isFn K (.ref A_Rest_forms) = true) (me_Later_period : PySem.W.findIn K (.ref C_Later) "period" = some (some (.ref A_Rest_period))) (mi_Later_period : PySem.W.isFn K (.ref A_Rest_period) = true) (me_Later_bend : PySem.W.findIn K (.ref C_Later) "bend" = some (some (.ref A_Rest_bend))) (mi_Later_bend : PySem.W.isFn K (.ref A_Rest_bend) = true) (me_Later_written : PySem.W.findIn K (.ref C_Later) "written" = some (some (.ref A_Rest_written))) (mi_Later_written : PySem.W.isFn K (.ref A_Rest_written) = true) (co_Later : PySem.W.findIn K (.ref C_Later) "__call__" = some (some (.ref A_Rest_call))) (ci_Later : PySem.W.isFn K (.ref A_Rest_call) = true) (cf_Later : PySem.W.fnIn K A_Rest_call = true) (pg_Sooner : PySem.W.plainGet K C_Sooner Str.empty = true) (hd_Sooner : PySem.W.hasDictIn K C_Sooner = true) (po_Sooner : PySem.W.plainOver K C_Sooner = true) (sa_Sooner : PySem.W.findIn K (.ref C_Sooner) "__setattr__" = some (some (.builtin "object.__setattr__"))) (mk_Sooner : PySem.W.makesIn K C_Sooner = true) (kc_Sooner : PySem.W.keepIn K (.ref C_Sooner) = true) (th_Sooner : PySem.W.findIn K (.ref C_Sooner) "__class__" = some (some (.builtin "object.__class__"))) (tn_Sooner : PySem.W.specialIn K (.builtin "object.__class__") "__get__" = some (some (.builtin "getset_descriptor.__get__"))) (tk_Sooner : PySem.W.takesIn K (.builtin "object.__class__") = some true) (tm_Sooner : PySem.W.mroIn K C_Sooner (.type "object") = some true) (kt_Sooner_Rest : PySem.W.kitOne K (.ref C_Sooner) (.ref C_Rest) = some true) (su_Sooner : PySem.W.mroIn K C_Sooner (.ref C_Sooner) = some true) (sm_Sooner : PySem.W.ks_superIn K C_Sooner C_Sooner "__init__" = some (some (.ref A_Rest_init))) (sf_Sooner : PySem.W.fnIn K A_Rest_init = true) (st_Sooner : PySem.W.typeIn K (.ref A_Rest_init) = some (.type "function")) (no_Sooner_text : PySem.W.findIn K (.ref C_Sooner) "_text" = some none) (no_Sooner_forms : PySem.W.findIn K (.ref C_Sooner) "_forms" = some none) (no_Sooner_period : PySem.W.findIn K (.ref C_Sooner) "_period" = some none) (no_Sooner_bend : PySem.W.findIn K (.ref C_Sooner) "_bend" = some none) (no_Sooner_first : PySem.W.findIn K (.ref C_Sooner) "first" = some none) (no_Sooner_second : PySem.W.findIn K (.ref C_Sooner) "second" = some none) (me_Sooner_after : PySem.W.findIn K (.ref C_Sooner) "_after" = some (some (.ref A_Sooner_after))) (mi_Sooner_after : PySem.W.isFn K (.ref A_Sooner_after) = true) (me_Sooner_forms : PySem.W.findIn K (.ref C_Sooner) "forms" = some (some (.ref A_Rest_forms))) (mi_Sooner_forms : PySem.W.isFn K (.ref A_Rest_forms) = true) (me_Sooner_period : PySem.W.findIn K (.ref C_Sooner) "period" = some (some (.ref A_Rest_period))) (mi_Sooner_period : PySem.W.isFn K (.ref A_Rest_period) = true) (me_Sooner_bend : PySem.W.findIn K (.ref C_Sooner) "bend" = some (some (.ref A_Rest_bend))) (mi_Sooner_bend : PySem.W.isFn K (.ref A_Rest_bend) = true) (me_Sooner_written : PySem.W.findIn K (.ref C_Sooner) "written" = some (some (.ref A_Rest_written))) (mi_Sooner_written : PySem.W.isFn K (.ref A_Rest_written) = true) (co_Sooner : PySem.W.findIn K (.ref C_Sooner) "__call__" = some (some (.ref A_Rest_call))) (ci_Sooner : PySem.W.isFn K (.ref A_Rest_call) = true) (cf_Sooner : PySem.W.fnIn K A_Rest_call = true) (pg_Next : PySem.W.plainGet K C_Next Str.empty = true) (hd_Next : PySem.W.hasDictIn K C_Next = true) (po_Next : PySem.W.plainOver K C_Next = true) (sa_Next : PySem.W.findIn K (.ref C_Next) "__setattr__" = some (some (.builtin "object.__setattr__"))) (mk_Next : PySem.W.makesIn K C_Next = true) (kc_Next : PySem.W.keepIn K (.ref C_Next) = true) (th_Next : PySem.W.findIn K (.ref C_Next) "__class__" = some (some (.builtin "object.__class__"))) (tn_Next : PySem.W.specialIn K (.builtin "object.__class__") "__get__" = some (some (.builtin "getset_descriptor.__get__"))) (tk_Next : PySem.W.takesIn K (.builtin "object.__class__") = some true) (tm_Next : PySem.W.mroIn K C_Next (.type "object") = some true) (kt_Next_Rest : PySem.W.kitOne K (.ref C_Next) (.ref C_Rest) = some true) (su_Next : PySem.W.mroIn K C_Next (.ref C_Next) = some true) (sm_Next : PySem.W.ks_superIn K C_Next C_Next "__init__" = some (some (.ref A_Rest_init))) (sf_Next : PySem.W.fnIn K A_Rest_init = true) (st_Next : PySem.W.typeIn K (.ref A_Rest_init) = some (.type "function")) (no_Next_text : PySem.W.findIn K (.ref C_Next) "_text" = some none) (no_Next_forms : PySem.W.findIn K (.ref C_Next) "_forms" = some none) (no_Next_period : PySem.W.findIn K (.ref C_Next) "_period" = some none) (no_Next_bend : PySem.W.findIn K (.ref C_Next) "_bend" = some none) (no_Next_first : PySem.W.findIn K (.ref C_Next) "first" = some none) (no_Next_second : PySem.W.findIn K (.ref C_Next) "second" = some none) (me_Next_after : PySem.W.findIn K (.ref C_Next) "_after" = some (some (.ref A_Next_after))) (mi_Next_after : PySem.W.isFn K (.ref A_Next_after) = true) (me_Next_forms : PySem.W.findIn K (.ref C_Next) "forms" = some (some (.ref A_Rest_forms))) (mi_Next_forms : PySem.W.isFn K (.ref A_Rest_forms) = true) (me_Next_period : PySem.W.findIn K (.ref C_Next) "period" = some (some (.ref A_Rest_period))) (mi_Next_period : PySem.W.isFn K (.ref A_Rest_period) = true) (me_Next_bend : PySem.W.findIn K (.ref C_Next) "bend" = some (some (.ref A_Rest_bend))) (mi_Next_bend : PySem.W.isFn K (.ref A_Rest_bend) = true) (me_Next_written : PySem.W.findIn K (.ref C_Next) "written" = some (some (.ref A_Rest_written))) (mi_Next_written : PySem.W.isFn K (.ref A_Rest_written) = true) (co_Next : PySem.W.findIn K (.ref C_Next) "__call__" = some (some (.ref A_Rest_call))) (ci_Next : PySem.W.isFn K (.ref A_Rest_call) = true) (cf_Next : PySem.W.fnIn K A_Rest_call = true) (pg_Rule : PySem.W.plainGet K C_Rule Str.empty = true) (hd_Rule : PySem.W.hasDictIn K C_Rule = true) (po_Rule : PySem.W.plainOver K C_Rule = true) (sa_Rule : PySem.W.findIn K (.ref C_Rule) "__setattr__" = some (some (.builtin "object.__setattr__"))) (mk_Rule : PySem.W.makesIn K C_Rule = true) (kc_Rule : PySem.W.keepIn K (.ref C_Rule) = true) (no_Rule_name : PySem.W.findIn K (.ref C_Rule) "name" = some none) (no_Rule_chips : PySem.W.findIn K (.ref C_Rule) "chips" = some none) (no_Rule_rest : PySem.W.findIn K (.ref C_Rule) "rest" = some none) :
    ∃ fd : FuncData, (∀ (s : Shared) (v : Value), BindsTo s fd ⟨[v], []⟩ [("_law_script", v)]) ∧ ∀ base : Heap, K.In base → base.Ns mainGlobals mg → FnOk P w K mg base CX0 20 fa fd ["_law_script"] (spLaw K) := by
  have e := hfa.symm.trans (PySem.W.mg_of X G a_law)
  cases e
  exact ⟨_, fun s v => .of_eq rfl, fun base _ _ => ok_law (tx_mk X G aC_Rest aC_Window aC_Days aC_Later aC_Sooner aC_Next aC_Rule a_is_number l_is_number c_is_number k_is_number a_is_name l_is_name c_is_name k_is_name a_Rest_init i_Rest_init l_Rest_init c_Rest_init k_Rest_init a_Rest_call i_Rest_call l_Rest_call c_Rest_call k_Rest_call a_Rest_forms i_Rest_forms l_Rest_forms c_Rest_forms k_Rest_forms a_Rest_period i_Rest_period l_Rest_period c_Rest_period k_Rest_period a_Rest_bend i_Rest_bend l_Rest_bend c_Rest_bend k_Rest_bend a_Rest_written i_Rest_written l_Rest_written c_Rest_written k_Rest_written a_Window_init i_Window_init l_Window_init c_Window_init k_Window_init cell_Window_init code_Window_init vs_Window_init fl_Window_init cd_Window_init a_Window_after i_Window_after l_Window_after c_Window_after k_Window_after a_Days_init i_Days_init l_Days_init c_Days_init k_Days_init cell_Days_init code_Days_init vs_Days_init fl_Days_init cd_Days_init a_Days_after i_Days_after l_Days_after c_Days_after k_Days_after a_joined l_joined c_joined k_joined a_Later_init i_Later_init l_Later_init c_Later_init k_Later_init cell_Later_init code_Later_init vs_Later_init fl_Later_init cd_Later_init a_Later_after i_Later_after l_Later_after c_Later_after k_Later_after a_Sooner_init i_Sooner_init l_Sooner_init c_Sooner_init k_Sooner_init cell_Sooner_init code_Sooner_init vs_Sooner_init fl_Sooner_init cd_Sooner_init a_Sooner_after i_Sooner_after l_Sooner_after c_Sooner_after k_Sooner_after a_Next_init i_Next_init l_Next_init c_Next_init k_Next_init cell_Next_init code_Next_init vs_Next_init fl_Next_init cd_Next_init a_Next_after i_Next_after l_Next_after c_Next_after k_Next_after a_Rule_init i_Rule_init l_Rule_init c_Rule_init k_Rule_init a_fullest l_fullest c_fullest k_fullest a_is_within l_is_within c_is_within k_is_within a_bag l_bag c_bag k_bag a_draw l_draw c_draw k_draw a_of l_of c_of k_of a_like l_like c_like k_like a_llcm l_llcm c_llcm k_llcm a_leaf l_leaf c_leaf k_leaf a_ljoined l_ljoined c_ljoined k_ljoined a_plan l_plan c_plan k_plan a_at l_at c_at k_at a_made l_made c_made k_made a_items l_items c_items k_items a_sum l_sum c_sum k_sum a_due l_due c_due k_due a_greatest l_greatest c_greatest k_greatest a_within_so l_within_so c_within_so k_within_so a_so l_so c_so k_so a_law l_law c_law k_law top_super st_thirdparty z_int z_len z_list z_isinstance z_bool z_max z_str z_enumerate z_tuple z_min z_range z_sorted z_dict z_all z_zip z_sum z_super ac_PERIOD ab_lcm ac_FORMS ac_BORDERS ac_LETTERS ac_DIGITS pg_Window hd_Window po_Window sa_Window mk_Window kc_Window th_Window tn_Window tk_Window tm_Window kt_Window_Rest su_Window sm_Window sf_Window st_Window no_Window_text no_Window_forms no_Window_period no_Window_bend no_Window_width me_Window_after mi_Window_after me_Window_forms mi_Window_forms me_Window_period mi_Window_period me_Window_bend mi_Window_bend me_Window_written mi_Window_written co_Window ci_Window cf_Window pg_Days hd_Days po_Days sa_Days mk_Days kc_Days th_Days tn_Days tk_Days tm_Days kt_Days_Rest su_Days sm_Days sf_Days st_Days no_Days_text no_Days_forms no_Days_period no_Days_bend no_Days_every no_Days_borders me_Days_after mi_Days_after me_Days_forms mi_Days_forms me_Days_period mi_Days_period me_Days_bend mi_Days_bend me_Days_written mi_Days_written co_Days ci_Days cf_Days pg_Later hd_Later po_Later sa_Later mk_Later kc_Later th_Later tn_Later tk_Later tm_Later kt_Later_Rest su_Later sm_Later sf_Later st_Later no_Later_text no_Later_forms no_Later_period no_Later_bend no_Later_first no_Later_second me_Later_after mi_Later_after me_Later_forms mi_Later_forms me_Later_period mi_Later_period me_Later_bend mi_Later_bend me_Later_written mi_Later_written co_Later ci_Later cf_Later pg_Sooner hd_Sooner po_Sooner sa_Sooner mk_Sooner kc_Sooner th_Sooner tn_Sooner tk_Sooner tm_Sooner kt_Sooner_Rest su_Sooner sm_Sooner sf_Sooner st_Sooner no_Sooner_text no_Sooner_forms no_Sooner_period no_Sooner_bend no_Sooner_first no_Sooner_second me_Sooner_after mi_Sooner_after me_Sooner_forms mi_Sooner_forms me_Sooner_period mi_Sooner_period me_Sooner_bend mi_Sooner_bend me_Sooner_written mi_Sooner_written co_Sooner ci_Sooner cf_Sooner pg_Next hd_Next po_Next sa_Next mk_Next kc_Next th_Next tn_Next tk_Next tm_Next kt_Next_Rest su_Next sm_Next sf_Next st_Next no_Next_text no_Next_forms no_Next_period no_Next_bend no_Next_first no_Next_second me_Next_after mi_Next_after me_Next_forms mi_Next_forms me_Next_period mi_Next_period me_Next_bend mi_Next_bend me_Next_written mi_Next_written co_Next ci_Next cf_Next pg_Rule hd_Rule po_Rule sa_Rule mk_Rule kc_Rule no_Rule_name no_Rule_chips no_Rule_rest)⟩
theorem walk {q : Program} {loose : List Str} {XP : (Str → Option Value) → Heap → Prop} {YP : World → Heap → Prop} {d : DefRec} {K : Params → PySem.W.Frag} (hn : PySem.Challenge.rw_surelet_k07_whole_fullest_stretches.most = some 63) (hdf : d.params.defaults = [])
    (hY : ∀ (w : World) (h : Heap), YP w h → (K w.params).In h)
    (F : ∀ (w : World) (mg : Str → Option Value) (fa : Addr) (h : Heap), (K w.params).In h → h.Ns mainGlobals mg → mg d.name = some (.ref fa) →
      ∃ fd : FuncData, (∀ (s : Shared) (u : Value), BindsTo s fd ⟨[u], []⟩ [("_law_script", u)]) ∧ ∀ base : Heap, (K w.params).In base → base.Ns mainGlobals mg → FnOk P w (K w.params) mg base CX0 20 fa fd ["_law_script"] (spLaw (K w.params))) :
    PySem.W.WalkO q loose XP YP PySem.Challenge.rw_surelet_k07_whole_fullest_stretches.row.toRowW d [] (fun f vs => PySem.call f vs) :=
  L2.walk_of (l := PySem.Challenge.rw_surelet_k07_whole_fullest_stretches) (n := 63) (k := 20) (x := "_law_script") (CX := fun _ => CX0) (sp := fun w => spLaw (K w.params)) hn (by decide) hdf ⟨rfl, by decide, by decide⟩ hY F (fun _ _ a ns hl _ hS => ⟨a, ns, rfl, hS, hl, fun _ => rfl⟩) fun _ _ _ _ _ z => z
end Law

open PySem PySem.W PyProof.Rows in
set_option maxRecDepth 100000 in
set_option maxHeartbeats 0 in
theorem PySem.Challenge.cw_surelet_k07_whole_fullest_stretches_holds : PySem.Challenge.rw_surelet_k07_whole_fullest_stretches.Holds := by
  w_on; o_law; k_head; (case hw => w_witness2)
  k_fill
  refine Law.walk rfl rfl (fun w h Y => PySem.W.kIn_of Y) ?F
  case F =>
    intro w mg fa h KX G hmg
    refine' Law.all_mk KX G hmg ?aC_Rest ?aC_Window ?aC_Days ?aC_Later ?aC_Sooner ?aC_Next ?aC_Rule ?a_is_number ?l_is_number ?c_is_number ?k_is_number ?a_is_name ?l_is_name ?c_is_name ?k_is_name ?a_Rest_init ?i_Rest_init ?l_Rest_init ?c_Rest_init ?k_Rest_init ?a_Rest_call ?i_Rest_call ?l_Rest_call ?c_Rest_call ?k_Rest_call ?a_Rest_forms ?i_Rest_forms ?l_Rest_forms ?c_Rest_forms ?k_Rest_forms ?a_Rest_period ?i_Rest_period ?l_Rest_period ?c_Rest_period ?k_Rest_period ?a_Rest_bend ?i_Rest_bend ?l_Rest_bend ?c_Rest_bend ?k_Rest_bend ?a_Rest_written ?i_Rest_written ?l_Rest_written ?c_Rest_written ?k_Rest_written ?a_Window_init ?i_Window_init ?l_Window_init ?c_Window_init ?k_Window_init ?cell_Window_init ?code_Window_init ?vs_Window_init ?fl_Window_init ?cd_Window_init ?a_Window_after ?i_Window_after ?l_Window_after ?c_Window_after ?k_Window_after ?a_Days_init ?i_Days_init ?l_Days_init ?c_Days_init ?k_Days_init ?cell_Days_init ?code_Days_init ?vs_Days_init ?fl_Days_init ?cd_Days_init ?a_Days_after ?i_Days_after ?l_Days_after ?c_Days_after ?k_Days_after ?a_joined ?l_joined ?c_joined ?k_joined ?a_Later_init ?i_Later_init ?l_Later_init ?c_Later_init ?k_Later_init ?cell_Later_init ?code_Later_init ?vs_Later_init ?fl_Later_init ?cd_Later_init ?a_Later_after ?i_Later_after ?l_Later_after ?c_Later_after ?k_Later_after ?a_Sooner_init ?i_Sooner_init ?l_Sooner_init ?c_Sooner_init ?k_Sooner_init ?cell_Sooner_init ?code_Sooner_init ?vs_Sooner_init ?fl_Sooner_init ?cd_Sooner_init ?a_Sooner_after ?i_Sooner_after ?l_Sooner_after ?c_Sooner_after ?k_Sooner_after ?a_Next_init ?i_Next_init ?l_Next_init ?c_Next_init ?k_Next_init ?cell_Next_init ?code_Next_init ?vs_Next_init ?fl_Next_init ?cd_Next_init ?a_Next_after ?i_Next_after ?l_Next_after ?c_Next_after ?k_Next_after ?a_Rule_init ?i_Rule_init ?l_Rule_init ?c_Rule_init ?k_Rule_init ?a_fullest ?l_fullest ?c_fullest ?k_fullest ?a_is_within ?l_is_within ?c_is_within ?k_is_within ?a_bag ?l_bag ?c_bag ?k_bag ?a_draw ?l_draw ?c_draw ?k_draw ?a_of ?l_of ?c_of ?k_of ?a_like ?l_like ?c_like ?k_like ?a_llcm ?l_llcm ?c_llcm ?k_llcm ?a_leaf ?l_leaf ?c_leaf ?k_leaf ?a_ljoined ?l_ljoined ?c_ljoined ?k_ljoined ?a_plan ?l_plan ?c_plan ?k_plan ?a_at ?l_at ?c_at ?k_at ?a_made ?l_made ?c_made ?k_made ?a_items ?l_items ?c_items ?k_items ?a_sum ?l_sum ?c_sum ?k_sum ?a_due ?l_due ?c_due ?k_due ?a_greatest ?l_greatest ?c_greatest ?k_greatest ?a_within_so ?l_within_so ?c_within_so ?k_within_so ?a_so ?l_so ?c_so ?k_so ?a_law ?l_law ?c_law ?k_law ?top_super ?st_thirdparty ?z_int ?z_len ?z_list ?z_isinstance ?z_bool ?z_max ?z_str ?z_enumerate ?z_tuple ?z_min ?z_range ?z_sorted ?z_dict ?z_all ?z_zip ?z_sum ?z_super ?ac_PERIOD ?ab_lcm ?ac_FORMS ?ac_BORDERS ?ac_LETTERS ?ac_DIGITS ?pg_Window ?hd_Window ?po_Window ?sa_Window ?mk_Window ?kc_Window ?th_Window ?tn_Window ?tk_Window ?tm_Window ?kt_Window_Rest ?su_Window ?sm_Window ?sf_Window ?st_Window ?no_Window_text ?no_Window_forms ?no_Window_period ?no_Window_bend ?no_Window_width ?me_Window_after ?mi_Window_after ?me_Window_forms ?mi_Window_forms ?me_Window_period ?mi_Window_period ?me_Window_bend ?mi_Window_bend ?me_Window_written ?mi_Window_written ?co_Window ?ci_Window ?cf_Window ?pg_Days ?hd_Days ?po_Days ?sa_Days ?mk_Days ?kc_Days ?th_Days ?tn_Days ?tk_Days ?tm_Days ?kt_Days_Rest ?su_Days ?sm_Days ?sf_Days ?st_Days ?no_Days_text ?no_Days_forms ?no_Days_period ?no_Days_bend ?no_Days_every ?no_Days_borders ?me_Days_after ?mi_Days_after ?me_Days_forms ?mi_Days_forms ?me_Days_period ?mi_Days_period ?me_Days_bend ?mi_Days_bend ?me_Days_written ?mi_Days_written ?co_Days ?ci_Days ?cf_Days ?pg_Later ?hd_Later ?po_Later ?sa_Later ?mk_Later ?kc_Later ?th_Later ?tn_Later ?tk_Later ?tm_Later ?kt_Later_Rest ?su_Later ?sm_Later ?sf_Later ?st_Later ?no_Later_text ?no_Later_forms ?no_Later_period ?no_Later_bend ?no_Later_first ?no_Later_second ?me_Later_after ?mi_Later_after ?me_Later_forms ?mi_Later_forms ?me_Later_period ?mi_Later_period ?me_Later_bend ?mi_Later_bend ?me_Later_written ?mi_Later_written ?co_Later ?ci_Later ?cf_Later ?pg_Sooner ?hd_Sooner ?po_Sooner ?sa_Sooner ?mk_Sooner ?kc_Sooner ?th_Sooner ?tn_Sooner ?tk_Sooner ?tm_Sooner ?kt_Sooner_Rest ?su_Sooner ?sm_Sooner ?sf_Sooner ?st_Sooner ?no_Sooner_text ?no_Sooner_forms ?no_Sooner_period ?no_Sooner_bend ?no_Sooner_first ?no_Sooner_second ?me_Sooner_after ?mi_Sooner_after ?me_Sooner_forms ?mi_Sooner_forms ?me_Sooner_period ?mi_Sooner_period ?me_Sooner_bend ?mi_Sooner_bend ?me_Sooner_written ?mi_Sooner_written ?co_Sooner ?ci_Sooner ?cf_Sooner ?pg_Next ?hd_Next ?po_Next ?sa_Next ?mk_Next ?kc_Next ?th_Next ?tn_Next ?tk_Next ?tm_Next ?kt_Next_Rest ?su_Next ?sm_Next ?sf_Next ?st_Next ?no_Next_text ?no_Next_forms ?no_Next_period ?no_Next_bend ?no_Next_first ?no_Next_second ?me_Next_after ?mi_Next_after ?me_Next_forms ?mi_Next_forms ?me_Next_period ?mi_Next_period ?me_Next_bend ?mi_Next_bend ?me_Next_written ?mi_Next_written ?co_Next ?ci_Next ?cf_Next ?pg_Rule ?hd_Rule ?po_Rule ?sa_Rule ?mk_Rule ?kc_Rule ?no_Rule_name ?no_Rule_chips ?no_Rule_rest
    (case aC_Rest => k_is)
    (case aC_Window => k_is)
    (case aC_Days => k_is)
    (case aC_Later => k_is)
    (case aC_Sooner => k_is)
    (case aC_Next => k_is)
    (case aC_Rule => k_is)
    (case a_is_number => k_is)
    (case l_is_number => k_is)
    (case c_is_number => k_is)
    (case k_is_number => k_is)
    (case a_is_name => k_is)
    (case l_is_name => k_is)
    (case c_is_name => k_is)
    (case k_is_name => k_is)
    (case a_Rest_init => k_is)
    (case i_Rest_init => k_is)
    (case l_Rest_init => k_is)
    (case c_Rest_init => k_is)
    (case k_Rest_init => k_is)
    (case a_Rest_call => k_is)
    (case i_Rest_call => k_is)
    (case l_Rest_call => k_is)
    (case c_Rest_call => k_is)
    (case k_Rest_call => k_is)
    (case a_Rest_forms => k_is)
    (case i_Rest_forms => k_is)
    (case l_Rest_forms => k_is)
    (case c_Rest_forms => k_is)
    (case k_Rest_forms => k_is)
    (case a_Rest_period => k_is)
    (case i_Rest_period => k_is)
    (case l_Rest_period => k_is)
    (case c_Rest_period => k_is)
    (case k_Rest_period => k_is)
    (case a_Rest_bend => k_is)
    (case i_Rest_bend => k_is)
    (case l_Rest_bend => k_is)
    (case c_Rest_bend => k_is)
    (case k_Rest_bend => k_is)
    (case a_Rest_written => k_is)
    (case i_Rest_written => k_is)
    (case l_Rest_written => k_is)
    (case c_Rest_written => k_is)
    (case k_Rest_written => k_is)
    (case a_Window_init => k_is)
    (case i_Window_init => k_is)
    (case l_Window_init => k_is)
    (case c_Window_init => k_is)
    (case k_Window_init => k_is)
    (case cell_Window_init => k_is)
    (case code_Window_init => k_is)
    (case vs_Window_init => exact rfl)
    (case fl_Window_init => decide +kernel)
    (case cd_Window_init => k_is)
    (case a_Window_after => k_is)
    (case i_Window_after => k_is)
    (case l_Window_after => k_is)
    (case c_Window_after => k_is)
    (case k_Window_after => k_is)
    (case a_Days_init => k_is)
    (case i_Days_init => k_is)
    (case l_Days_init => k_is)
    (case c_Days_init => k_is)
    (case k_Days_init => k_is)
    (case cell_Days_init => k_is)
    (case code_Days_init => k_is)
    (case vs_Days_init => exact rfl)
    (case fl_Days_init => decide +kernel)
    (case cd_Days_init => k_is)
    (case a_Days_after => k_is)
    (case i_Days_after => k_is)
    (case l_Days_after => k_is)
    (case c_Days_after => k_is)
    (case k_Days_after => k_is)
    (case a_joined => k_is)
    (case l_joined => k_is)
    (case c_joined => k_is)
    (case k_joined => k_is)
    (case a_Later_init => k_is)
    (case i_Later_init => k_is)
    (case l_Later_init => k_is)
    (case c_Later_init => k_is)
    (case k_Later_init => k_is)
    (case cell_Later_init => k_is)
    (case code_Later_init => k_is)
    (case vs_Later_init => exact rfl)
    (case fl_Later_init => decide +kernel)
    (case cd_Later_init => k_is)
    (case a_Later_after => k_is)
    (case i_Later_after => k_is)
    (case l_Later_after => k_is)
    (case c_Later_after => k_is)
    (case k_Later_after => k_is)
    (case a_Sooner_init => k_is)
    (case i_Sooner_init => k_is)
    (case l_Sooner_init => k_is)
    (case c_Sooner_init => k_is)
    (case k_Sooner_init => k_is)
    (case cell_Sooner_init => k_is)
    (case code_Sooner_init => k_is)
    (case vs_Sooner_init => exact rfl)
    (case fl_Sooner_init => decide +kernel)
    (case cd_Sooner_init => k_is)
    (case a_Sooner_after => k_is)
    (case i_Sooner_after => k_is)
    (case l_Sooner_after => k_is)
    (case c_Sooner_after => k_is)
    (case k_Sooner_after => k_is)
    (case a_Next_init => k_is)
    (case i_Next_init => k_is)
    (case l_Next_init => k_is)
    (case c_Next_init => k_is)
    (case k_Next_init => k_is)
    (case cell_Next_init => k_is)
    (case code_Next_init => k_is)
    (case vs_Next_init => exact rfl)
    (case fl_Next_init => decide +kernel)
    (case cd_Next_init => k_is)
    (case a_Next_after => k_is)
    (case i_Next_after => k_is)
    (case l_Next_after => k_is)
    (case c_Next_after => k_is)
    (case k_Next_after => k_is)
    (case a_Rule_init => k_is)
    (case i_Rule_init => k_is)
    (case l_Rule_init => k_is)
    (case c_Rule_init => k_is)
    (case k_Rule_init => k_is)
    (case a_fullest => k_is)
    (case l_fullest => k_is)
    (case c_fullest => k_is)
    (case k_fullest => k_is)
    (case a_is_within => k_is)
    (case l_is_within => k_is)
    (case c_is_within => k_is)
    (case k_is_within => k_is)
    (case a_bag => k_is)
    (case l_bag => k_is)
    (case c_bag => k_is)
    (case k_bag => k_is)
    (case a_draw => k_is)
    (case l_draw => k_is)
    (case c_draw => k_is)
    (case k_draw => k_is)
    (case a_of => k_is)
    (case l_of => k_is)
    (case c_of => k_is)
    (case k_of => k_is)
    (case a_like => k_is)
    (case l_like => k_is)
    (case c_like => k_is)
    (case k_like => k_is)
    (case a_llcm => k_is)
    (case l_llcm => k_is)
    (case c_llcm => k_is)
    (case k_llcm => k_is)
    (case a_leaf => k_is)
    (case l_leaf => k_is)
    (case c_leaf => k_is)
    (case k_leaf => k_is)
    (case a_ljoined => k_is)
    (case l_ljoined => k_is)
    (case c_ljoined => k_is)
    (case k_ljoined => k_is)
    (case a_plan => k_is)
    (case l_plan => k_is)
    (case c_plan => k_is)
    (case k_plan => k_is)
    (case a_at => k_is)
    (case l_at => k_is)
    (case c_at => k_is)
    (case k_at => k_is)
    (case a_made => k_is)
    (case l_made => k_is)
    (case c_made => k_is)
    (case k_made => k_is)
    (case a_items => k_is)
    (case l_items => k_is)
    (case c_items => k_is)
    (case k_items => k_is)
    (case a_sum => k_is)
    (case l_sum => k_is)
    (case c_sum => k_is)
    (case k_sum => k_is)
    (case a_due => k_is)
    (case l_due => k_is)
    (case c_due => k_is)
    (case k_due => k_is)
    (case a_greatest => k_is)
    (case l_greatest => k_is)
    (case c_greatest => k_is)
    (case k_greatest => k_is)
    (case a_within_so => k_is)
    (case l_within_so => k_is)
    (case c_within_so => k_is)
    (case k_within_so => k_is)
    (case a_so => k_is)
    (case l_so => k_is)
    (case c_so => k_is)
    (case k_so => k_is)
    (case a_law => k_is)
    (case l_law => k_is)
    (case c_law => k_is)
    (case k_law => k_is)
    (case top_super => decide +kernel)
    (case st_thirdparty => k_is)
    (case z_int => k_is)
    (case z_len => k_is)
    (case z_list => k_is)
    (case z_isinstance => k_is)
    (case z_bool => k_is)
    (case z_max => k_is)
    (case z_str => k_is)
    (case z_enumerate => k_is)
    (case z_tuple => k_is)
    (case z_min => k_is)
    (case z_range => k_is)
    (case z_sorted => k_is)
    (case z_dict => k_is)
    (case z_all => k_is)
    (case z_zip => k_is)
    (case z_sum => k_is)
    (case z_super => k_is)
    (case ac_PERIOD => k_is)
    (case ab_lcm => k_is)
    (case ac_FORMS => k_is)
    (case ac_BORDERS => k_is)
    (case ac_LETTERS => k_is)
    (case ac_DIGITS => k_is)
    (case pg_Window => k_is)
    (case hd_Window => k_is)
    (case po_Window => k_is)
    (case sa_Window => k_is)
    (case mk_Window => k_is)
    (case kc_Window => k_is)
    (case th_Window => k_is)
    (case tn_Window => k_is)
    (case tk_Window => k_is)
    (case tm_Window => k_is)
    (case kt_Window_Rest => first | k_is | kernel_rfl)
    (case su_Window => k_is)
    (case sm_Window => first | ks_is | k_is)
    (case sf_Window => k_is)
    (case st_Window => k_is)
    (case no_Window_text => k_is)
    (case no_Window_forms => k_is)
    (case no_Window_period => k_is)
    (case no_Window_bend => k_is)
    (case no_Window_width => k_is)
    (case me_Window_after => k_is)
    (case mi_Window_after => k_is)
    (case me_Window_forms => k_is)
    (case mi_Window_forms => k_is)
    (case me_Window_period => k_is)
    (case mi_Window_period => k_is)
    (case me_Window_bend => k_is)
    (case mi_Window_bend => k_is)
    (case me_Window_written => k_is)
    (case mi_Window_written => k_is)
    (case co_Window => k_is)
    (case ci_Window => k_is)
    (case cf_Window => k_is)
    (case pg_Days => k_is)
    (case hd_Days => k_is)
    (case po_Days => k_is)
    (case sa_Days => k_is)
    (case mk_Days => k_is)
    (case kc_Days => k_is)
    (case th_Days => k_is)
    (case tn_Days => k_is)
    (case tk_Days => k_is)
    (case tm_Days => k_is)
    (case kt_Days_Rest => first | k_is | kernel_rfl)
    (case su_Days => k_is)
    (case sm_Days => first | ks_is | k_is)
    (case sf_Days => k_is)
    (case st_Days => k_is)
    (case no_Days_text => k_is)
    (case no_Days_forms => k_is)
    (case no_Days_period => k_is)
    (case no_Days_bend => k_is)
    (case no_Days_every => k_is)
    (case no_Days_borders => k_is)
    (case me_Days_after => k_is)
    (case mi_Days_after => k_is)
    (case me_Days_forms => k_is)
    (case mi_Days_forms => k_is)
    (case me_Days_period => k_is)
    (case mi_Days_period => k_is)
    (case me_Days_bend => k_is)
    (case mi_Days_bend => k_is)
    (case me_Days_written => k_is)
    (case mi_Days_written => k_is)
    (case co_Days => k_is)
    (case ci_Days => k_is)
    (case cf_Days => k_is)
    (case pg_Later => k_is)
    (case hd_Later => k_is)
    (case po_Later => k_is)
    (case sa_Later => k_is)
    (case mk_Later => k_is)
    (case kc_Later => k_is)
    (case th_Later => k_is)
    (case tn_Later => k_is)
    (case tk_Later => k_is)
    (case tm_Later => k_is)
    (case kt_Later_Rest => first | k_is | kernel_rfl)
    (case su_Later => k_is)
    (case sm_Later => first | ks_is | k_is)
    (case sf_Later => k_is)
    (case st_Later => k_is)
    (case no_Later_text => k_is)
    (case no_Later_forms => k_is)
    (case no_Later_period => k_is)
    (case no_Later_bend => k_is)
    (case no_Later_first => k_is)
    (case no_Later_second => k_is)
    (case me_Later_after => k_is)
    (case mi_Later_after => k_is)
    (case me_Later_forms => k_is)
    (case mi_Later_forms => k_is)
    (case me_Later_period => k_is)
    (case mi_Later_period => k_is)
    (case me_Later_bend => k_is)
    (case mi_Later_bend => k_is)
    (case me_Later_written => k_is)
    (case mi_Later_written => k_is)
    (case co_Later => k_is)
    (case ci_Later => k_is)
    (case cf_Later => k_is)
    (case pg_Sooner => k_is)
    (case hd_Sooner => k_is)
    (case po_Sooner => k_is)
    (case sa_Sooner => k_is)
    (case mk_Sooner => k_is)
    (case kc_Sooner => k_is)
    (case th_Sooner => k_is)
    (case tn_Sooner => k_is)
    (case tk_Sooner => k_is)
    (case tm_Sooner => k_is)
    (case kt_Sooner_Rest => first | k_is | kernel_rfl)
    (case su_Sooner => k_is)
    (case sm_Sooner => first | ks_is | k_is)
    (case sf_Sooner => k_is)
    (case st_Sooner => k_is)
    (case no_Sooner_text => k_is)
    (case no_Sooner_forms => k_is)
    (case no_Sooner_period => k_is)
    (case no_Sooner_bend => k_is)
    (case no_Sooner_first => k_is)
    (case no_Sooner_second => k_is)
    (case me_Sooner_after => k_is)
    (case mi_Sooner_after => k_is)
    (case me_Sooner_forms => k_is)
    (case mi_Sooner_forms => k_is)
    (case me_Sooner_period => k_is)
    (case mi_Sooner_period => k_is)
    (case me_Sooner_bend => k_is)
    (case mi_Sooner_bend => k_is)
    (case me_Sooner_written => k_is)
    (case mi_Sooner_written => k_is)
    (case co_Sooner => k_is)
    (case ci_Sooner => k_is)
    (case cf_Sooner => k_is)
    (case pg_Next => k_is)
    (case hd_Next => k_is)
    (case po_Next => k_is)
    (case sa_Next => k_is)
    (case mk_Next => k_is)
    (case kc_Next => k_is)
    (case th_Next => k_is)
    (case tn_Next => k_is)
    (case tk_Next => k_is)
    (case tm_Next => k_is)
    (case kt_Next_Rest => first | k_is | kernel_rfl)
    (case su_Next => k_is)
    (case sm_Next => first | ks_is | k_is)
    (case sf_Next => k_is)
    (case st_Next => k_is)
    (case no_Next_text => k_is)
    (case no_Next_forms => k_is)
    (case no_Next_period => k_is)
    (case no_Next_bend => k_is)
    (case no_Next_first => k_is)
    (case no_Next_second => k_is)
    (case me_Next_after => k_is)
    (case mi_Next_after => k_is)
    (case me_Next_forms => k_is)
    (case mi_Next_forms => k_is)
    (case me_Next_period => k_is)
    (case mi_Next_period => k_is)
    (case me_Next_bend => k_is)
    (case mi_Next_bend => k_is)
    (case me_Next_written => k_is)
    (case mi_Next_written => k_is)
    (case co_Next => k_is)
    (case ci_Next => k_is)
    (case cf_Next => k_is)
    (case pg_Rule => k_is)
    (case hd_Rule => k_is)
    (case po_Rule => k_is)
    (case sa_Rule => k_is)
    (case mk_Rule => k_is)
    (case kc_Rule => k_is)
    (case no_Rule_name => k_is)
    (case no_Rule_chips => k_is)
    (case no_Rule_rest => k_is)

