import PyProof.Rows.All
import Wide.All
import OpenK.AllK
import Wide.FinOn
import HandS.ForMost
import HandS.IsInst
import HandS.FStr
import HandS.Gcd
import HandS.Style
import HandS.Nested
import HandS.Walk
import KE.KSuper
import HandS.Star
import HandS.ExcInit
import HandS.TryMany
import HandS.ExcField
import HandS.ExcOwn
import HandS.WordsExc
import KE.KExcSuper
import HandS.Lambda
import KE.KCallOwn
import HandS.DeepEq
import HandS.Zip
import HandS.More
import HandS.Small
import HandS.Text
import HandS.Flow
import HandS.RaiseMore
import PyProof.EnumMake
import PyProof.Draws
import KE.GoesMore
import KE.KTupSum
import HandS.TupAny
import PyProof.ReprRoads
import HandS.MakeKwOnly
import HandS.DictComp
import HandS.EndTab
import PySem.Challenge.RW_surelet_k04_rests_built_and_refused
set_option Elab.async false
set_option linter.all false
set_option maxRecDepth 100000
set_option maxHeartbeats 4000000
/-! Kit: my own layer over the hand layer: names by one check each, operations by values, the steps of a reading, the bag of a law. -/
namespace Kit
open PySem PySem.Spec PyProof.Rows L2

/-! ### names -/
def visB (sc : Scope) (x : Str) : Bool :=
  (match sc.names.lookup x with | some .local => true | some .cell => true | some .free => true | _ => false) && (!(x == ("__debug__" : Str)) && !(x == ("__classdict__" : Str)))
theorem visB_ok {sc : Scope} {x : Str} (h : visB sc x = true) : Vis sc x ∧ (x == ("__debug__" : Str)) = false ∧ (x == ("__classdict__" : Str)) = false := by
  unfold visB at h
  simp only [Bool.and_eq_true, Bool.not_eq_true'] at h
  obtain ⟨h1, h2, h3⟩ := h
  refine ⟨?_, h2, h3⟩
  unfold Vis
  split at h1
  · exact .inl (by assumption)
  · exact .inr (.inl (by assumption))
  · exact .inr (.inr (by assumption))
  · cases h1
def locB (sc : Scope) (x : Str) : Bool := match sc.names.lookup x with | some .local => true | _ => false
def celB (sc : Scope) (x : Str) : Bool := match sc.names.lookup x with | some .cell => true | _ => false
theorem locB_ok {sc : Scope} {x : Str} (h : locB sc x = true) : sc.names.lookup x = some .local := by
  unfold locB at h
  split at h
  · assumption
  · cases h
theorem celB_ok {sc : Scope} {x : Str} (h : celB sc x = true) : sc.names.lookup x = some .cell := by
  unfold celB at h
  split at h
  · assumption
  · cases h
section
variable {X : Cx}
theorem kv {i : Nat} {x : Str} {pos : Pos} (h : visB X.env.scope x = true) (hN : X.N[i]? = some x := by rfl) : PE X (.Name x pos) (tVar i) :=
  let ⟨a, b, c⟩ := visB_ok h
  pe_var hN a b c
theorem kgL {i : Nat} {x : Str} {pos : Pos} (hN : X.N.Nodup) (h : locB X.env.scope x = true) (hi : X.N[i]? = some x := by rfl) : PG X (.Name x pos) (gName i) :=
  pg_name hN hi (.inl (locB_ok h)) (.inr (locB_ok h))
theorem kgC {i : Nat} {x : Str} {pos : Pos} (hN : X.N.Nodup) (h : celB X.env.scope x = true) (hi : X.N[i]? = some x := by rfl) (hf : X.fn x = true := by rfl) : PG X (.Name x pos) (gName i) :=
  pg_name hN hi (.inr (celB_ok h)) (.inl hf)
theorem ks_setL {i : Nat} {x : Str} {e : Expr} {te : TE} {p' pos : Pos} (hN : X.N.Nodup) (h : locB X.env.scope x = true) (he : PE X e te) (hi : X.N[i]? = some x := by rfl) (hs : swapsWith e (some (.Name x p')) pos.line X.env = pure false := by rfl) :
    PS X (.Assign [.Name x p'] e pos) (tAsg te (gName i)) := ps_set hN hi (.inl (locB_ok h)) he hs (.inr (locB_ok h))
theorem ks_setC {i : Nat} {x : Str} {e : Expr} {te : TE} {p' pos : Pos} (hN : X.N.Nodup) (h : celB X.env.scope x = true) (he : PE X e te) (hi : X.N[i]? = some x := by rfl) (hs : swapsWith e (some (.Name x p')) pos.line X.env = pure false := by rfl) (hf : X.fn x = true := by rfl) :
    PS X (.Assign [.Name x p'] e pos) (tAsg te (gName i)) := ps_set hN hi (.inr (celB_ok h)) he hs (.inl hf)

/-! ### built-in names -/
section
variable {e : Expr} {es : List Expr} {t : TA} {p pos : Pos}
theorem kty_int (hg : Gl X "int") (hm : X.mg "int" = none) : PE X (.Name "int" pos) (tC (.ty "int")) := pe_bltn hg hm (u := .type "int") (by decide +kernel) rfl
theorem kty_bool (hg : Gl X "bool") (hm : X.mg "bool" = none) : PE X (.Name "bool" pos) (tC (.ty "bool")) := pe_bltn hg hm (u := .type "bool") (by decide +kernel) rfl
theorem kty_str (hg : Gl X "str") (hm : X.mg "str" = none) : PE X (.Name "str" pos) (tC (.ty "str")) := pe_bltn hg hm (u := .type "str") (by decide +kernel) rfl
theorem kty_list (hg : Gl X "list") (hm : X.mg "list" = none) : PE X (.Name "list" pos) (tC (.ty "list")) := pe_bltn hg hm (u := .type "list") (by decide +kernel) rfl
theorem kty_tuple (hg : Gl X "tuple") (hm : X.mg "tuple" = none) : PE X (.Name "tuple" pos) (tC (.ty "tuple")) := pe_bltn hg hm (u := .type "tuple") (by decide +kernel) rfl
theorem kty_dict (hg : Gl X "dict") (hm : X.mg "dict" = none) : PE X (.Name "dict" pos) (tC (.ty "dict")) := pe_bltn hg hm (u := .type "dict") (by decide +kernel) rfl
theorem kcls {x : Str} {C : Addr} (hg : Gl X x) (hm : X.mg x = some (.ref C)) (hd : (x == ("__debug__" : Str)) = false := by decide) : PE X (.Name x pos) (tC (.ref C)) := pe_glob (v := .ref C) hg hm rfl hd
theorem kcB {x : Str} {id : String} {r : List V → Hp → VK → Prop} (hv : bootBuiltins x = some (.builtin id)) (hn : x ≠ "__name__") (hdb : (x == ("__debug__" : Str)) = false) (hc : CallR X (.builtin id) r) (hg : Gl X x) (hm : X.mg x = none) (ha : PA X (e :: es) t)
    (he : starEach (e :: es) X.env = (false, eval e X.env) :: starEach es X.env := by rfl) (hpl : (backTo pos (starEach es X.env)).any (·.1) = false := by rfl) : PE X (.Call (.Name x p) (e :: es) [] pos) (tCB r t) := pe_callB hc hg hm hv ha hn hdb he hpl
theorem kcT {x : Str} {T : String} {r : List V → Hp → VK → Prop} (hv : bootBuiltins x = some (.type T)) (hn : x ≠ "__name__") (hdb : (x == ("__debug__" : Str)) = false) (hc : CallR X (.type T) r) (hg : Gl X x) (hm : X.mg x = none) (ha : PA X (e :: es) t)
    (he : starEach (e :: es) X.env = (false, eval e X.env) :: starEach es X.env := by rfl) (hpl : (backTo pos (starEach es X.env)).any (·.1) = false := by rfl) : PE X (.Call (.Name x p) (e :: es) [] pos) (tCB r t) := pe_callTy hc hg hm hv ha hn hdb he hpl
theorem b_len : bootBuiltins "len" = some (.builtin "len") := by decide +kernel
theorem b_isinstance : bootBuiltins "isinstance" = some (.builtin "isinstance") := by decide +kernel
theorem b_max : bootBuiltins "max" = some (.builtin "max") := by decide +kernel
theorem b_min : bootBuiltins "min" = some (.builtin "min") := by decide +kernel
theorem b_abs : bootBuiltins "abs" = some (.builtin "abs") := by decide +kernel
theorem b_all : bootBuiltins "all" = some (.builtin "all") := by decide +kernel
theorem b_any : bootBuiltins "any" = some (.builtin "any") := by decide +kernel
theorem b_sum : bootBuiltins "sum" = some (.builtin "sum") := by decide +kernel
theorem b_ord : bootBuiltins "ord" = some (.builtin "ord") := by decide +kernel
theorem b_sorted : bootBuiltins "sorted" = some (.builtin "sorted") := by decide +kernel
theorem b_int : bootBuiltins "int" = some (.type "int") := by decide +kernel
theorem b_str : bootBuiltins "str" = some (.type "str") := by decide +kernel
theorem b_bool : bootBuiltins "bool" = some (.type "bool") := by decide +kernel
theorem b_list : bootBuiltins "list" = some (.type "list") := by decide +kernel
theorem b_tuple : bootBuiltins "tuple" = some (.type "tuple") := by decide +kernel
theorem b_dict : bootBuiltins "dict" = some (.type "dict") := by decide +kernel
end

/-! ### operations by values -/
def rAddU : R2 := fun x y H Q => match x, y with
  | .int i, .int j => Q (.int (i + j)) H
  | .str a, .str b => a.length + b.length ≤ sizeLine ∧ Q (.str (a ++ b)) H
  | .ref a, .ref b => ∃ xs ys, H a = some (.lst xs) ∧ H b = some (.lst ys) ∧ xs.length + ys.length ≤ sizeLine ∧ ∀ p, H p = none → Q (.ref p) (upd H p (.lst (xs ++ ys)))
  | _, _ => False
theorem kop_add : OpR X (binaryOp .Add) rAddU := by
  intro pins s σ H x y v u Q I rx ry h
  cases x <;> cases y <;> first
    | exact h.elim
    | exact op_add pins s σ H _ _ v u Q I rx ry ⟨_, _, rfl, rfl, h⟩
    | exact op_add_str pins s σ H _ _ v u Q I rx ry ⟨_, _, rfl, rfl, h.1, h.2⟩
    | (obtain ⟨xs, ys, h1, h2, h3, h4⟩ := h; exact op_cat pins s σ H _ _ v u Q I rx ry ⟨_, _, xs, ys, rfl, rfl, h1, h2, h3, h4⟩)
/-- math.lcm of two numbers from 0 on, below 2 ^ 32 -/
def rLcm : List V → Hp → VK → Prop := fun vs H Q => ∃ a b : Int, vs = [.int a, .int b] ∧ 0 ≤ a ∧ a < 2 ^ 32 ∧ 0 ≤ b ∧ b < 2 ^ 32 ∧ Q (.int ((Nat.lcm a.natAbs b.natAbs : Nat) : Int)) H
theorem kcr_lcm : CallR X (.builtin "math.lcm") rLcm := by
  intro pins s σ H vs us Q I r h
  obtain ⟨a, b, rfl, ha, ha2, hb, hb2, q⟩ := h
  obtain ⟨t, u, rfl⟩ := Vals.int2 r
  have e : (Nat.lcm 1 a.natAbs).lcm b.natAbs = Nat.lcm a.natAbs b.natAbs := by rw [Nat.lcm_one_left]
  have hle : Nat.lcm a.natAbs b.natAbs < 2 ^ 64 := by
    by_cases h0 : a.natAbs = 0
    · rw [h0, Nat.lcm_zero_left]; decide
    · by_cases h1 : b.natAbs = 0
      · rw [h1, Nat.lcm_zero_right]; decide
      · have q1 : Nat.lcm a.natAbs b.natAbs ≤ a.natAbs * b.natAbs := Nat.le_of_dvd (Nat.mul_pos (by omega) (by omega)) (Nat.lcm_dvd (Nat.dvd_mul_right _ _) (Nat.dvd_mul_left _ _))
        have q2 : a.natAbs * b.natAbs < 2 ^ 32 * 2 ^ 32 := Nat.mul_lt_mul'' (by omega) (by omega)
        omega
  refine PySem.W.mg_lcm (by omega) (by omega) ?_ ?_
  · rw [e, Int.natAbs_natCast]
    by_cases h0 : Nat.lcm a.natAbs b.natAbs = 0
    · rw [h0]; decide
    · have : (Nat.lcm a.natAbs b.natAbs).log2 < 64 := (Nat.log2_lt h0).mpr hle
      exact Nat.lt_of_lt_of_le this (by decide)
  · rw [e]
    exact ⟨.int _, H, I.tok _, ⟨_, rfl⟩, q⟩
end


/-! ### rules with the written part told -/
section
variable {X : Cx}
/-- a statement whose ways meet in W -/
def tMeet (t u : TS) : TS := fun D σ H => ∃ W : L2.St → Hp → Prop, t { D with nx := W } σ H ∧ ∀ σ' H', W σ' H' → u D σ' H'
theorem kss_meet {st : Stmt} {rest : List Stmt} {t u : TS} (h1 : PS X st t) (h2 : PSs X rest u) : PSs X (st :: rest) (tMeet t u) := by
  refine ⟨fun pins s σ H D I h => ?_⟩
  obtain ⟨W, hw, hu⟩ := h
  refine wpAny_execs_cons (thn (h1.run pins s σ H _ I hw) fun f s' hf => ?_)
  cases f with
  | next =>
    obtain ⟨σ', H', I', q⟩ := hf
    exact h2.run pins s' σ' H' D I' (hu σ' H' q)
  | ret u => exact hf
  | brk => exact hf
  | cont => exact hf
theorem kix (K : PySem.W.Frag) (hK : X.K = K := by rfl) : IxR X (rIx K) := by subst hK; exact ix_seq
def rLenU (K : PySem.W.Frag) : List V → Hp → VK → Prop := fun xs H Q => ∃ x n, xs = [x] ∧ LenV K x H n ∧ Q (.int (n : Nat)) H
theorem kc_len (K : PySem.W.Frag) (hK : X.K = K := by rfl) : CallR X (.builtin "len") (rLenU K) := by subst hK; exact call_len
def rInt1 : List V → Hp → VK → Prop := fun xs H Q => match xs with
  | [.int i] => Q (.int i) H
  | [.bl k] => Q (.int (if k then 1 else 0)) H
  | _ => False
theorem kc_int : CallR X (.type "int") rInt1 := by
  intro pins s σ H xs us Q I r h
  match xs, r, h with
  | [.int i], r, h => exact call_int1 pins s σ H _ us Q I r (.inl ⟨i, rfl, h⟩)
  | [.bl k], r, h => exact call_int1 pins s σ H _ us Q I r (.inr ⟨k, rfl, h⟩)
def rBool1 : List V → Hp → VK → Prop := fun xs H Q => match xs with
  | [.int i] => Q (.bl (i != 0)) H
  | [.bl k] => Q (.bl k) H
  | _ => False
theorem kc_bool : CallR X (.type "bool") rBool1 := by
  intro pins s σ H xs us Q I r h
  match xs, r, h with
  | [.int i], r, h => exact call_bool1 pins s σ H _ us Q I r (.inl ⟨i, rfl, h⟩)
  | [.bl k], r, h => exact call_bool1 pins s σ H _ us Q I r (.inr ⟨k, rfl, h⟩)
def rStr1 : List V → Hp → VK → Prop := fun xs H Q => ∃ i : Int, xs = [.int i] ∧ i.natAbs.log2 < 1920 ∧ Q (.str (toString i)) H
theorem kc_str : CallR X (.type "str") rStr1 := call_str_int
def rListU (K : PySem.W.Frag) : List V → Hp → VK → Prop := fun xs H Q => ∃ p ys, xs = [.ref p] ∧ (SqL K H p ys ∨ SqT K H p ys) ∧ ∀ l, H l = none → Q (.ref l) (upd H l (.lst ys))
theorem kc_list (K : PySem.W.Frag) (hK : X.K = K := by rfl) : CallR X (.type "list") (rListU K) := by subst hK; exact call_list_of
def rTupleU (K : PySem.W.Frag) : List V → Hp → VK → Prop := fun xs H Q => ∃ p ys, xs = [.ref p] ∧ ((SqL K H p ys ∧ ∀ l, H l = none → Q (.ref l) (upd H l (.tup ys))) ∨ (SqT K H p ys ∧ Q (.ref p) H))
theorem kc_tuple (K : PySem.W.Frag) (hK : X.K = K := by rfl) : CallR X (.type "tuple") (rTupleU K) := by subst hK; exact call_tuple_of
theorem kc_isi (K : PySem.W.Frag) (hK : X.K = K := by rfl) : CallR X (.builtin "isinstance") (rIsi K) := by subst hK; exact call_isi
theorem kc_isiT (K : PySem.W.Frag) (hK : X.K = K := by rfl) : CallR X (.builtin "isinstance") (rIsiT K) := by subst hK; exact call_isiT
def rMax2 : List V → Hp → VK → Prop := fun xs H Q => match xs with
  | [.int i, .int j] => Q (.int (if j > i then j else i)) H
  | _ => False
theorem kc_max2 (hc : X.calm = true) : CallR X (.builtin "max") rMax2 := by
  intro pins s σ H xs us Q I r h
  match xs, r, h with
  | [.int i, .int j], r, h => exact call_max2 hc pins s σ H _ us Q I r ⟨i, j, rfl, h⟩
def rMin2 : List V → Hp → VK → Prop := fun xs H Q => match xs with
  | [.int i, .int j] => Q (.int (if j < i then j else i)) H
  | _ => False
theorem kc_min2 (hc : X.calm = true) : CallR X (.builtin "min") rMin2 := by
  intro pins s σ H xs us Q I r h
  match xs, r, h with
  | [.int i, .int j], r, h => exact call_min2 hc pins s σ H _ us Q I r ⟨i, j, rfl, h⟩
theorem kc_sum (K : PySem.W.Frag) (hc : X.calm = true) (hK : X.K = K := by rfl) : CallR X (.builtin "sum") (rSum K) := by subst hK; exact cr_sum hc
theorem ksl_list (K : PySem.W.Frag) (hK : X.K = K := by rfl) : SlR X (rSlL K) := by subst hK; exact sl_list
theorem kpi_list (K : PySem.W.Frag) {tg l : Expr} {tl : TE} (hl : PE X l tl) (hK : X.K = K := by rfl) : PI X tg l (iList K tl) := by subst hK; exact pi_list hl
theorem kpi_tup (K : PySem.W.Frag) {tg l : Expr} {tl : TE} (hl : PE X l tl) (hK : X.K = K := by rfl) : PI X tg l (iTup K tl) := by subst hK; exact pi_tup hl
theorem kpe_fld (K : PySem.W.Frag) {e : Expr} {f : Str} {ta : TE} {pos : Pos} (he : PE X e ta) (hK : X.K = K := by rfl) (hb : attributeBase e f X.env (eval e X.env) = eval e X.env := by rfl) : PE X (.Attribute e f pos) (tFld K ta f) := by subst hK; exact pe_fld he hb
theorem kps_fld (K : PySem.W.Frag) {o value : Expr} {f : Str} {ta tv : TE} {pos pos' : Pos} (ha : PE X o ta) (hv : PE X value tv) (hK : X.K = K := by rfl) (hs : swapsWith value (some (.Attribute o f pos')) pos.line X.env = pure false := by rfl) : PS X (.Assign [.Attribute o f pos'] value pos) (sFld K ta tv f) := by subst hK; exact ps_fld ha hv hs
def tTruU (K : PySem.W.Frag) (ta : TE) : TT := fun σ H Q => ta σ H fun x H' => ∃ k, TruV K x H' k ∧ Q k H'
theorem kpt_truth (K : PySem.W.Frag) {a : Expr} {ta : TE} (ha : PE X a ta) (hK : X.K = K := by rfl) (he : ∀ whole, isTrue a X.env whole = (do let v ← whole; standAt a.pos; holding [v] (truthy v)) := by intro _; rfl) : PT X a (tTruU K ta) := by subst hK; exact pt_truth ha he
theorem kop_in (K : PySem.W.Frag) (hK : X.K = K := by rfl) : OpR X (compareOp .In) (rIn K false) := by subst hK; exact op_in_seq
theorem kop_nin (K : PySem.W.Frag) (hK : X.K = K := by rfl) : OpR X (compareOp .NotIn) (rIn K true) := by subst hK; exact op_notIn_seq
theorem kpg_tup (K : PySem.W.Frag) (n : Nat) {es : List Expr} {k : Nat} {t : TGs} {pos : Pos} (hc : X.calm = true) (h : PGs X es t) (hK : X.K = K := by rfl) (hn : (assignEach es X.env).length = n := by rfl) (hst : (assignEach es X.env).findIdx? (·.1) = none := by rfl) : PG X (.Tuple es k pos) (gTup K n t) := by subst hK; exact pg_tup hc h hn hst
end

theorem small_size' {n : Nat} (h : n ≤ 1000000) : n ≤ sizeLine := Nat.le_trans h (by rw [sizeLine_eq]; decide)
/-! ### the steps of a reading -/
section
variable {σ : L2.St} {H : Hp} {Q : VK} {D : Ends} {t u : TS} {te ta tb : TE} {tt tu : TT} {tA tr : TA} {g : TG} {i : Nat} {v x y : V} {r : R2}
theorem k_seq (h : t { D with nx := u D } σ H) : tSeq t u D σ H := h
theorem k_asg (h : te σ H fun x H1 => g x σ H1 D.nx) : tAsg te g D σ H := h
theorem k_gName {Q : L2.St → Hp → Prop} (h : Q (σ.set i (some v)) H) : gName i v σ H Q := h
theorem k_drop (h : te σ H fun _ H1 => D.nx σ H1) : tDrop te D σ H := h
theorem k_ret (h : te σ H D.rt) : tRet te D σ H := h
theorem k_retN (h : D.rt .non H) : tRetN D σ H := h
theorem k_next (h : D.nx σ H) : tNext D σ H := h
theorem k_break (h : D.bk σ H) : tBreak D σ H := h
theorem k_cont (h : D.ct σ H) : tCont D σ H := h
theorem k_ifS (h : tt σ H fun b H1 => if b = true then t D σ H1 else u D σ H1) : tIfS tt t u D σ H := h
theorem k_var (h : σ[i]? = some (some v)) (k : Q v H) : tVar i σ H Q := ⟨v, h, k⟩
theorem k_c (k : Q v H) : tC v σ H Q := k
theorem k_op (h : ta σ H fun x H1 => tb σ H1 fun y H2 => r x y H2 Q) : tOp r ta tb σ H Q := h
theorem k_un {r : V → Hp → VK → Prop} (h : ta σ H fun x H1 => r x H1 Q) : tUn r ta σ H Q := h
theorem k_test {Q : Bool → Hp → Prop} (h : te σ H fun x H' => ∃ k, x = .bl k ∧ Q k H') : tTest te σ H Q := h
theorem k_B {Q : Bool → Hp → Prop} (h : te σ H fun x H' => ∃ k, x = .bl k ∧ Q k H') : tB te σ H Q := h
theorem k_bl {b : Bool} {Q : Bool → Prop} (h : Q b) : ∃ k, V.bl b = .bl k ∧ Q k := ⟨b, rfl, h⟩
theorem k_and {Q : Bool → Hp → Prop} (h : tt σ H fun c H1 => if c = true then tu σ H1 Q else Q false H1) : tAnd tt tu σ H Q := h
theorem k_or {Q : Bool → Hp → Prop} (h : tt σ H fun c H1 => if c = true then Q true H1 else tu σ H1 Q) : tOr tt tu σ H Q := h
theorem k_not {Q : Bool → Hp → Prop} (h : tt σ H fun c H1 => Q (!c) H1) : tNot tt σ H Q := h
theorem k_andV (h : ta σ H fun x H1 => ∃ c, x = .bl c ∧ if c = true then tb σ H1 Q else Q (.bl false) H1) : tAndV ta tb σ H Q := h
theorem k_orV (h : ta σ H fun x H1 => ∃ c, x = .bl c ∧ if c = true then Q (.bl true) H1 else tb σ H1 Q) : tOrV ta tb σ H Q := h
theorem k_notV (h : ta σ H fun x H1 => ∃ c, x = .bl c ∧ Q (.bl (!c)) H1) : tNotV ta σ H Q := h
theorem k_if (h : tt σ H fun c H1 => if c = true then ta σ H1 Q else tb σ H1 Q) : tIf tt ta tb σ H Q := h
theorem k_nil {Q : List V → Hp → Prop} (h : Q [] H) : tNil σ H Q := h
theorem k_cons {Q : List V → Hp → Prop} (h : ta σ H fun x H1 => tr σ H1 fun xs H2 => Q (x :: xs) H2) : tCons ta tr σ H Q := h
theorem k_CB {r : List V → Hp → VK → Prop} (h : tA σ H fun vs H1 => r vs H1 Q) : tCB r tA σ H Q := h
theorem k_call {sp : Sp} {dvs : List V} {E : XK} (h : tA σ H fun vs H1 => sp (vs ++ dvs) H1 Q E) : tCall sp dvs E tA σ H Q := h
theorem k_tup (h : tA σ H fun xs H1 => xs.length ≤ sizeLine ∧ ∀ p, H1 p = none → Q (.ref p) (upd H1 p (.tup xs))) : tTup tA σ H Q := h
theorem k_lst (h : tA σ H fun xs H1 => xs.length ≤ sizeLine ∧ ∀ p, H1 p = none → Q (.ref p) (upd H1 p (.lst xs))) : tLst tA σ H Q := h
theorem k_tru {K : PySem.W.Frag} {Q : Bool → Hp → Prop} (h : ta σ H fun x H' => ∃ k, TruV K x H' k ∧ Q k H') : (fun (σ : L2.St) (H : Hp) (Q : Bool → Hp → Prop) => ta σ H fun x H' => ∃ k, TruV K x H' k ∧ Q k H') σ H Q := h
theorem k_gSub {to ti : TE} {t : TSet} {Q : L2.St → Hp → Prop} (h : to σ H fun o H1 => ti σ H1 fun i H2 => t o i v H2 fun H3 => Q σ H3) : gSub to ti t v σ H Q := h
theorem k_par {i j : Nat} (h : tA σ H fun vs H1 => ∃ v w, vs = [v, w] ∧ D.nx ((σ.set i (some v)).set j (some w)) H1) : tPar i j tA D σ H := h
theorem k_pair {v w : V} {P : V → V → Prop} (h : P v w) : ∃ a b, [v, w] = [a, b] ∧ P a b := ⟨v, w, rfl, h⟩
theorem k_sl {r : V → Option Int → Option Int → Hp → VK → Prop} {tl th : TO} (h : te σ H fun x H1 => tl σ H1 fun l H2 => th σ H2 fun u H3 => r x l u H3 Q) : tSl r te tl th σ H Q := h
theorem k_noPart {Q : Option Int → Hp → Prop} (h : Q none H) : tNoPart σ H Q := h
theorem k_part {Q : Option Int → Hp → Prop} (h : te σ H fun x H1 => ∃ i, x = .int i ∧ Q (some i) H1) : tPart te σ H Q := h
theorem k_int {i : Int} {P : Int → Prop} (h : P i) : ∃ j, V.int i = .int j ∧ P j := ⟨i, rfl, h⟩

/-- values -/
theorem k_addI {i j : Int} (k : Q (.int (i + j)) H) : rAddU (.int i) (.int j) H Q := k
theorem k_I0 {f : Int → Int → V} {i j : Int} (k : Q (f i j) H) : rI0 f (.int i) (.int j) H Q := ⟨i, j, rfl, rfl, k⟩
theorem k_I {C : Int → Int → Prop} {f : Int → Int → V} {i j : Int} (c : C i j) (k : Q (f i j) H) : rI C f (.int i) (.int j) H Q := ⟨i, j, rfl, rfl, c, k⟩
theorem k_U {f : Int → V} {i : Int} (k : Q (f i) H) : rU f (.int i) H Q := ⟨i, rfl, k⟩
theorem k_eq {x y : V} (s : scal x y = true) (k : Q (.bl (decide (x = y))) H) : rEq x y H Q := ⟨s, k⟩
theorem k_ne {x y : V} (s : scal x y = true) (k : Q (.bl (!decide (x = y))) H) : rNe x y H Q := ⟨s, k⟩
theorem k_eqI {i j : Int} (k : Q (.bl (decide (i = j))) H) : rEq (.int i) (.int j) H Q := ⟨rfl, by
  have e : decide (V.int i = V.int j) = decide (i = j) := by simp
  rw [e]; exact k⟩
theorem k_neI {i j : Int} (k : Q (.bl (!decide (i = j))) H) : rNe (.int i) (.int j) H Q := ⟨rfl, by
  have e : decide (V.int i = V.int j) = decide (i = j) := by simp
  rw [e]; exact k⟩
theorem k_ixL {K : PySem.W.Frag} {p : Addr} {xs : List V} {i : Int} (h : SqL K H p xs) (a : atI xs i = some v) (k : Q v H) : rIx K (.ref p) (.int i) H Q := .inl ⟨p, xs, i, v, rfl, rfl, h, a, k⟩
theorem k_ixT {K : PySem.W.Frag} {p : Addr} {xs : List V} {i : Int} (h : SqT K H p xs) (a : atI xs i = some v) (k : Q v H) : rIx K (.ref p) (.int i) H Q := .inr (.inl ⟨p, xs, i, v, rfl, rfl, h, a, k⟩)
theorem k_ixS {K : PySem.W.Frag} {z : Str} {i : Int} {c : Nat} (h : z.length ≤ sizeLine) (a : atI z.cps.toList i = some c) (k : Q (.str ⟨#[c]⟩) H) : rIx K (.str z) (.int i) H Q := .inr (.inr ⟨z, i, c, rfl, rfl, h, a, k⟩)
theorem k_meet {σ : L2.St} {H : Hp} {D : Ends} {t u : TS} (W : L2.St → Hp → Prop) (h : t { D with nx := W } σ H) (k : ∀ σ' H', W σ' H' → u D σ' H') : tMeet t u D σ H := ⟨W, h, k⟩
theorem k_addL {p q : Addr} {xs ys : List V} {H : Hp} {Q : VK} (h1 : H p = some (.lst xs)) (h2 : H q = some (.lst ys)) (hz : xs.length + ys.length ≤ 1000000) (k : ∀ l, H l = none → Q (.ref l) (upd H l (.lst (xs ++ ys)))) : rAddU (.ref p) (.ref q) H Q := ⟨xs, ys, h1, h2, small_size' hz, k⟩
theorem k_addS {a b : Str} {H : Hp} {Q : VK} (hz : a.length + b.length ≤ 1000000) (k : Q (.str (a ++ b)) H) : rAddU (.str a) (.str b) H Q := ⟨small_size' hz, k⟩
theorem k_int1 {i : Int} (k : Q (.int i) H) : rInt1 [.int i] H Q := k
theorem k_lenL {K : PySem.W.Frag} {p : Addr} {xs : List V} (h : SqL K H p xs) (k : Q (.int (xs.length : Nat)) H) : rLenU K [.ref p] H Q := ⟨_, _, rfl, .inl ⟨xs, h, rfl⟩, k⟩
theorem k_lenT {K : PySem.W.Frag} {p : Addr} {xs : List V} (h : SqT K H p xs) (k : Q (.int (xs.length : Nat)) H) : rLenU K [.ref p] H Q := ⟨_, _, rfl, .inr ⟨xs, h, rfl⟩, k⟩
theorem k_lenS {K : PySem.W.Frag} {z : Str} (h : z.length ≤ sizeLine) (k : Q (.int (z.length : Nat)) H) : rLenU K [.str z] H Q := ⟨_, _, rfl, ⟨h, rfl⟩, k⟩
theorem k_max2 {i j : Int} (k : Q (.int (if j > i then j else i)) H) : rMax2 [.int i, .int j] H Q := k
theorem k_min2 {i j : Int} (k : Q (.int (if j < i then j else i)) H) : rMin2 [.int i, .int j] H Q := k
theorem k_setL {p : Addr} {xs : List V} {k : Int} {j : Nat} {w : V} {Q : Hp → Prop} (h : H p = some (.lst xs)) (e : ixN xs.length k = some j) (q : Q (upd H p (.lst (xs.set j w)))) : rSetL (.ref p) (.int k) w H Q := ⟨p, xs, k, j, rfl, rfl, h, e, q⟩
/-- tests whose answer is known, or open -/
theorem k_t {A B : Prop} (h : A) : if true = true then A else B := by rw [if_pos rfl]; exact h
theorem k_f {A B : Prop} (h : B) : if false = true then A else B := by rw [if_neg Bool.false_ne_true]; exact h
theorem k_t' {A B : Prop} (h : A) : if (!false) = true then A else B := k_t (B := B) h
theorem k_f' {A B : Prop} (h : B) : if (!true) = true then A else B := k_f (A := A) h
theorem k_o1 {b : Bool} {A B : Prop} (h : A) : if (true || b) = true then A else B := k_t (B := B) h
theorem k_o2 {A B : Prop} (h : A) : if (false || true) = true then A else B := k_t (B := B) h
theorem k_o3 {A B : Prop} (h : B) : if (false || false) = true then A else B := k_f (A := A) h
theorem k_o4 {b : Bool} {A B : Prop} (h : B) : if (!(true || b)) = true then A else B := k_f (A := A) h
theorem k_o5 {A B : Prop} (h : B) : if (!(false || true)) = true then A else B := k_f (A := A) h
theorem k_o6 {A B : Prop} (h : A) : if (!(false || false)) = true then A else B := k_t (B := B) h
theorem k_chain {r r' : R2} {tc : TE} (h : ta σ H fun x H1 => tb σ H1 fun y H2 => r x y H2 fun z H3 => ∃ k, z = .bl k ∧ (if k = true then tc σ H3 fun w' H4 => r' y w' H4 Q else Q (.bl false) H3)) : tChain r r' ta tb tc σ H Q := h
theorem k_dt {c : Prop} [Decidable c] {A B : Prop} (hc : c) (h : A) : if decide c = true then A else B := by rw [decide_eq_true hc]; exact k_t h
theorem k_df {c : Prop} [Decidable c] {A B : Prop} (hc : ¬ c) (h : B) : if decide c = true then A else B := by rw [decide_eq_false hc]; exact k_f h
theorem k_d {c : Prop} [Decidable c] {A B : Prop} (h1 : c → A) (h2 : ¬ c → B) : if decide c = true then A else B := by
  by_cases hc : c
  · exact k_dt hc (h1 hc)
  · exact k_df hc (h2 hc)
theorem k_nt {c : Prop} [Decidable c] {A B : Prop} (hc : c) (h : B) : if (!decide c) = true then A else B := by rw [decide_eq_true hc]; exact k_f h
theorem k_nf {c : Prop} [Decidable c] {A B : Prop} (hc : ¬ c) (h : A) : if (!decide c) = true then A else B := by rw [decide_eq_false hc]; exact k_t h
theorem k_n {c : Prop} [Decidable c] {A B : Prop} (h1 : c → B) (h2 : ¬ c → A) : if (!decide c) = true then A else B := by
  by_cases hc : c
  · exact k_nt hc (h1 hc)
  · exact k_nf hc (h2 hc)
theorem k_b {b : Bool} {A B : Prop} (h1 : b = true → A) (h2 : b = false → B) : if b = true then A else B := by
  cases b with
  | true => exact k_t (h1 rfl)
  | false => exact k_f (h2 rfl)
end

/-! ### heaps -/
theorem same_new {H : Hp} {p : Addr} {o : HO} (h : H p = none) : Same H (upd H p o) := fun a u e => by
  rw [upd_ne (ne_of_none e h)]
  exact e
theorem same_t {K : PySem.W.Frag} {H H' : Hp} {a : Addr} {xs : List V} (e : Same H H') (h : SqT K H a xs) : SqT K H' a xs := by
  rcases h with (h | ⟨o, h⟩) | h
  · exact .inl (.inl (e _ _ h))
  · exact .inl (.inr ⟨o, e _ _ h⟩)
  · exact .inr h
/-- over a heap G that does not know b, b's object put on top -/
theorem up_same {G : Hp} {b : Addr} {β : HO} (hb : G b = none) : Same G (upd G b β) := same_new hb
theorem up_get {G : Hp} {a b : Addr} {o β : HO} (hb : G b = none) (h : G a = some o) : upd G b β a = some o := same_new hb _ _ h
theorem up_none {G : Hp} {p b : Addr} {β : HO} (h : upd G b β p = none) : G p = none ∧ p ≠ b := by
  by_cases e : p = b
  · rw [e, upd_same] at h; cases h
  · rw [upd_ne e] at h; exact ⟨h, e⟩
theorem upd_swap {G : Hp} {a b : Addr} {o β : HO} (h : a ≠ b) : upd (upd G b β) a o = upd (upd G a o) b β := by
  funext c
  unfold upd
  by_cases h1 : c = a
  · subst h1
    simp [h]
  · simp [h1]
theorem up_new {G : Hp} {b : Addr} {β o : HO} {P : Addr → Hp → Prop} (hb : G b = none) (k : ∀ p G', G p = none → p ≠ b → G' = upd G p o → G' b = none → Same G G' → G' p = some o → P p (upd G' b β)) :
    ∀ p, upd G b β p = none → P p (upd (upd G b β) p o) := fun p hp => by
  obtain ⟨h1, h2⟩ := up_none hp
  rw [upd_swap h2]
  exact k p _ h1 h2 rfl (by rw [upd_ne (Ne.symm h2)]; exact hb) (same_new h1) upd_same
theorem k_setLu {G : Hp} {b : Addr} {xs ys : List V} {k : Int} {j : Nat} {w : V} {Q : Hp → Prop} (e : ixN xs.length k = some j) (ey : xs.set j w = ys) (q : Q (upd G b (.lst ys))) : rSetL (.ref b) (.int k) w (upd G b (.lst xs)) Q := by
  subst ey
  exact k_setL upd_same e (by rw [upd_upd]; exact q)
theorem upd_at {H H' : Hp} {p : Addr} {o : HO} (e : upd H p o = H') : H' p = some o := by rw [← e]; exact upd_same
theorem upd_sm {H H' : Hp} {p : Addr} {o : HO} (e : upd H p o = H') (n : H p = none) : Same H H' := by rw [← e]; exact same_new n
theorem split_up {G H' : Hp} {b : Addr} {β : HO} (hb : G b = none) (e : Same (upd G b β) H') : ∃ G', G' b = none ∧ Same G G' ∧ H' = upd G' b β := by
  refine ⟨fun a => if a = b then none else H' a, if_pos rfl, fun a o h => ?_, ?_⟩
  · show (if a = b then none else H' a) = some o
    have hne : a ≠ b := ne_of_none h hb
    rw [if_neg hne]
    exact e _ _ (up_get hb h)
  · funext a
    unfold upd
    by_cases h : a = b
    · rw [if_pos h, h]
      exact e _ _ upd_same
    · rw [if_neg h]
      show H' a = if a = b then none else H' a
      rw [if_neg h]
theorem kb_int_int : kitB "int" "int" = some true := by decide +kernel
theorem kb_int_bool : kitB "int" "bool" = some false := by decide +kernel
theorem kb_int_str : kitB "int" "str" = some false := by decide +kernel
theorem kb_int_list : kitB "int" "list" = some false := by decide +kernel
theorem kb_int_tuple : kitB "int" "tuple" = some false := by decide +kernel
theorem kb_int_dict : kitB "int" "dict" = some false := by decide +kernel
theorem kb_bool_int : kitB "bool" "int" = some true := by decide +kernel
theorem kb_bool_bool : kitB "bool" "bool" = some true := by decide +kernel
theorem kb_bool_str : kitB "bool" "str" = some false := by decide +kernel
theorem kb_bool_list : kitB "bool" "list" = some false := by decide +kernel
theorem kb_bool_tuple : kitB "bool" "tuple" = some false := by decide +kernel
theorem kb_bool_dict : kitB "bool" "dict" = some false := by decide +kernel
theorem kb_str_int : kitB "str" "int" = some false := by decide +kernel
theorem kb_str_bool : kitB "str" "bool" = some false := by decide +kernel
theorem kb_str_str : kitB "str" "str" = some true := by decide +kernel
theorem kb_str_list : kitB "str" "list" = some false := by decide +kernel
theorem kb_str_tuple : kitB "str" "tuple" = some false := by decide +kernel
theorem kb_str_dict : kitB "str" "dict" = some false := by decide +kernel
theorem kb_NoneType_int : kitB "NoneType" "int" = some false := by decide +kernel
theorem kb_NoneType_bool : kitB "NoneType" "bool" = some false := by decide +kernel
theorem kb_NoneType_str : kitB "NoneType" "str" = some false := by decide +kernel
theorem kb_NoneType_list : kitB "NoneType" "list" = some false := by decide +kernel
theorem kb_NoneType_tuple : kitB "NoneType" "tuple" = some false := by decide +kernel
theorem kb_NoneType_dict : kitB "NoneType" "dict" = some false := by decide +kernel
theorem kb_list_int : kitB "list" "int" = some false := by decide +kernel
theorem kb_list_bool : kitB "list" "bool" = some false := by decide +kernel
theorem kb_list_str : kitB "list" "str" = some false := by decide +kernel
theorem kb_list_list : kitB "list" "list" = some true := by decide +kernel
theorem kb_list_tuple : kitB "list" "tuple" = some false := by decide +kernel
theorem kb_list_dict : kitB "list" "dict" = some false := by decide +kernel
theorem kb_tuple_int : kitB "tuple" "int" = some false := by decide +kernel
theorem kb_tuple_bool : kitB "tuple" "bool" = some false := by decide +kernel
theorem kb_tuple_str : kitB "tuple" "str" = some false := by decide +kernel
theorem kb_tuple_list : kitB "tuple" "list" = some false := by decide +kernel
theorem kb_tuple_tuple : kitB "tuple" "tuple" = some true := by decide +kernel
theorem kb_tuple_dict : kitB "tuple" "dict" = some false := by decide +kernel
theorem kb_dict_int : kitB "dict" "int" = some false := by decide +kernel
theorem kb_dict_bool : kitB "dict" "bool" = some false := by decide +kernel
theorem kb_dict_str : kitB "dict" "str" = some false := by decide +kernel
theorem kb_dict_list : kitB "dict" "list" = some false := by decide +kernel
theorem kb_dict_tuple : kitB "dict" "tuple" = some false := by decide +kernel
theorem kb_dict_dict : kitB "dict" "dict" = some true := by decide +kernel
/-- isinstance of built-in types -/
theorem k_isi {K : PySem.W.Frag} {H : Hp} {v : V} {a T : String} {b : Bool} {Q : VK} (ty : TyX K H v (.type a)) (hk : kitB a T = some b) (k : Q (.bl b) H) : rIsi K [v, .ty T] H Q := ⟨v, .ty T, _, _, b, rfl, .ty T, ty, kit_ty hk, k⟩
theorem k_isiT {K : PySem.W.Frag} {H : Hp} {v : V} {p : Addr} {a T1 T2 : String} {b1 b2 : Bool} {Q : VK} (hp : H p = some (.tup [.ty T1, .ty T2])) (ty : TyX K H v (.type a)) (h1 : kitB a T1 = some b1) (h2 : kitB a T2 = some b2) (k : Q (.bl (b1 || b2)) H) : rIsiT K [v, .ref p] H Q :=
  ⟨v, p, _, _, _, b1 || b2, rfl, hp, .cons (.ty T1) (.cons (.ty T2) .nil), ty, kitAny_cons (kit_ty h1) (fun e => by subst e; exact kitAny_cons (kit_ty h2) (fun e => by subst e; exact kitAny_nil) (fun e => by subst e; rfl)) (fun e => by subst e; rfl), k⟩
/-- isinstance of an own instance -/
theorem k_isiO {K : PySem.W.Frag} {H : Hp} {v : V} {t : Value} {C : Addr} {b : Bool} {Q : VK} (ty : TyX K H v t) (hk : PySem.W.kitOne K t (.ref C) = some b) (k : Q (.bl b) H) : rIsi K [v, .ref C] H Q := ⟨v, .ref C, _, _, b, rfl, .own C, ty, hk, k⟩
theorem one_new {G : Hp} {o : HO} {P : Addr → Hp → Prop} (k : ∀ p G', G p = none → G' = upd G p o → Same G G' → G' p = some o → P p G') : ∀ p, G p = none → P p (upd G p o) := fun p hp => k p _ hp rfl (same_new hp) upd_same
theorem small_size {n : Nat} (h : n ≤ 1000000) : n ≤ sizeLine := Nat.le_trans h (by rw [sizeLine_eq]; decide)
theorem small_lt {n : Nat} (h : n ≤ 1000000) : n < sizeLine := Nat.lt_of_le_of_lt h (by rw [sizeLine_eq]; decide)

/-! ### fields by place: the names written, the values by place -/
def nin (x : Str) : List Str → Bool
  | [] => true
  | n :: r => !(n == x) && nin x r
def pos? (x : Str) : List Str → Option Nat
  | [] => none
  | n :: r => if n == x then some 0 else (pos? x r).map (· + 1)
abbrev FL (ns : List Str) (vs : List V) : List (Str × V) := ns.zip vs
theorem fl_get {x : Str} : ∀ {ns : List Str} {vs : List V} {i : Nat} {v : V}, pos? x ns = some i → vs[i]? = some v → (FL ns vs).lookup x = some v
  | [], _, _, _, h, _ => by cases h
  | n :: r, [], i, v, h, hv => by simp at hv
  | n :: r, w :: ws, i, v, h, hv => by
    unfold pos? at h
    show List.lookup x ((n, w) :: FL r ws) = some v
    rw [List.lookup_cons]
    by_cases e : n == x
    · rw [if_pos e] at h
      cases h
      have e' : (x == n) = true := by rw [beq_iff_eq] at e ⊢; exact e.symm
      rw [e']
      exact hv
    · rw [if_neg e] at h
      have e' : (x == n) = false := by
        rw [Bool.eq_false_iff]
        intro q
        rw [beq_iff_eq] at q
        exact e (by rw [q]; simp)
      rw [e']
      cases hp : pos? x r with
      | none => rw [hp] at h; cases h
      | some j =>
        rw [hp] at h
        cases h
        exact fl_get (ns := r) hp (by simpa using hv)
theorem fl_no {x : Str} : ∀ {ns : List Str} {vs : List V}, nin x ns = true → (FL ns vs).lookup x = none
  | [], _, _ => rfl
  | n :: r, [], _ => rfl
  | n :: r, w :: ws, h => by
    unfold nin at h
    simp only [Bool.and_eq_true, Bool.not_eq_true'] at h
    show List.lookup x ((n, w) :: FL r ws) = none
    have e' : (x == n) = false := by
      rw [Bool.eq_false_iff]
      intro q
      rw [beq_iff_eq] at q
      rw [q] at h
      simp at h
    rw [List.lookup_cons, e']
    exact fl_no h.2
theorem fl_put {x : Str} {v : V} : ∀ {ns : List Str} {vs : List V}, ns.length = vs.length → nin x ns = true → putF x v (FL ns vs) = FL (ns ++ [x]) (vs ++ [v])
  | [], [], _, _ => rfl
  | n :: r, w :: ws, hl, h => by
    unfold nin at h
    simp only [Bool.and_eq_true, Bool.not_eq_true'] at h
    have e' : ¬ n = x := fun q => by
      rw [q] at h
      simp at h
    show (if n = x then _ else (n, w) :: putF x v (FL r ws)) = _
    rw [if_neg e', fl_put (by simpa using hl) h.2]
    rfl
theorem fl_len {ns : List Str} {vs : List V} : (FL ns vs).length ≤ ns.length := by
  rw [List.length_zip]
  omega
section
variable {K : PySem.W.Frag} {σ : L2.St} {H : Hp} {Q : VK} {D : Ends} {ta tv : TE} {f : Str} {a C dx : Addr} {ns : List Str} {vs : List V} {v y : V}
def rFld (K : PySem.W.Frag) (f : Str) (x : V) (H : Hp) (Q : VK) : Prop := ∃ a C dx fs v, x = .ref a ∧ H a = some (.ins C dx fs) ∧ Cls K C ∧ NoAttr K C f ∧ fs.lookup f = some v ∧ Q v H
theorem k_fld (h : ta σ H fun x H1 => rFld K f x H1 Q) : tFld K ta f σ H Q := h
theorem k_fldAt {i : Nat} (h : H a = some (.ins C dx (FL ns vs))) (c : Cls K C) (n : NoAttr K C f) (hi : pos? f ns = some i) (hv : vs[i]? = some v) (q : Q v H) : rFld K f (.ref a) H Q := ⟨a, C, dx, _, v, rfl, h, c, n, fl_get hi hv, q⟩
def rPutF (K : PySem.W.Frag) (f : Str) (y x : V) (H : Hp) (Q : Hp → Prop) : Prop := ∃ a C dx fs, x = .ref a ∧ H a = some (.ins C dx fs) ∧ Cls K C ∧ NoAttr K C f ∧ fs.length < 1000 ∧ Q (upd H a (.ins C dx (putF f y fs)))
theorem k_putF (h : tv σ H fun y H1 => ta σ H1 fun x H2 => rPutF K f y x H2 fun H3 => D.nx σ H3) : sFld K ta tv f D σ H := h
theorem k_putAt {Q : Hp → Prop} (h : H a = some (.ins C dx (FL ns vs))) (c : Cls K C) (n : NoAttr K C f) (hl : ns.length = vs.length) (hn : nin f ns = true) (hs : ns.length < 1000) (q : Q (upd H a (.ins C dx (FL (ns ++ [f]) (vs ++ [y]))))) : rPutF K f y (.ref a) H Q :=
  ⟨a, C, dx, _, rfl, h, c, n, Nat.lt_of_le_of_lt fl_len hs, by rw [fl_put hl hn]; exact q⟩
/-- the same, the instance just laid on top -/
theorem k_putTop {Q : Hp → Prop} (c : Cls K C) (n : NoAttr K C f) (hl : ns.length = vs.length) (hn : nin f ns = true) (hs : ns.length < 1000) (q : Q (upd H a (.ins C dx (FL (ns ++ [f]) (vs ++ [y]))))) : rPutF K f y (.ref a) (upd H a (.ins C dx (FL ns vs))) Q :=
  k_putAt upd_same c n hl hn hs (by rw [upd_upd]; exact q)
end
theorem len_text {i : Int} {k : Nat} (hk : 0 < k) (h : i.natAbs < 10 ^ k) : (Str.ofString (toString i)).length ≤ k + 1 := by
  have e := PySem.int_text_length_le10 hk h
  rw [PySem.ofString_length]
  exact e
theorem log_text {i : Int} {k : Nat} (hk : k ≤ 1000) (h : i.natAbs < 2 ^ k) : i.natAbs.log2 < 1920 := by
  by_cases h0 : i.natAbs = 0
  · rw [h0]; decide
  · exact Nat.lt_of_lt_of_le ((Nat.log2_lt h0).mpr h) (by omega)

theorem k_disp {n : Nat} {P : Prop} (h : n ≤ 1000000) (k : P) : n ≤ sizeLine ∧ P := ⟨small_size h, k⟩
/-! ### loops -/
section
variable {K : PySem.W.Frag} {σ : L2.St} {H : Hp} {D : Ends} {wi : TI} {g : TG} {tb : TS} {tl : TE} {ta : TA} {a : Addr} {xs : List V}
def ForW (J : It) (g : TG) (tb : TS) (D : Ends) (σ : L2.St) (H1 : Hp) : Prop := ∃ W : Nat → Nat → L2.St → Hp → Prop, (∃ m, W 0 m σ H1) ∧ ∀ i m σ H, W i m σ H →
  (J.stop i H ∧ D.nx σ H) ∨ (J.go i H ∧ ∃ N : L2.St → Hp → Prop, (∀ σ' H', N σ' H' → ∃ m', m' < m ∧ W (i + 1) m' σ' H') ∧ ∀ x H', J.yld i H x H' → g x σ H' fun σ2 H2 => tb { D with nx := N, ct := N, bk := D.nx } σ2 H2)
theorem k_for (h : wi σ H fun J H1 => ForW J g tb D σ H1) : tFor wi g tb D σ H := h
def rIL (K : PySem.W.Frag) (R : It → Hp → Prop) (x : V) (H : Hp) : Prop := ∃ a, x = .ref a ∧ (∃ xs, SqL K H a xs) ∧ R (Itl K a) H
def rIT (K : PySem.W.Frag) (R : It → Hp → Prop) (x : V) (H : Hp) : Prop := ∃ a, x = .ref a ∧ (∃ xs, SqT K H a xs) ∧ R (Itt K a) H
theorem k_iList {R : It → Hp → Prop} (h : tl σ H fun x H1 => rIL K R x H1) : iList K tl σ H R := h
theorem k_iTup {R : It → Hp → Prop} (h : tl σ H fun x H1 => rIT K R x H1) : iTup K tl σ H R := h
theorem k_iL {R : It → Hp → Prop} (h : SqL K H a xs) (k : R (Itl K a) H) : rIL K R (.ref a) H := ⟨a, rfl, ⟨xs, h⟩, k⟩
theorem k_iT {R : It → Hp → Prop} (h : SqT K H a xs) (k : R (Itt K a) H) : rIT K R (.ref a) H := ⟨a, rfl, ⟨xs, h⟩, k⟩
theorem k_forList (xs : List V) (Pv : Nat → L2.St → Hp → Prop) (h0 : Pv 0 σ H) (hl : ∀ i σ H, i ≤ xs.length → Pv i σ H → SqL K H a xs)
    (hs : ∀ i x σ H, xs[i]? = some x → Pv i σ H → g x σ H fun σ2 H2 => tb { D with nx := Pv (i + 1), ct := Pv (i + 1), bk := D.nx } σ2 H2) (hd : ∀ σ H, Pv xs.length σ H → D.nx σ H) : ForW (Itl K a) g tb D σ H := for_list Pv h0 hl hs hd
theorem k_forTup (xs : List V) (Pv : Nat → L2.St → Hp → Prop) (h0 : Pv 0 σ H) (hl : ∀ i σ H, i ≤ xs.length → Pv i σ H → SqT K H a xs)
    (hs : ∀ i x σ H, xs[i]? = some x → Pv i σ H → g x σ H fun σ2 H2 => tb { D with nx := Pv (i + 1), ct := Pv (i + 1), bk := D.nx } σ2 H2) (hd : ∀ σ H, Pv xs.length σ H → D.nx σ H) : ForW (Itt K a) g tb D σ H := for_tup Pv h0 hl hs hd
def rR1 (R : It → Hp → Prop) (vs : List V) (H : Hp) : Prop := ∃ j : Int, vs = [.int j] ∧ -(2 ^ 62) ≤ j ∧ j < 2 ^ 62 ∧ R (Itr 0 j.toNat) H
def rR2 (R : It → Hp → Prop) (vs : List V) (H : Hp) : Prop := ∃ i j : Int, vs = [.int i, .int j] ∧ (-(2 ^ 62) ≤ i ∧ i < 2 ^ 62 ∧ -(2 ^ 62) ≤ j ∧ j < 2 ^ 62) ∧ R (Itr i (j - i).toNat) H
theorem k_rng1 {R : It → Hp → Prop} (h : ta σ H fun vs H1 => rR1 R vs H1) : iRng1 ta σ H R := h
theorem k_rng2 {R : It → Hp → Prop} (h : ta σ H fun vs H1 => rR2 R vs H1) : iRng2 ta σ H R := h
theorem k_r1 {R : It → Hp → Prop} {j : Int} (h : -(2 ^ 62) ≤ j ∧ j < 2 ^ 62) (k : R (Itr 0 j.toNat) H) : rR1 R [.int j] H := ⟨j, rfl, h.1, h.2, k⟩
theorem k_r2 {R : It → Hp → Prop} {i j : Int} (h : -(2 ^ 62) ≤ i ∧ i < 2 ^ 62 ∧ -(2 ^ 62) ≤ j ∧ j < 2 ^ 62) (k : R (Itr i (j - i).toNat) H) : rR2 R [.int i, .int j] H := ⟨i, j, rfl, h, k⟩
theorem k_forRange {lo : Int} {n : Nat} (Pv : Nat → L2.St → Hp → Prop) (h0 : Pv 0 σ H)
    (hs : ∀ i σ H, i < n → Pv i σ H → g (.int (lo + i)) σ H fun σ2 H2 => tb { D with nx := Pv (i + 1), ct := Pv (i + 1), bk := D.nx } σ2 H2) (hd : ∀ σ H, Pv n σ H → D.nx σ H) : ForW (Itr lo n) g tb D σ H := for_range Pv h0 hs hd
/-- comprehensions -/
def LcW (J : It) (g : TG) (tt : TT) (te : TE) (vs : List Nat) (σ : L2.St) (H1 : Hp) (D : Addr) (Qd : Hp → Prop) : Prop := ∃ W : Nat → Nat → Hp → Prop, (∃ m, W 0 m (upd H1 D (.lst []))) ∧ ∀ i m H, W i m H →
  (J.stop i H ∧ Qd H) ∨ (J.go i H ∧ ∃ Nx : Hp → Prop, (∀ H', Nx H' → ∃ m', m' < m ∧ W (i + 1) m' H') ∧ ∀ x H', J.yld i H x H' → g x (wipe σ vs) H' fun σ2 H2 => wipe σ2 vs = wipe σ vs ∧ tt σ2 H2 fun b H3 =>
    if b = true then te σ2 H3 fun y H4 => ∃ acc, H4 D = some (.lst acc) ∧ acc.length < sizeLine ∧ Nx (upd H4 D (.lst (acc ++ [y]))) else Nx H3)
theorem k_lc {tt : TT} {te : TE} {vs : List Nat} {Q : VK} (h : wi σ H fun J H1 => ∀ D, H1 D = none → LcW J g tt te vs σ H1 D (fun H2 => Q (.ref D) H2)) : tLc wi g tt te vs σ H Q := h
theorem k_lcList {tt : TT} {te : TE} {vs : List Nat} {D : Addr} {Qd : Hp → Prop} (xs : List V) (Pv : Nat → Hp → Prop) (h0 : Pv 0 (upd H D (.lst []))) (hl : ∀ i H, i ≤ xs.length → Pv i H → SqL K H a xs)
    (hs : ∀ i x H, xs[i]? = some x → Pv i H → g x (wipe σ vs) H fun σ2 H2 => wipe σ2 vs = wipe σ vs ∧ tt σ2 H2 fun b H3 =>
      if b = true then te σ2 H3 fun y H4 => ∃ acc, H4 D = some (.lst acc) ∧ acc.length < sizeLine ∧ Pv (i + 1) (upd H4 D (.lst (acc ++ [y]))) else Pv (i + 1) H3) (hd : ∀ H, Pv xs.length H → Qd H) : LcW (Itl K a) g tt te vs σ H D Qd := lc_list Pv h0 hl hs hd
theorem k_lcTup {tt : TT} {te : TE} {vs : List Nat} {D : Addr} {Qd : Hp → Prop} (xs : List V) (Pv : Nat → Hp → Prop) (h0 : Pv 0 (upd H D (.lst []))) (hl : ∀ i H, i ≤ xs.length → Pv i H → SqT K H a xs)
    (hs : ∀ i x H, xs[i]? = some x → Pv i H → g x (wipe σ vs) H fun σ2 H2 => wipe σ2 vs = wipe σ vs ∧ tt σ2 H2 fun b H3 =>
      if b = true then te σ2 H3 fun y H4 => ∃ acc, H4 D = some (.lst acc) ∧ acc.length < sizeLine ∧ Pv (i + 1) (upd H4 D (.lst (acc ++ [y]))) else Pv (i + 1) H3) (hd : ∀ H, Pv xs.length H → Qd H) : LcW (Itt K a) g tt te vs σ H D Qd := lc_tup Pv h0 hl hs hd
theorem k_lcRange {tt : TT} {te : TE} {vs : List Nat} {D : Addr} {Qd : Hp → Prop} {lo : Int} {n : Nat} (Pv : Nat → Hp → Prop) (h0 : Pv 0 (upd H D (.lst [])))
    (hs : ∀ i H, i < n → Pv i H → g (.int (lo + i)) (wipe σ vs) H fun σ2 H2 => wipe σ2 vs = wipe σ vs ∧ tt σ2 H2 fun b H3 =>
      if b = true then te σ2 H3 fun y H4 => ∃ acc, H4 D = some (.lst acc) ∧ acc.length < sizeLine ∧ Pv (i + 1) (upd H4 D (.lst (acc ++ [y]))) else Pv (i + 1) H3) (hd : ∀ H, Pv n H → Qd H) : LcW (Itr lo n) g tt te vs σ H D Qd := lc_range Pv h0 hs hd
theorem k_yes {Q : Bool → Hp → Prop} (h : Q true H) : tYes σ H Q := h
/-- a while by an invariant and a measure, the test read at once -/
theorem k_while {c : TT} (W : Nat → L2.St → Hp → Prop) (m : Nat) (h0 : W m σ H)
    (hs : ∀ m σ H, W m σ H → c σ H fun b H1 => if b = true then ∃ N : L2.St → Hp → Prop, (∀ σ' H', N σ' H' → ∃ m', m' < m ∧ W m' σ' H') ∧ tb { D with nx := N, ct := N, bk := D.nx } σ H1 else D.nx σ H1) : tWhile c tb D σ H := ⟨W, ⟨m, h0⟩, hs⟩
/-- list(..), tuple(..) of what is read -/
theorem k_listL {p : Addr} {ys : List V} {Q : VK} (h : SqL K H p ys) (k : ∀ l, H l = none → Q (.ref l) (upd H l (.lst ys))) : rListU K [.ref p] H Q := ⟨p, ys, rfl, .inl h, k⟩
theorem k_listT {p : Addr} {ys : List V} {Q : VK} (h : SqT K H p ys) (k : ∀ l, H l = none → Q (.ref l) (upd H l (.lst ys))) : rListU K [.ref p] H Q := ⟨p, ys, rfl, .inr h, k⟩
theorem k_tupleL {p : Addr} {ys : List V} {Q : VK} (h : SqL K H p ys) (k : ∀ l, H l = none → Q (.ref l) (upd H l (.tup ys))) : rTupleU K [.ref p] H Q := ⟨p, ys, rfl, .inl ⟨h, k⟩⟩
theorem k_slL {p : Addr} {ys : List V} {lo hi : Option Int} {Q : VK} (h : SqL K H p ys) (k : ∀ l, H l = none → Q (.ref l) (upd H l (.lst (cutV ys lo hi)))) : rSlL K (.ref p) lo hi H Q := ⟨p, ys, rfl, h, k⟩
end
theorem cut_ints {ns : List Int} {lo hi : Option Int} : ∃ ms : List Int, cutV (ns.map V.int) lo hi = ms.map V.int := by
  unfold cutV
  exact ⟨_, by rw [List.length_map, ← List.map_drop, ← List.map_take]⟩

/-! ### targets that are tuples; walks of any kind -/
section
variable {K : PySem.W.Frag} {σ : L2.St} {H : Hp} {D : Ends} {g : TG} {tb : TS} {n : Nat} {J : It} {G : Hp → Prop} {Y : Nat → Hp → V → Hp → Prop}
theorem k_gTup {p : Addr} {xs : List V} {t : TGs} {Q : L2.St → Hp → Prop} (h : SqT K H p xs) (hl : xs.length = n) (k : t xs σ H Q) : gTup K n t (.ref p) σ H Q := ⟨p, xs, rfl, h, hl, k⟩
theorem k_gCons {v : V} {r : List V} {t : TG} {u : TGs} {Q : L2.St → Hp → Prop} (k : t v σ H fun σ' H' => u r σ' H' Q) : gCons t u (v :: r) σ H Q := ⟨v, r, rfl, k⟩
theorem k_gNil {Q : L2.St → Hp → Prop} (k : Q σ H) : gNil [] σ H Q := ⟨rfl, k⟩
theorem k_forIt (w : Walk J n G Y) (Pv : Nat → L2.St → Hp → Prop) (h0 : Pv 0 σ H) (hG : ∀ i σ H, i ≤ n → Pv i σ H → G H)
    (hs : ∀ i x σ H H', i < n → Pv i σ H → Y i H x H' → g x σ H' fun σ2 H2 => tb { D with nx := Pv (i + 1), ct := Pv (i + 1), bk := D.nx } σ2 H2) (hd : ∀ σ H, Pv n σ H → D.nx σ H) : ForW J g tb D σ H := for_it w Pv h0 hG hs hd
theorem k_lcIt (w : Walk J n G Y) {tt : TT} {te : TE} {vs : List Nat} {D : Addr} {Qd : Hp → Prop} (Pv : Nat → Hp → Prop) (h0 : Pv 0 (upd H D (.lst []))) (hG : ∀ i H, i ≤ n → Pv i H → G H)
    (hs : ∀ i x H H', i < n → Pv i H → Y i H x H' → g x (wipe σ vs) H' fun σ2 H2 => wipe σ2 vs = wipe σ vs ∧ tt σ2 H2 fun b H3 =>
      if b = true then te σ2 H3 fun y H4 => ∃ acc, H4 D = some (.lst acc) ∧ acc.length < sizeLine ∧ Pv (i + 1) (upd H4 D (.lst (acc ++ [y]))) else Pv (i + 1) H3) (hd : ∀ H, Pv n H → Qd H) : LcW J g tt te vs σ H D Qd := lc_it w Pv h0 hG hs hd
theorem k_iEnum {ta : TA} {R : It → Hp → Prop} (h : ta σ H fun vs H1 => ∃ a xs, vs = [.ref a] ∧ SqL K H1 a xs ∧ R (Ite K a) H1) : iEnum K ta σ H R := h
theorem k_iZip {ta : TA} {R : It → Hp → Prop} (h : ta σ H fun vs H1 => ∃ a b xs ys, vs = [.ref a, .ref b] ∧ SqL K H1 a xs ∧ SqL K H1 b ys ∧ R (Itz K a b) H1) : iZip K ta σ H R := h
theorem kpi_enum {X : Cx} (K : PySem.W.Frag) {e : Expr} {ta : TA} {p pos tpos : Pos} {elts : List Expr} {kk : Nat} (hg : Gl X "enumerate") (hm : X.mg "enumerate" = none) (ha : PA X [e] ta) (hK : X.K = K := by rfl) (hs : starEach [e] X.env = [(false, eval e X.env)] := by rfl) :
    PI X (.Tuple elts kk tpos) (.Call (.Name "enumerate" p) [e] [] pos) (iEnum K ta) := by subst hK; exact pi_enum hg hm ha hs
end
def rJoin (K : PySem.W.Frag) (x : V) (y : V) (H : Hp) (Q : VK) : Prop := ∃ a p, ∃ ys : List Str, x = .str a ∧ [y] = [V.ref p] ∧ (SqL K H p (ys.map V.str) ∨ SqT K H p (ys.map V.str)) ∧ (ys.map (·.length)).sum + ys.length * a.length ≤ 16777216 ∧ Q (.str (Txt.join a ys)) H
def tJoinU (K : PySem.W.Frag) (to te : TE) : TE := fun σ H Q => to σ H fun x H1 => (∃ a, x = .str a) ∧ te σ H1 fun y H2 => rJoin K x y H2 Q
theorem kpe_join {X : Cx} (K : PySem.W.Frag) {o e : Expr} {to te : TE} {apos pos : Pos} (ho : PE X o to) (he : PE X e te) (hK : X.K = K := by rfl) (hs : starEach [e] X.env = [(false, eval e X.env)] := by rfl) (hbase : attributeBase o "join" X.env (eval o X.env) = eval o X.env := by rfl) (hline : (apos.endLine == pos.line) = true := by rfl) :
    PE X (.Call (.Attribute o "join" apos) [e] [] pos) (tJoinU K to te) := by subst hK; exact pe_join ho he hs hbase hline
theorem k_joinC {K : PySem.W.Frag} {σ : L2.St} {H : Hp} {Q : VK} {z : Str} {te : TE} (h : te σ H fun y H2 => rJoin K (.str z) y H2 Q) : tJoinU K (tC (.str z)) te σ H Q := ⟨⟨z, rfl⟩, h⟩
theorem k_joinL {K : PySem.W.Frag} {H : Hp} {Q : VK} {z : Str} {p : Addr} {ys : List Str} (h : SqL K H p (ys.map V.str)) (hz : (ys.map (·.length)).sum + ys.length * z.length ≤ 16777216) (k : ∀ out : Str, out = Txt.join z ys → Q (.str out) H) : rJoin K (.str z) (.ref p) H Q := ⟨z, p, ys, rfl, rfl, .inl h, hz, k _ rfl⟩
/-! ### f-strings, join -/
section
variable {σ : L2.St} {H : Hp} {te : TE}
theorem k_js {ts : List TE} {Q : VK} (h : tJs ts Str.empty σ H fun out H1 => Q (.str out) H1) : (fun (σ : L2.St) (H : Hp) (Q : VK) => tJs ts Str.empty σ H fun out H1 => Q (.str out) H1) σ H Q := h
theorem k_jsNil {acc : Str} {Q : Str → Hp → Prop} (h : Q acc H) : tJs [] acc σ H Q := h
theorem k_jsCons {ts : List TE} {acc : Str} {Q : Str → Hp → Prop} (h : te σ H fun x H1 => ∃ y : Str, x = .str y ∧ (acc ++ y).length ≤ sizeLine ∧ tJs ts (acc ++ y) σ H1 Q) : tJs (te :: ts) acc σ H Q := h
theorem k_jsV {acc z : Str} {P : Str → Prop} (h : (acc ++ z).length ≤ 1000000) (k : P z) : ∃ y : Str, V.str z = .str y ∧ (acc ++ y).length ≤ sizeLine ∧ P y := ⟨z, rfl, small_size h, k⟩
def rFmt (x : V) (H : Hp) (Q : VK) : Prop := (∃ y : Str, x = .str y ∧ y.length ≤ sizeLine ∧ Q (.str y) H) ∨ ∃ i : Int, x = .int i ∧ i.natAbs.log2 < 1920 ∧ Q (.str (toString i)) H
theorem k_fmt {Q : VK} (h : te σ H fun x H1 => rFmt x H1 Q) : tFmt te σ H Q := h
theorem k_fmtS {z : Str} {Q : VK} (h : z.length ≤ 1000000) (k : Q (.str z) H) : rFmt (.str z) H Q := .inl ⟨z, rfl, small_size h, k⟩
theorem k_fmtI {i : Int} {Q : VK} (h : i.natAbs < 2 ^ 64) (k : Q (.str (toString i)) H) : rFmt (.int i) H Q := .inr ⟨i, rfl, log_text (k := 64) (by decide) h, k⟩
theorem k_str1 {i : Int} {Q : VK} (h : i.natAbs < 2 ^ 64) (k : Q (.str (toString i)) H) : rStr1 [.int i] H Q := ⟨i, rfl, log_text (k := 64) (by decide) h, k⟩
end
theorem len_empty : Str.empty.length = 0 := by decide +kernel

/-! ### what changes one object alone -/
def SameBut (a : Addr) (H H' : Hp) : Prop := ∀ b o, b ≠ a → H b = some o → H' b = some o
theorem SameBut.refl (a : Addr) (H : Hp) : SameBut a H H := fun _ _ _ h => h
theorem SameBut.trans {a : Addr} {H H1 H2 : Hp} (x : SameBut a H H1) (y : SameBut a H1 H2) : SameBut a H H2 := fun b o n h => y b o n (x b o n h)
theorem SameBut.of {a : Addr} {H H' : Hp} (x : Same H H') : SameBut a H H' := fun b o _ h => x b o h
theorem SameBut.put {a : Addr} {H H' : Hp} {o : HO} (x : SameBut a H H') : SameBut a H (upd H' a o) := fun b u n h => by
  rw [upd_ne n]
  exact x b u n h
/-- the object was new: all is as it was -/
theorem SameBut.made {x dx : Addr} {H H' : Hp} {C : Addr} {fs : List (Str × V)} (hx : H x = none) (hd : H dx = none) (ne : dx ≠ x) (s : SameBut x (upd (upd H dx (.own x)) x (.ins C dx fs)) H') : Same H H' := fun b o h => by
  have n1 : b ≠ x := ne_of_none h hx
  have n2 : b ≠ dx := ne_of_none h hd
  exact s b o n1 (by rw [upd_ne n1, upd_ne n2]; exact h)
theorem cc_look {cc : Addr} : List.lookup ("__class__" : Str) [(("__class__" : Str), cc)] = some cc := by
  rw [List.lookup_cons]
  simp
end Kit

/-! Sup: methods of the program's own classes that say super().m(..): the def closes over its class. -/
namespace Kit
open PySem PySem.Spec PyProof.Rows L2

structure SupAt (K : PySem.W.Frag) (C D f2 : Addr) (name : Str) : Prop where
  sub : PySem.W.mroIn K C (.ref D) = some true
  m : PySem.W.ks_superIn K C D name = some (some (.ref f2))
  fn : PySem.W.fnIn K f2 = true
  ty : PySem.W.typeIn K (.ref f2) = some (.type "function")
structure SupDef (P : Program) (K : PySem.W.Frag) (mg : Str → Option Value) (f D cc cda : Addr) (sf : Str) : Prop where
  fn : ∃ oc od fd osl ar, K.lookup f = some ⟨oc, od, .func fd, osl⟩ ∧ (fd.params.posonlyargs ++ fd.params.args).head? = some ar ∧ ar.arg = sf
  code : ∃ ccl cdd vs ccs file tf, K.lookup cda = some ⟨ccl, cdd, .fields vs, ccs⟩ ∧ vs[2]? = some (.str file tf) ∧ ((P.main.file : Str) == file) = true
  cell : ∃ cl cld csl, K.lookup cc = some ⟨cl, cld, .cell (some (.ref D)), csl⟩
  cls : ∃ cdD, PySem.W.clsIn K D = some cdD
  sup : mg "super" = none
  top : (P.main.scope.names.lookup ("super" : Str)).isSome = false
  st : PySem.W.nsIn K cStatics "thirdparty.any" = some none

/-- a block, a statement, in the activation of the def whose whole body is told -/
structure PSA (X : Cx) (body sts : List Stmt) (t : TS) : Prop where
  go : ∀ (pins : List (Addr × Obj)) (s : Shared) (σ : L2.St) (H : Hp) (D : Ends), Inv X pins σ H s → t D σ H → PySem.wpAt (model X.prog X.w) X.A (.func body X.env) (execs sts X.env) (SP X pins D) X.xe s
structure PSt (X : Cx) (body : List Stmt) (st : Stmt) (t : TS) : Prop where
  go : ∀ (pins : List (Addr × Obj)) (s : Shared) (σ : L2.St) (H : Hp) (D : Ends), Inv X pins σ H s → t D σ H → PySem.wpAt (model X.prog X.w) X.A (.func body X.env) (exec st X.env) (SP X pins D) X.xe s
section
variable {X : Cx} {body rest sts : List Stmt} {st : Stmt} {t u : TS}
theorem psa_of (h : PSs X sts t) : PSA X body sts t := ⟨fun pins s σ H D I q => wpAt_of_wpAny (h.run pins s σ H D I q)⟩
theorem pst_of (h : PS X st t) : PSt X body st t := ⟨fun pins s σ H D I q => wpAt_of_wpAny (h.run pins s σ H D I q)⟩
theorem psa_cons (h1 : PSt X body st t) (h2 : PSA X body rest u) : PSA X body (st :: rest) (tSeq t u) := by
  refine ⟨fun pins s σ H D I q => ks_wpAt_execs_cons (ks_wpAt_mono (h1.go pins s σ H _ I q) (fun fl s' hf => ?_) fun _ _ z => z)⟩
  cases fl with
  | next =>
    obtain ⟨σ', H', I', q'⟩ := hf
    exact h2.go pins s' σ' H' D I' q'
  | ret v => exact hf
  | brk => exact hf
  | cont => exact hf
theorem psa_one (h1 : PSt X body st t) : PSA X body [st] t := by
  refine ⟨fun pins s σ H D I q => ks_wpAt_execs_cons (ks_wpAt_mono (h1.go pins s σ H _ I q) (fun fl s' hf => ?_) fun _ _ z => z)⟩
  cases fl with
  | next => exact wpAt_of_wpAny (wpAny_execs_nil hf)
  | ret v => exact hf
  | brk => exact hf
  | cont => exact hf

/-- super().m(e, ..) as a statement; self in the first slot -/
def tSup (K : PySem.W.Frag) (D : Addr) (name : Str) (f2 : Addr) (sp : Sp) (dvs : List V) (E : XK) (ta : TA) : TS := fun B σ H => ∃ a C dx fs, σ[0]? = some (some (V.ref a)) ∧ H a = some (.ins C dx fs) ∧ SupAt K C D f2 name ∧
  ∀ q, H q = none → ta σ (upd H q (.met f2 a)) fun vs H1 => H1 q = some (.met f2 a) ∧ sp (.ref a :: (vs ++ dvs)) H1 (fun _ H2 => B.nx σ H2) E
theorem pst_super {f D cc cda f2 : Addr} {self name : Str} {e : Expr} {es : List Expr} {ta : TA} {sp : Sp} {dvs : List V} {ds : List Value} {E : XK} {CX : CXT} {k : Nat} {fd2 : FuncData} {ps : List Str} {p0 p1 apos pos spos : Pos} {pl : Sem Bool}
    (S : SupDef X.prog X.K X.mg f D cc cda self) (hfu : X.env.func = some f) (hco : X.env.code = .ref cda) (hks : X.env.kindOf "super" = some .globalImplicit) (hkc : X.env.kindOf "__class__" = some .free) (hcc : X.env.cells.lookup ("__class__" : Str) = some cc)
    (hN : X.N[0]? = some self) (hv : X.env.scope.names.lookup self = some .local) (hn : (name == ("__class__" : Str)) = false)
    (F : FnOk X.prog X.w X.K X.mg X.base CX k f2 fd2 ps sp) (hr : Room k X.A) (hb : Binds X.K fd2 ps ds) (hd : Vals dvs ds) (hx : Passes CX X E) (ha : PA X (e :: es) ta)
    (hs : swapsWith (.Call (.Attribute (.Call (.Name "super" p0) [] [] p1) name apos) (e :: es) [] pos) none spos.line X.env = pure false := by rfl)
    (he0 : eval (.Call (.Attribute (.Call (.Name "super" p0) [] [] p1) name apos) (e :: es) [] pos) X.env = (do
      let ov ← attributeBase (.Call (.Name "super" p0) [] [] p1) name X.env (eval (.Call (.Name "super" p0) [] [] p1) X.env)
      standAt apos.atName
      let (f, first) ← holding [ov] (getMethod ov name pl)
      callWith pos f first (backTo pos (starEach (e :: es) X.env)) []) := by rfl)
    (he : starEach (e :: es) X.env = (false, eval e X.env) :: starEach es X.env := by rfl) (hpl : (backTo pos (starEach es X.env)).any (·.1) = false := by rfl) :
    PSt X body (.Expr (.Call (.Attribute (.Call (.Name "super" p0) [] [] p1) name apos) (e :: es) [] pos) spos) (tSup X.K D name f2 sp dvs E ta) := by
  refine ⟨fun pins s σ H B I h => ?_⟩
  obtain ⟨a, C, dx, fs, hσ, hH, SA, q⟩ := h
  obtain ⟨oc, od, fd, osl, ar, lkf, hhead, har⟩ := S.fn
  obtain ⟨ccl, cdd, vs, ccs, file, tf, lkc, hvs, hfile⟩ := S.code
  obtain ⟨cl, cld, csl, lkcell⟩ := S.cell
  obtain ⟨cdD, hD⟩ := S.cls
  have KI := I.kIn
  obtain ⟨mA, OM, _⟩ := ins_get I.hok hH
  obtain ⟨odx, IA, _⟩ := OM.look
  obtain ⟨oD, hD1, hD2⟩ : ∃ oD, s.heap.get? D = some oD ∧ oD.data = .cls cdD := by
    unfold PySem.W.clsIn at hD
    split at hD
    · rename_i c d cd' sl ho
      cases hD
      exact ⟨_, KI _ _ ho, rfl⟩
    · cases hD
  obtain ⟨m, hns, hloc⟩ := I.loc
  obtain ⟨u, ru, lk⟩ := hloc 0 self (.ref a) hN hσ (.inl hv)
  cases ru
  have hself : m self = some (.ref a) := by
    rcases lk with ⟨_, z⟩ | ⟨z, _⟩
    · exact z
    · have z' : X.env.scope.names.lookup self = some .cell ∨ X.env.scope.names.lookup self = some .free := z
      rw [hv] at z'
      rcases z' with z' | z' <;> cases z'
  refine ks_wpAt_Expr_any ?_ I.quiet hs
  refine ks_wpAt_MethodCall ?_ he0
  refine ks_wpAt_super_base (env := X.env) hks hkc hn hfu (KI _ _ lkf) rfl hhead hco (KI _ _ lkc) rfl hvs hfile S.top ?_
  obtain ⟨mb, hb1, hb2⟩ := I.mod.blt
  refine PySem.W.ks_loadName_global I.ok.kind hks (Calls.loadGlobal_builtin (by rw [I.ok.glob]; exact I.mod.glob.keeps I.bk) S.sup (by rw [I.ok.blt]; exact hb1.keeps I.bk) ((hb2 "super" (by decide)).trans (show bootBuiltins "super" = some (.type "super") by decide +kernel)) ⟨rfl, ?_⟩)
  refine wpAny_loadName_free I.ok.kind hkc hcc ⟨_, KI _ _ lkcell, rfl⟩ ?_
  rw [har]
  refine wpAny_loadName_local I.ok.kind hv hns hself ?_
  refine ks_wpAny_isType_cls hD1 hD2 ⟨rfl, ?_⟩
  obtain ⟨hp, g, dr, tk, os⟩ := s
  refine ks_wpAny_call_super hD1 hD2 IA.at_ IA.cls (fun c e => ?_) (PySem.W.looks_mroIn KI SA.sub) (fun h' e k => ?_)
  · have z := IA.no
    unfold PySem.W.notCls at z
    rw [e] at z
    exact Bool.noConfusion z
  have I1 : Inv X pins σ H ⟨h', g, dr, tk, os⟩ := I.kept (t' := tk) k
  have KI1 := I1.kIn
  have hm := SA.m
  unfold PySem.W.ks_superIn at hm
  obtain ⟨cd, hc⟩ : ∃ cd, PySem.W.clsIn X.K C = some cd := by
    cases hc : PySem.W.clsIn X.K C with
    | none => rw [hc] at hm; cases hm
    | some cd => exact ⟨cd, rfl⟩
  rw [hc] at hm
  obtain ⟨of, lof, hofc⟩ : ∃ of, X.K.lookup f2 = some of ∧ of.cls = .type "function" := by
    have ht' : (X.K.lookup f2).map (·.cls) = some (.type "function") := SA.ty
    cases z : X.K.lookup f2 with
    | none => rw [z] at ht'; cases ht'
    | some of => rw [z] at ht'; exact ⟨of, rfl, Option.some.inj ht'⟩
  refine ks_wpAny_getMethod_super e (PySem.W.looks_opaque KI1 S.st) (l₀ := cd.mro) ?_ rfl KI1 hm (KI1 _ _ lof) hofc (PySem.W.ks_ne KI IA hc) hn ?_
  · exact fun A Q E s k q => wpAny_bind ((PySem.W.looks_clsIn KI1 hc) A _ E s k (wpAny_pure q))
  have nq : H h'.objs.size = none := I1.hok.fresh (Nat.le_refl _)
  have hq0 : (h'.push { cls := .type "method", data := .fields #[.ref f2, .ref a] }).get? h'.objs.size = some (PySem.W.methodObj (.ref f2) (.ref a)) := Heap.get?_push_at rfl rfl
  have I2 : Inv X pins σ (upd H h'.objs.size (.met f2 a)) ⟨h'.push { cls := .type "method", data := .fields #[.ref f2, .ref a] }, g, dr, tk + 1, os⟩ :=
    I1.laid (t' := tk + 1) (a := h'.objs.size) (o := .met f2 a) (h' := h'.push { cls := .type "method", data := .fields #[.ref f2, .ref a] }) (fun b o e => Heap.get?_push_of_some _ e) (Nat.le_refl _) hq0
  have hq := q h'.objs.size nq
  generalize h'.objs.size = qa at *
  refine PySem.W.callWith_of (P := fun h => PySem.W.MethP X.K qa f2 (.ref a) h) (by rw [he]; show ((false || (backTo pos (starEach es X.env)).any (·.1)) || false) = false; rw [hpl]; rfl) (PySem.W.keeps_M SA.fn) ?_
  rw [he]
  refine PySem.Calls.evalArgs_plain ?_
  have hrun := ha.run pos pins _ σ _ _ I2 hq
  rw [he] at hrun
  refine thn hrun fun us s1 ⟨ws, H1, I3, r1, hqm, hsp⟩ => ?_
  have hmo : s1.heap.get? qa = some (PySem.W.methodObj (.ref f2) (.ref a)) := I3.hok qa _ hqm
  refine ⟨⟨hmo, I3.kIn⟩, wpAny_call (ks_codeAny_call_bound hmo ?_)⟩
  have r2 : Vals (V.ref a :: (ws ++ dvs)) (Value.ref a :: (us ++ ds)) := .cons rfl (r1.append hd)
  have hl : (Value.ref a :: us ++ ds).length = ps.length := by
    have e := r2.length
    rw [F.len _ _ _ _ hsp] at e
    exact e.symm
  refine codeAny_mono (F.run X.A X.stack s1 H1 ⟨Value.ref a :: us, []⟩ (Value.ref a :: (us ++ ds)) _ _ E hr I3.env0 (hb _ (Value.ref a :: us) I3.kIn hl) r2 hsp) fun r s' hq' => ?_
  cases r with
  | error er => exact hx pins σ H1 s1 er s' I3 hq'
  | ok fl =>
    cases fl with
    | ret v =>
      obtain ⟨x, H2, I4, rx, q4⟩ := I3.after hq'
      exact ⟨σ, H2, I4, q4⟩
    | next => exact False.elim hq'
    | brk => exact False.elim hq'
    | cont => exact False.elim hq'
end

theorem kpst_super (K : PySem.W.Frag) {f D cc cda f2 : Addr} {self name : Str} {e : Expr} {es : List Expr} {ta : TA} {sp : Sp} {dvs : List V} {ds : List Value} {E : XK} {CX : CXT} {k : Nat} {fd2 : FuncData} {ps : List Str} {p0 p1 apos pos spos : Pos} {pl : Sem Bool}
    (S : SupDef X.prog X.K X.mg f D cc cda self) (hfu : X.env.func = some f) (hco : X.env.code = .ref cda) (hks : X.env.kindOf "super" = some .globalImplicit) (hkc : X.env.kindOf "__class__" = some .free) (hcc : X.env.cells.lookup ("__class__" : Str) = some cc)
    (hN : X.N[0]? = some self) (hv : X.env.scope.names.lookup self = some .local) (hn : (name == ("__class__" : Str)) = false)
    (F : FnOk X.prog X.w X.K X.mg X.base CX k f2 fd2 ps sp) (hr : Room k X.A) (hb : Binds X.K fd2 ps ds) (hd : Vals dvs ds) (hx : Passes CX X E) (ha : PA X (e :: es) ta) (hK : X.K = K := by rfl)
    (hs : swapsWith (.Call (.Attribute (.Call (.Name "super" p0) [] [] p1) name apos) (e :: es) [] pos) none spos.line X.env = pure false := by rfl)
    (he0 : eval (.Call (.Attribute (.Call (.Name "super" p0) [] [] p1) name apos) (e :: es) [] pos) X.env = (do
      let ov ← attributeBase (.Call (.Name "super" p0) [] [] p1) name X.env (eval (.Call (.Name "super" p0) [] [] p1) X.env)
      standAt apos.atName
      let (f, first) ← holding [ov] (getMethod ov name pl)
      callWith pos f first (backTo pos (starEach (e :: es) X.env)) []) := by rfl)
    (he : starEach (e :: es) X.env = (false, eval e X.env) :: starEach es X.env := by rfl) (hpl : (backTo pos (starEach es X.env)).any (·.1) = false := by rfl) :
    PSt X body (.Expr (.Call (.Attribute (.Call (.Name "super" p0) [] [] p1) name apos) (e :: es) [] pos) spos) (tSup K D name f2 sp dvs E ta) := by
  subst hK
  exact pst_super S hfu hco hks hkc hcc hN hv hn F hr hb hd hx ha hs he0 he hpl
theorem k_sup {K : PySem.W.Frag} {D0 f2 a C dx : Addr} {name : Str} {sp : Sp} {dvs : List V} {E : XK} {ta : TA} {B : Ends} {σ : L2.St} {H : Hp} {fs : List (Str × V)} (h0 : σ[0]? = some (some (V.ref a))) (h1 : H a = some (.ins C dx fs)) (h2 : SupAt K C D0 f2 name)
    (k : ∀ q H', H q = none → H' = upd H q (.met f2 a) → Same H H' → H' q = some (.met f2 a) → ta σ H' fun vs H1 => H1 q = some (.met f2 a) ∧ sp (.ref a :: (vs ++ dvs)) H1 (fun _ H2 => B.nx σ H2) E) : tSup K D0 name f2 sp dvs E ta B σ H :=
  ⟨a, C, dx, fs, h0, h1, h2, fun q nq => k q _ nq rfl (same_new nq) upd_same⟩
theorem PSA.nox {X : Cx} {body sts : List Stmt} {t : TS} (h : PSA X.nox body sts t) : PSA X body sts t := ⟨fun pins s σ H D I hw =>
  ks_wpAt_mono (h.go pins s σ H D (I.wish _) hw) (fun _ _ q => q.unwish) fun _ _ z => False.elim z⟩

/-- a method that closes over its class, as it stands behind the top -/
structure FunS (K : PySem.W.Frag) (x qual : Str) (st : Stmt) (f : Addr) (fd : FuncData) (cc cda : Addr) : Prop where
  ex : ∃ (oc : Value) (od : Option Addr) (kV doc pm : Value) (an : Option Addr) (ct : Value) (osl : Array (Option Value)),
    fd = PySem.W.fnX x qual (defArgs st) (defBody st) (defScope st) [("__class__", cc)] .none kV doc pm an (.ref cda) ct ∧ K.lookup f = some ⟨oc, od, .func fd, osl⟩ ∧ PySem.W.codeIn K (.ref cda) qual = true
  kp : PySem.W.keepIn K (.ref f) = true
section
variable {P : Program} {w : World} {K : PySem.W.Frag} {mg : Str → Option Value} {base : Heap}
theorem funS_mk {x qual : Str} {st : Stmt} {f cc cda : Addr} {oc : Value} {od an : Option Addr} {osl : Array (Option Value)} {kV doc pm ct : Value} (l : K.lookup f = some ⟨oc, od, .func (PySem.W.fnX x qual (defArgs st) (defBody st) (defScope st) [("__class__", cc)] .none kV doc pm an (.ref cda) ct), osl⟩)
    (c : PySem.W.codeIn K (.ref cda) qual = true) (k : PySem.W.keepIn K (.ref f) = true) : FunS K x qual st f (PySem.W.fnX x qual (defArgs st) (defBody st) (defScope st) [("__class__", cc)] .none kV doc pm an (.ref cda) ct) cc cda := ⟨⟨oc, od, kV, doc, pm, an, ct, osl, rfl, l, c⟩, k⟩
theorem FunS.binds {x qual : Str} {st : Stmt} {f cc cda : Addr} {fd : FuncData} {ps : List Str} (F : FunS K x qual st f fd cc cda)
    (h : ∀ (kV doc pm : Value) (an : Option Addr) (ct : Value) (us : List Value), us.length = ps.length → bindArgs (PySem.W.fnX x qual (defArgs st) (defBody st) (defScope st) [("__class__", cc)] .none kV doc pm an (.ref cda) ct) ⟨us, []⟩ = pure (ps.zip us)) : Binds K fd ps [] := by
  obtain ⟨oc, od, kV, doc, pm, an, ct, osl, rfl, lk, hcd⟩ := F.ex
  exact .all (h kV doc pm an ct)
abbrev nfS (x qual : Str) (st : Stmt) (cc cda : Addr) : NdefX.NF := ⟨x, qual, defArgs st, defBody st, defScope st, [("__class__", cc)], cda⟩
theorem FunS.ok {x qual : Str} {st : Stmt} {f cc cda D0 : Addr} {fd : FuncData} {N ps : List Str} {k : Nat} {sp : Sp} {cl : Value} {cld : Option Addr} {csl : Array (Option Value)} (F : FunS K x qual st f fd cc cda) (S : NdefX.NScope N ps ["__class__"] (defScope st))
    (hcell : K.lookup cc = some ⟨cl, cld, .cell (some (.ref D0)), csl⟩) (hbn : Binds K fd ps []) (len : ∀ vs H Q E, sp vs H Q E → vs.length = ps.length)
    (hbody : ∀ (A : Around) (outer : List Env) (s : Shared) (H : Hp) (vs : List V) (Q : VK) (E : XK), Room k (A.deeper (NdefX.envF (nfS x qual st cc cda) f s.heap.objs.size)) → sp vs H Q E →
      ∃ t, PSA (NdefX.ncx CX0 P w K mg base N (nfS x qual st cc cda) f A outer s H E).nox (defBody st) (defBody st) t ∧ t { nx := fun _ H' => Q .non H', rt := Q } (NdefX.startF N vs [some (.ref D0)]) H) :
    FnOk P w K mg base CX0 (k + 1) f fd ps sp := by
  obtain ⟨oc, od, kV, doc, pm, an, ct, osl, efd, lk, hcd⟩ := F.ex
  refine ⟨len, fun A outer s H args us vs Q E hr e0 hb r hsp => ?_⟩
  have hl := len _ _ _ _ hsp
  have KB := e0.mod.kin
  have KX : K.In s.heap := KB.keeps fun b o e => (e0.bs b o e).1
  have lim : s.heap.NoLimit := e0.mod.nolimit.keeps fun b o e => (e0.bs b o e).1
  have hc1 := e0.bs _ _ (KB _ _ hcell)
  have CA : NdefX.CellsAt [("__class__", cc)] ["__class__"] [some (.ref D0)] s.heap H := by
    have key : ∀ y c, List.lookup y [(("__class__" : Str), cc)] = some c → y = "__class__" ∧ c = cc := fun y c e => by
      rw [List.lookup_cons] at e
      by_cases hy : y = "__class__"
      · subst hy
        simp at e
        exact ⟨rfl, e.symm⟩
      · have : (y == ("__class__" : Str)) = false := by simpa using hy
        rw [this] at e
        cases e
    refine ⟨rfl, fun y c e => ?_, fun x y c e1 e2 => ((key x c e1).1).trans ((key y c e2).1).symm, fun i y e => ?_⟩
    · obtain ⟨rfl, rfl⟩ := key y c e
      exact ⟨hc1.2, _, _, hc1.1, rfl⟩
    · have hi : i = 0 := by
        have := (List.getElem?_eq_some_iff.mp e).1
        simp at this
        exact this
      subst hi
      have ey : ("__class__" : Str) = y := Option.some.inj e
      subst ey
      refine ⟨cc, by simp, fun v ev => ?_⟩
      have ev' : V.ref D0 = v := Option.some.inj (Option.some.inj ev)
      subst ev'
      exact ⟨.ref D0, rfl, _, hc1.1, rfl⟩
  subst efd
  refine codeAny_call_function hr.depth (KX _ _ lk) rfl S.co S.gen rfl (PySem.W.codeRec_of KX hcd) (hb _ _ _ _ ?_)
  refine wpAny_newFunctionEnv S.nocell (fun ⟨n, _⟩ hy => S.par n (List.of_mem_zip hy).1) (fun h₁ hns hsb => ⟨lim.fresh _ hsb, ?_⟩) S.kind
  show codeAny _ _ (.func (defBody st) (NdefX.envF (nfS x qual st cc cda) f s.heap.objs.size)) _ _
  have kp : ∀ b o, s.heap.get? b = some o → h₁.get? b = some o := fun b o e => hsb.extBut b o (Nat.ne_of_lt (Heap.lt_size e)) (Heap.get?_push_of_some _ e)
  obtain ⟨t, ht, hq⟩ := hbody A outer s H vs Q E (hr.deeper _) hsp
  have I : Inv (NdefX.ncx CX0 P w K mg base N (nfS x qual st cc cda) f A outer s H E) [] (NdefX.startF N vs [some (.ref D0)]) H { s with heap := h₁, toks := s.toks + (ps.zip us).length } :=
    NdefX.inv_startN (F := nfS x qual st cc cda) S hr.hd e0 hl r CA hns kp
  refine ks_codeAny_funcAt (ks_wpAt_mono (ht.nox.go [] _ _ H _ I hq) (fun fl s' hs => ?_) fun e s' hs => hs)
  have fin : ∀ {σ' : L2.St} {H' : Hp} {v : V} {u : Value}, Inv (NdefX.ncx CX0 P w K mg base N (nfS x qual st cc cda) f A outer s H E) [] σ' H' s' → L2.RelV v u → Q v H' → CE outer P w H s Q u s' :=
    fun {σ' H' v u} J rv q => ⟨v, H', J.os, J.bare, J.base, J.hok, rv, q⟩
  cases fl with
  | ret u =>
    obtain ⟨v, σ', H', J, rv, q⟩ := hs
    exact fin J rv q
  | next =>
    obtain ⟨σ', H', J, q⟩ := hs
    exact fin (v := V.non) (u := Value.none) J rfl q
  | brk =>
    obtain ⟨_, _, _, q⟩ := hs
    exact False.elim q
  | cont =>
    obtain ⟨_, _, _, q⟩ := hs
    exact False.elim q
end

/-! ### methods found by the instance's own class -/
/-- for an instance of C the method m keeps sp -/
def Disp (X : Cx) (CX : CXT) (k : Nat) (m : Str) (R : Addr → Sp → Prop) : Prop :=
  ∀ C sp, R C sp → ∃ g fd ps, Cls X.K C ∧ Meth X.K C m g ∧ FnOk X.prog X.w X.K X.mg X.base CX k g fd ps sp ∧ Binds X.K fd ps []
def tMethP (R : Addr → Sp → Prop) (m : Str) (E : XK) (ta : TE) (t : TA) : TE := fun σ H Q => ta σ H fun x H1 => ∃ a C dx fs sp, x = V.ref a ∧ H1 a = some (.ins C dx fs) ∧ R C sp ∧ fs.lookup m = none ∧ t σ H1 fun vs H2 => sp (x :: vs) H2 Q E
section
variable {X : Cx} {CX : CXT} {k : Nat} {m : Str} {R : Addr → Sp → Prop} {E : XK} {o e : Expr} {es : List Expr} {ta : TE} {t : TA} {apos pos : Pos} {pl : Sem Bool}
theorem kpe_methP (hR : Disp X CX k m R) (hr : Room k X.A) (hx : Passes CX X E) (he : PE X o ta) (ha : PA X (e :: es) t)
    (hst : starEach (e :: es) X.env = (false, eval e X.env) :: starEach es X.env := by rfl) (hpl : (backTo pos (starEach es X.env)).any (·.1) = false := by rfl)
    (ht : eval (.Call (.Attribute o m apos) (e :: es) [] pos) X.env = (do
      let ov ← eval o X.env
      standAt apos.atName
      let (f, first) ← holding [ov] (getMethod ov m pl)
      callWith pos f first (backTo pos (starEach (e :: es) X.env)) (backToKw pos (keywordEach [] X.env))) := by rfl) :
    PE X (.Call (.Attribute o m apos) (e :: es) [] pos) (tMethP R m E ta t) := by
  refine ⟨fun pins s σ H Q I h => PySem.W.methodCall_KW (pl := pl) (thn (he.run pins s σ H _ I h) fun u s1 hu => ?_) ht⟩
  obtain ⟨x, H1, I1, rx, a, C, dx, fs, sp, ex, ea, hRC, l, q⟩ := hu
  subst ex
  obtain rfl : u = Value.ref a := rx
  obtain ⟨g, fd, ps, c, hm, F, hb⟩ := hR C sp hRC
  refine getmeth_ok I1 ea c hm l (PySem.W.callWith_K (first := [.ref a]) (h₀ := X.base) I.ok.mod.kin hm.kp (thn (ha.run pos pins s1 σ H1 _ I1 q) fun us s2 hv => ?_) hst hpl)
  obtain ⟨vs, H2, I2, r, q2⟩ := hv
  exact ⟨I2.kIn, run_fn (us := .ref a :: us) (vs := .ref a :: vs) (dvs := []) (ds := []) F hr hb .nil hx I2 (.cons rfl r) (by rw [List.append_nil]; exact q2)⟩
theorem kpe_methP0 (hR : Disp X CX k m R) (hr : Room k X.A) (hx : Passes CX X E) (he : PE X o ta)
    (ht : eval (.Call (.Attribute o m apos) [] [] pos) X.env = (do
      let ov ← eval o X.env
      standAt apos.atName
      let (f, first) ← holding [ov] (getMethod ov m pl)
      callWith pos f first (backTo pos (starEach [] X.env)) (backToKw pos (keywordEach [] X.env))) := by rfl) :
    PE X (.Call (.Attribute o m apos) [] [] pos) (tMethP R m E ta tNil) := by
  refine ⟨fun pins s σ H Q I h => PySem.W.methodCall_KW (pl := pl) (thn (he.run pins s σ H _ I h) fun u s1 hu => ?_) ht⟩
  obtain ⟨x, H1, I1, rx, a, C, dx, fs, sp, ex, ea, hRC, l, q⟩ := hu
  subst ex
  obtain rfl : u = Value.ref a := rx
  obtain ⟨g, fd, ps, c, hm, F, hb⟩ := hR C sp hRC
  refine getmeth_ok I1 ea c hm l (PySem.W.callWith_K0 (first := [.ref a]) I1.kIn hm.kp ?_)
  exact run_fn (us := [.ref a]) (vs := [.ref a]) (dvs := []) (ds := []) F hr hb .nil hx I1 (.cons rfl .nil) q
/-- an instance called -/
def DispC (X : Cx) (CX : CXT) (k : Nat) (R : Addr → Sp → Prop) : Prop :=
  ∀ C sp, R C sp → ∃ g fd ps, StX.CallO X.K C g ∧ FnOk X.prog X.w X.K X.mg X.base CX k g fd ps sp ∧ Binds X.K fd ps []
def tCallP (R : Addr → Sp → Prop) (E : XK) (tf : TE) (t : TA) : TE := fun σ H Q => tf σ H fun y H1 => ∃ a C sp, y = V.ref a ∧ R C sp ∧ t σ H1 fun vs H2 => (∃ dx fs, H2 a = some (.ins C dx fs)) ∧ sp (V.ref a :: vs) H2 Q E
theorem kpe_callP {fe : Expr} {tf : TE} (hR : DispC X CX k R) (hr : Room k X.A) (hx : Passes CX X E) (hf : PE X fe tf) (ha : PA X (e :: es) t)
    (ht : eval (.Call fe (e :: es) [] pos) X.env = (do callWith pos (← eval fe X.env) [] (backTo pos (starEach (e :: es) X.env)) (backToKw pos (keywordEach [] X.env))) := by rfl)
    (he : starEach (e :: es) X.env = (false, eval e X.env) :: starEach es X.env := by rfl) (hpl : (backTo pos (starEach es X.env)).any (·.1) = false := by rfl) : PE X (.Call fe (e :: es) [] pos) (tCallP R E tf t) := by
  refine ⟨fun pins s σ H Q I h => Call_ (thn (hf.run pins s σ H _ I h) fun u s1 hu => ?_) ht⟩
  obtain ⟨y, H1, I1, ry, a, C, sp, ey, hRC, q⟩ := hu
  subst ey
  obtain rfl : u = Value.ref a := ry
  obtain ⟨g, fd, ps, c, F, hb⟩ := hR C sp hRC
  refine StX.callO_with (thn (ha.run pos pins s1 σ H1 _ I1 q) fun us s2 hv => ?_) he hpl
  obtain ⟨vs, H2, I2, r, hi, q2⟩ := hv
  obtain ⟨ox, od, J, hd⟩ := StX.insC_at I2 (.inr hi)
  refine ⟨⟨C, ox, od, J, hd⟩, ?_⟩
  have r2 : Vals (V.ref a :: vs) (Value.ref a :: us) := .cons rfl r
  have hl : (Value.ref a :: us).length = ps.length := by rw [← r2.length]; exact F.len _ _ _ _ q2
  refine wpAny_call (PySem.W.kco_code I2.kIn J hd c.at_ c.fn c.fi (codeAny_mono (F.run X.A X.stack s2 H2 ⟨Value.ref a :: us, []⟩ (Value.ref a :: us) (V.ref a :: vs) Q E hr I2.env0 ?_ r2 q2) fun res s' hq => ?_))
  · have z := hb s2 (Value.ref a :: us) I2.kIn (by rw [List.append_nil]; exact hl)
    rw [List.append_nil] at z
    exact z
  · cases res with
    | error er => exact hx pins σ H2 s2 er s' I2 hq
    | ok fl =>
      cases fl with
      | ret v => exact I2.after hq
      | next => exact False.elim hq
      | brk => exact False.elim hq
      | cont => exact False.elim hq
end

/-- what isinstance asks of an own class -/
structure ClsTy (K : PySem.W.Frag) (C : Addr) : Prop where
  cl : Cls K C
  ha : PySem.W.findIn K (.ref C) "__class__" = some (some (.builtin "object.__class__"))
  hn : PySem.W.specialIn K (.builtin "object.__class__") "__get__" = some (some (.builtin "getset_descriptor.__get__"))
  htk : PySem.W.takesIn K (.builtin "object.__class__") = some true
  hm : PySem.W.mroIn K C (.type "object") = some true
theorem ty_own {K : PySem.W.Frag} {H : Hp} {a C dx : Addr} {fs : List (Str × V)} (c : ClsTy K C) (e : H a = some (.ins C dx fs)) : TyX K H (.ref a) (.ref C) := .base (.ins e c.cl c.ha c.hn c.htk c.hm)
end Kit

namespace Kit
open PySem PySem.Spec PyProof.Rows L2
/-! ### super().__init__(..) in an own exception's __init__ -/
/-- a built-in __init__ bound to the object that is being made -/
def mwo (u a : Addr) : HO := .ext fun h => h.get? u = some (PySem.W.kxs_mw "ValueError.__init__" a)
structure SupAtE (K : PySem.W.Frag) (C D : Addr) : Prop where
  oex : OexC K C
  sub : PySem.W.mroIn K C (.ref D) = some true
  m : PySem.W.ks_superIn K C D "__init__" = some (some (.builtin "ValueError.__init__"))
  hB : PySem.W.subIn K (.ref C) (.type "ValueError") = some true
section
variable {prog : Program} {w : World} {A : Around} {E : Value → Shared → Prop} {h : Heap} {g : Array GenState} {dr : Drawn} {t : Nat} {os : OsState}
theorem call_mwE {K : PySem.W.Frag} {C a u t1 : Addr} {us : List Value} {Q : Value → Shared → Prop} (KX : K.In h) (T : OexC K C) (hu : h.get? u = some (PySem.W.kxs_mw "ValueError.__init__" a))
    (ha : h.get? a = some ({ cls := .ref C, dict := none, data := .fields #[.ref t1, .none, .none, .none, .bool false, .none] } : Obj)) (hl : us.length ≤ sizeLine)
    (hq : ∀ h' t2, (∀ b o, b ≠ a → h.get? b = some o → h'.get? b = some o) → h'.get? a = some (PySem.HandSPX.excO C t2) → Q .none ⟨h', g, dr, t, os⟩) : wpAny (model prog w) A (call (.ref u) us) Q E ⟨h, g, dr, t, os⟩ := by
  obtain ⟨nm, q, N, bs, bm, sn, sub, ab, col, dd, k0, k1, k2, k3, k5, hC, hbm⟩ := T.cls
  refine wpAny_call (codeAny_of_tree ?_)
  show wpAny (model prog w) A.in1 (callAny (.ref u) { pos := us, kw := [] }) _ _ _
  simp only [callAny]
  refine wpAny_bind (wpAny_load hu ?_)
  simp only [PySem.W.kxs_mw, show ((Value.type "method-wrapper" == Value.type "method") || (Value.type "method-wrapper" == Value.type "builtin_function_or_method") || (Value.type "method-wrapper" == Value.type "method-wrapper")) = true by decide, if_true]
  refine PySem.W.KFB.if_so (by decide) ?_
  refine wpAny_bind (PySem.W.check_bound_init F.excBase_ValueError.toExcCallFacts (KX _ _ hC) ha rfl ?_)
  refine wpAny_bind (wpAny_pure (wpAny_pure ?_))
  refine ⟨plainId_quiet F.excBase_ValueError.init.plain _, codeAny_builtin F.excBase_ValueError.initEntry ?_⟩
  wp_walk
  refine hq _ h.objs.size (fun c oc nc gc => ?_) ?_
  · rw [Heap.get?_update_other _ _ fun e => nc e.symm]; exact Heap.get?_push_of_some _ gc
  · rw [Heap.get?_update_self _ (Heap.get?_push_of_some _ ha) rfl]; rfl
end
section
variable {X : Cx} {body : List Stmt}
def tSupE (K : PySem.W.Frag) (D : Addr) (ta : TA) : TS := fun B σ H => ∃ a C, σ[0]? = some (some (V.ref a)) ∧ H a = some (exo a C none) ∧ SupAtE K C D ∧
  ∀ q, H q = none → ta σ (upd H q (mwo q a)) fun vs H1 => vs.length ≤ 1000 ∧ H1 q = some (mwo q a) ∧ H1 a = some (exo a C none) ∧ B.nx σ H1
theorem mwo_ok {P : Program} {w : World} {H : Hp} {h : Heap} {u a : Addr} (hu : h.get? u = some (PySem.W.kxs_mw "ValueError.__init__" a)) : ObjOk P w H h u (mwo u a) := ⟨hu, ⟨_, hu⟩, fun h1 h2 z k => k _ z⟩
theorem mwo_at {P : Program} {w : World} {H : Hp} {h : Heap} {u a : Addr} (hok : HOk P w H h) (e : H u = some (mwo u a)) : h.get? u = some (PySem.W.kxs_mw "ValueError.__init__" a) := by
  have z : ObjOk P w H h u (.ext fun h => h.get? u = some (PySem.W.kxs_mw "ValueError.__init__" a)) := hok u _ e
  exact z.1
theorem pst_supE {f D cc cda : Addr} {self : Str} {e : Expr} {es : List Expr} {ta : TA} {p0 p1 apos pos spos : Pos} {pl : Sem Bool}
    (S : SupDef X.prog X.K X.mg f D cc cda self) (hfu : X.env.func = some f) (hco : X.env.code = .ref cda) (hks : X.env.kindOf "super" = some .globalImplicit) (hkc : X.env.kindOf "__class__" = some .free) (hcc : X.env.cells.lookup ("__class__" : Str) = some cc)
    (hN : X.N[0]? = some self) (hv : X.env.scope.names.lookup self = some .local) (ha : PA X (e :: es) ta)
    (hs : swapsWith (.Call (.Attribute (.Call (.Name "super" p0) [] [] p1) "__init__" apos) (e :: es) [] pos) none spos.line X.env = pure false := by rfl)
    (he0 : eval (.Call (.Attribute (.Call (.Name "super" p0) [] [] p1) "__init__" apos) (e :: es) [] pos) X.env = (do
      let ov ← attributeBase (.Call (.Name "super" p0) [] [] p1) "__init__" X.env (eval (.Call (.Name "super" p0) [] [] p1) X.env)
      standAt apos.atName
      let (f, first) ← holding [ov] (getMethod ov "__init__" pl)
      callWith pos f first (backTo pos (starEach (e :: es) X.env)) []) := by rfl)
    (he : starEach (e :: es) X.env = (false, eval e X.env) :: starEach es X.env := by rfl) (hpl : (backTo pos (starEach es X.env)).any (·.1) = false := by rfl) :
    PSt X body (.Expr (.Call (.Attribute (.Call (.Name "super" p0) [] [] p1) "__init__" apos) (e :: es) [] pos) spos) (tSupE X.K D ta) := by
  refine ⟨fun pins s σ H B I h => ?_⟩
  obtain ⟨a, C, hσ, hH, SA, q⟩ := h
  obtain ⟨oc, od, fd, osl, ar, lkf, hhead, har⟩ := S.fn
  obtain ⟨ccl, cdd, vs, ccs, file, tf, lkc, hvs, hfile⟩ := S.code
  obtain ⟨cl, cld, csl, lkcell⟩ := S.cell
  obtain ⟨cdD, hD⟩ := S.cls
  have KI := I.kIn
  obtain ⟨t1, hget⟩ := exo_at I.hok hH
  have IA : PySem.W.InstAt s.heap a _ C none := ⟨hget, rfl, rfl, trivial⟩
  obtain ⟨oD, hD1, hD2⟩ : ∃ oD, s.heap.get? D = some oD ∧ oD.data = .cls cdD := by
    unfold PySem.W.clsIn at hD
    split at hD
    · rename_i c d cd' sl ho
      cases hD
      exact ⟨_, KI _ _ ho, rfl⟩
    · cases hD
  obtain ⟨m, hns, hloc⟩ := I.loc
  obtain ⟨u, ru, lk⟩ := hloc 0 self (.ref a) hN hσ (.inl hv)
  cases ru
  have hself : m self = some (.ref a) := by
    rcases lk with ⟨_, z⟩ | ⟨z, _⟩
    · exact z
    · have z' : X.env.scope.names.lookup self = some .cell ∨ X.env.scope.names.lookup self = some .free := z
      rw [hv] at z'
      rcases z' with z' | z' <;> cases z'
  refine ks_wpAt_Expr_any ?_ I.quiet hs
  refine ks_wpAt_MethodCall ?_ he0
  refine ks_wpAt_super_base (env := X.env) hks hkc (by decide) hfu (KI _ _ lkf) rfl hhead hco (KI _ _ lkc) rfl hvs hfile S.top ?_
  obtain ⟨mb, hb1, hb2⟩ := I.mod.blt
  refine PySem.W.ks_loadName_global I.ok.kind hks (Calls.loadGlobal_builtin (by rw [I.ok.glob]; exact I.mod.glob.keeps I.bk) S.sup (by rw [I.ok.blt]; exact hb1.keeps I.bk) ((hb2 "super" (by decide)).trans (show bootBuiltins "super" = some (.type "super") by decide +kernel)) ⟨rfl, ?_⟩)
  refine wpAny_loadName_free I.ok.kind hkc hcc ⟨_, KI _ _ lkcell, rfl⟩ ?_
  rw [har]
  refine wpAny_loadName_local I.ok.kind hv hns hself ?_
  refine ks_wpAny_isType_cls hD1 hD2 ⟨rfl, ?_⟩
  obtain ⟨hp, g, dr, tk, os⟩ := s
  refine ks_wpAny_call_super hD1 hD2 IA.at_ IA.cls (fun c e => ?_) (PySem.W.looks_mroIn KI SA.sub) (fun h' e k => ?_)
  · have z := IA.no
    unfold PySem.W.notCls at z
    rw [e] at z
    exact Bool.noConfusion z
  have I1 : Inv X pins σ H ⟨h', g, dr, tk, os⟩ := I.kept (t' := tk) k
  have KI1 := I1.kIn
  obtain ⟨t2, hget2⟩ := exo_at I1.hok hH
  have IB : PySem.W.InstAt h' a _ C none := ⟨hget2, rfl, rfl, trivial⟩
  have hm := SA.m
  unfold PySem.W.ks_superIn at hm
  obtain ⟨cd, hc⟩ : ∃ cd, PySem.W.clsIn X.K C = some cd := by
    cases hc : PySem.W.clsIn X.K C with
    | none => rw [hc] at hm; cases hm
    | some cd => exact ⟨cd, rfl⟩
  rw [hc] at hm
  refine PySem.W.kxs_getMethod PySem.W.kxs_ValueError e (PySem.W.looks_opaque KI1 S.st) (l₀ := cd.mro) ?_ rfl KI1 hm (IB.type.andThen (PySem.W.looks_subIn KI1 SA.hB)) (PySem.W.ks_ne KI IA hc) (by decide) ?_
  · exact fun A Q E s k q => wpAny_bind ((PySem.W.looks_clsIn KI1 hc) A _ E s k (wpAny_pure q))
  have nq : H h'.objs.size = none := I1.hok.fresh (Nat.le_refl _)
  have hq0 : (h'.push (PySem.W.kxs_mw "ValueError.__init__" a)).get? h'.objs.size = some (PySem.W.kxs_mw "ValueError.__init__" a) := Heap.get?_push_at rfl rfl
  have I2 : Inv X pins σ (upd H h'.objs.size (mwo h'.objs.size a)) ⟨h'.push (PySem.W.kxs_mw "ValueError.__init__" a), g, dr, tk + 1, os⟩ :=
    I1.laid (t' := tk + 1) (a := h'.objs.size) (o := mwo h'.objs.size a) (h' := h'.push (PySem.W.kxs_mw "ValueError.__init__" a)) (fun b o e => Heap.get?_push_of_some _ e) (Nat.le_refl _) (mwo_ok hq0)
  have hq := q h'.objs.size nq
  generalize h'.objs.size = qa at *
  rw [he]
  refine PySem.W.kxs_callWith (i := "ValueError.__init__") (x := a) (by show (false || (backTo pos (starEach es X.env)).any (·.1)) = false; rw [hpl]; rfl) ?_
  refine PySem.Calls.evalArgs_plain ?_
  have hrun := ha.run pos pins _ σ _ _ I2 hq
  rw [he] at hrun
  refine thn hrun fun us s1 ⟨ws, H1, I3, r1, hlen, hqm, hqa, hsp⟩ => ?_
  have hmo := mwo_at I3.hok hqm
  refine ⟨hmo, ?_⟩
  obtain ⟨t3, hget3⟩ := exo_at I3.hok hqa
  have hus : us.length ≤ sizeLine := by
    rw [← Paired.length r1, sizeLine_eq]
    omega
  obtain ⟨hp3, g3, dr3, tk3, os3⟩ := s1
  refine call_mwE I3.kIn SA.oex hmo hget3 hus fun h4 t4 k4 e4 => ?_
  have J := I3.write (t' := tk3) (x := a) (e := a) (o := exo a C none) (by rw [hqa]; exact True.intro) (.inl rfl) k4 ⟨_, e4⟩ (exo_ok e4)
  have eu : upd H1 a (exo a C none) = H1 := by
    funext b
    by_cases hb : b = a
    · rw [hb, upd_same, hqa]
    · rw [upd_ne hb]
  rw [eu] at J
  exact ⟨σ, H1, J, hsp⟩
end
/-! ### several except clauses, each with a name -/
abbrev endA (i : Nat) (D : Ends) : Ends := { nx := fun τ G => D.nx (τ.set i none) G, rt := D.rt, bk := fun τ G => D.bk (τ.set i none) G, ct := fun τ G => D.ct (τ.set i none) G }
abbrev ClA : Type := Value × Nat × (Addr → Value → Option Addr → TS)
def wManyA (K : PySem.W.Frag) (Wo : WX) (D : Ends) : List ClA → WX
  | [] => Wo
  | (c, i, ts) :: r => fun cls d τ G => ∃ hit, PySem.W.exmOne K cls c = some hit ∧ (hit = true → ∀ a, G a = none → ts a cls d (endA i D) (τ.set i (some (.ref a))) G) ∧ (hit = false → wManyA K Wo D r cls d τ G)
inductive HdsA (X : Cx) : List ExceptHandler → List ClA → Prop
  | nil : HdsA X [] []
  | cons {x n : Str} {c : Value} {i : Nat} {ts : Addr → Value → Option Addr → TS} {b0 : Stmt} {sts : List Stmt} {np ps : Pos} {hds : List ExceptHandler} {l : List ClA} (hi : X.N[i]? = some n) (hln : X.env.kindOf n = some .local) (hc : Names X x c)
      (hsu : ∀ (a : Addr) (oe : Obj) (cls : Value) (d : Option Addr) (pn : List (Addr × Obj)), Zc cls d oe → (∃ vs, oe.data = .fields vs) → PSs (X.suite a ((a, oe) :: pn)) (b0 :: sts) (ts a cls d)) (r : HdsA X hds l) :
      HdsA X (.ExceptHandler (some (.Name x np)) (some n) (b0 :: sts) ps :: hds) ((c, i, ts) :: l)
section
variable {X : Cx} {body : List Stmt} {h0 : ExceptHandler} {hds : List ExceptHandler} {l : List ClA} {pos : Pos} {tb : WX → TS} {Wo : WX}
theorem ps_try_manyA (est : X.stack = X.env :: X.outer) (efr : X.env.frame = some X.env.locals) (hN : X.N.Nodup) (tk : Takes X Wo)
    (hbd : ∀ (W : WX) (pn : List (Addr × Obj)) (xe : Value → Shared → Prop), Takes (X.tr pn xe) W → PassesOwn (model X.prog X.w) X.A X.env xe → PSs (X.tr pn xe) body (tb W))
    (hh : HdsA X (h0 :: hds) l) : PS X (.Try body (h0 :: hds) [] [] pos) (fun D σ H => tb (wManyA X.K Wo D l) D σ H) := by
  refine ⟨fun pins s0 σ H D I h => ?_⟩
  have okX := I.ok
  have frX : X.A.frames = some (X.env :: X.outer) := by rw [okX.frames, est]
  refine wpAny_Try_except ?_
  refine wpAny_mono ((hbd (wManyA X.K Wo D l) (X.pn ++ pins) (fun e s₁ => wpAny (model X.prog X.w) X.A (noteFrame e X.env) (fun _ s₂ => wpAny (model X.prog X.w) X.A (setFlight e none) (fun _ s₃ =>
    wpAny (model X.prog X.w) X.A (handleBy e X.env (h0 :: hds)) (SP X pins D) X.xe s₃) X.xe s₂) X.xe s₁) (fun u sE xx => ?_) PassesOwn.looking).run [] s0 σ H D (I.toTry _) h) (fun f s1 spf => ?_) (fun e s1 q => q)
  · obtain ⟨a, B, sJ, pin2, τ, G, cls, d, rfl, JT, nb, up, sky, na, os, ag, w⟩ := xx
    have J : Inv X pins τ G sJ := JT.ofTry okX
    have skyX : Sky B (X.env :: X.outer) a (Zc cls d) X.env.locals sE.heap := by rw [← est]; exact sky
    show wpAny (model X.prog X.w) X.A (noteFrame (.ref a) X.env) _ _ _
    refine Sky.land Zc.steady frX efr skyX fun h3 w3 up3 => ?_
    have J3 : Inv X pins τ G { sE with heap := h3 } := J.landed nb w3.1 (up.trans up3) os ag
    obtain ⟨o3, vs3, ge3, gz3, gd3⟩ := w3.there
    have far : ∀ {h : Heap} {o : Obj} {vs : Array Value}, h.FunFrames B (X.env :: X.outer) → h.get? a = some o → o.data = .fields vs → a ∉ frs (X.env :: X.outer) := fun {h o vs} ff e dd hm => by
      obtain ⟨_, o2, e2, hne⟩ := ff.mem hm
      rw [e] at e2; cases e2; exact hne _ dd
    have nfX := far w3.2.2.1 ge3 gd3
    have nLX : a ≠ X.env.locals := fun z => nfX (List.mem_filterMap.mpr ⟨X.env, List.mem_cons_self, by rw [efr, z]⟩)
    have nFX : a ∉ X.fs := fun hm => by
      obtain ⟨e, hem, q⟩ := List.mem_filterMap.mp hm
      exact nfX (List.mem_filterMap.mpr ⟨e, List.mem_cons_of_mem _ hem, q⟩)
    have S3 := J3.suite ge3 gd3 na nLX nFX
    have go : ∀ {hs : List ExceptHandler} {cl : List ClA}, HdsA X hs cl → wManyA X.K Wo D cl cls d τ G → wpAny (model X.prog X.w) X.A (handleBy (.ref a) X.env hs) (SP X pins D) X.xe { sE with heap := h3 } := by
      intro hs cl hk
      induction hk with
      | nil =>
        intro w
        refine wpAny_handleBy_nil ?_
        obtain ⟨k1, k2, k3, oe, vs, TT, oT, tsT, heT, hzT, hdT, h1T, hrT⟩ := id w3
        unfold PySem.passOn
        refine wpAny_bind (wpAny_field heT hdT h1T ?_)
        rw [if_neg (show ¬ ((Value.ref TT == Value.none) = true) from by simp)]
        have thrown : wpAny (model X.prog X.w) X.A (setFlight (.ref a) X.env.frame) (fun _ s4 => wpAny (model X.prog X.w) X.A (throw (.ref a) : Sem Flow) (SP X pins D) X.xe s4) X.xe { sE with heap := h3 } := by
          rw [efr]
          refine HandSPX.setFlight_upZ w3 fun h4 hh4 up4 => wpAny_throw (tk _ _ ?_)
          exact ⟨a, B, sJ, pins, τ, G, cls, d, rfl, J, nb, (up.trans up3).trans up4, .inr (.inr (by rw [est]; exact hh4)), na, os, ag, w⟩
        first | exact wpAny_bind (wpAny_pure (wpAny_bind thrown)) | exact wpAny_bind thrown
      | @cons x n c i ts b0 sts np ps hds2 l2 hi hln hc hsu r ih =>
        intro w
        obtain ⟨hit, hb1, hyes, hno⟩ := w
        refine wpAny_handleBy_cons (codeAny_handlers_test ?_) (by intro q; cases q)
        have LT : PySem.W.Looks (model X.prog X.w) h3 (typeOf (.ref a)) cls := fun A Q E s k q => wpAny_typeOf_ref (k _ _ ge3) (by rw [gz3.1]; exact q)
        have LM := PySem.W.exm_one (M := model X.prog X.w) (J3.kIn) LT hb1
        have tst : ∀ {Q : Value → Shared → Prop} {E : Value → Shared → Prop}, Q c { sE with heap := h3 } → wpAny (model X.prog X.w) (X.A.mark (some (.ref a))) (eval (.Name x np) X.env) Q E { sE with heap := h3 } := fun {Q E} q => by
          obtain ⟨hg, hdbg, hm | ⟨hm, hv, hnn⟩⟩ := hc
          · exact ld_glob (X := X.suite a ((a, o3) :: (X.pn ++ pins))) S3 hg hm q hdbg
          · exact ld_blt (X := X.suite a ((a, o3) :: (X.pn ++ pins))) S3 hg hm hv q hnn hdbg
        refine tst (LM.here ?_)
        cases hit with
        | false =>
          show wpAny (model X.prog X.w) X.A (handleBy (.ref a) X.env hds2) _ _ _
          exact ih (hno rfl)
        | true =>
          refine codeAny_handlers_suite_as ?_
          refine HandSPX.lands_againZ w3 fun h4 w4 up4 => ?_
          have J4 : Inv X pins τ G { sE with heap := h4 } := J.landed nb w4.1 ((up.trans up3).trans up4) os ag
          obtain ⟨o4, vs4, ge4, gz4, gd4⟩ := w4.there
          have S4 := J4.suite ge4 gd4 na nLX nFX
          refine store_ok (X := X.suite a ((a, o4) :: (X.pn ++ pins))) (v := .ref a) S4 hN hi (.inl hln) rfl (fun s5 S5 => ?_) (.inr hln)
          refine wpAny_mono ((hsu a o4 cls d (X.pn ++ pins) gz4 ⟨_, gd4⟩).run [] s5 _ G _ S5 (hyes rfl a na)) (fun f s6 sp6 => ?_) (fun _ _ z => False.elim z)
          have fin : ∀ {σ6 : L2.St} {H6 : Hp} {Q : Shared → Prop}, Inv (X.suite a ((a, o4) :: (X.pn ++ pins))) [] σ6 H6 s6 → (∀ s7, Inv X pins (σ6.set i none) H6 s7 → Q s7) →
              wpAny (model X.prog X.w) X.A (do bindName X.env n .none; unbindBehindTheSuite X.env n ps) (fun _ s7 => Q s7) X.xe s6 := fun {σ6 H6 Q} S6 hq => gone_ok (S6.unsuite okX) hN hi hln hq
          cases f with
          | ret u =>
            obtain ⟨v6, σ6, H6, S6, r6, q6⟩ := sp6
            exact fin S6 fun s7 J7 => ⟨_, _, _, J7, r6, q6⟩
          | next => obtain ⟨σ6, H6, S6, q6⟩ := sp6; exact fin S6 fun s7 J7 => ⟨_, _, J7, q6⟩
          | brk => obtain ⟨σ6, H6, S6, q6⟩ := sp6; exact fin S6 fun s7 J7 => ⟨_, _, J7, q6⟩
          | cont => obtain ⟨σ6, H6, S6, q6⟩ := sp6; exact fin S6 fun s7 J7 => ⟨_, _, J7, q6⟩
    exact go hh w
  · cases f with
    | ret u =>
      obtain ⟨v, τ, G, JT, r, q⟩ := spf
      exact ⟨v, τ, G, JT.ofTry okX, r, q⟩
    | next => obtain ⟨τ, G, JT, q⟩ := spf; exact wpAny_execs_nil ⟨τ, G, JT.ofTry okX, q⟩
    | brk => obtain ⟨τ, G, JT, q⟩ := spf; exact ⟨τ, G, JT.ofTry okX, q⟩
    | cont => obtain ⟨τ, G, JT, q⟩ := spf; exact ⟨τ, G, JT.ofTry okX, q⟩
end
/-! ### keywords alone; wishes at the caller's slots -/
section
variable {X : Cx} {CX : CXT} {k : Nat} {f : Addr} {fd : FuncData} {ps ks : List Str} {sp : Sp} {E : L2.St → XK} {x : Str} {p pos : Pos} {kws : List Keyword} {tk : TA}
def tCallKS (sp : Sp) (gV : List V → List V → List V) (E : L2.St → XK) (tk : TA) : TE := fun σ H Q => tk σ H fun zs H2 => sp (gV [] zs) H2 Q (E σ)
theorem pe_callKS {g : List Value → List Value → List Value} {gV : List V → List V → List V} (Fn : FnOk X.prog X.w X.K X.mg X.base CX k f fd ps sp) (hr : Room k X.A) (hg : Gl X x) (hm : X.mg x = some (.ref f)) (hk : PySem.W.keepIn X.K (.ref f) = true) (hb : KBinds X.K fd ps ks g gV) (hx : ∀ σ, PassesAt CX X σ (E σ))
    (hkw : PK X kws tk) (hall : (backToKw pos (keywordEach kws X.env)).all (·.1.isSome) = true := by rfl) (hks : (backToKw pos (keywordEach kws X.env)).filterMap (·.1) = ks := by rfl) (hdb : (x == ("__debug__" : Str)) = false := by decide)
    (hpl : ((backTo pos (starEach [] X.env)).any (·.1) || (backToKw pos (keywordEach kws X.env)).any (·.1.isNone)) = false := by rfl) : PE X (.Call (.Name x p) [] kws pos) (tCallKS sp gV E tk) := by
  refine ⟨fun pins s σ H Q I h => ?_⟩
  refine wpAny_Call_Name_kw (ld_glob I hg hm ?_ hdb)
  refine PySem.W.callWith_KW0 (h₀ := X.base) I.ok.mod.kin hk hall ?_ hpl
  refine thn (hkw.run pos pins s σ H _ I h) fun ws s2 ⟨zs, H2, I2, rz, q2⟩ => ⟨I2.kIn, ?_⟩
  rw [hks]
  have r2 := hb.rel (vs := []) (us := []) .nil rz
  have hl : (g [] ws).length = ps.length := by rw [← r2.length]; exact Fn.len _ _ _ _ q2
  refine wpAny_call (codeAny_mono (Fn.run X.A X.stack s2 H2 ⟨[], ks.zip ws⟩ (g [] ws) (gV [] zs) Q (E σ) hr I2.env0 (hb.to s2 [] ws I2.kIn hl) r2 q2) fun r s' q3 => ?_)
  cases r with
  | ok fl => cases fl with
    | ret u => exact I2.after q3
    | next => exact False.elim q3
    | brk => exact False.elim q3
    | cont => exact False.elim q3
  | error e => exact hx σ pins H2 s2 e s' I2 q3
theorem pass0At {X : Cx} {E : L2.St → XK} : ∀ σ, PassesAt CX0 X σ (E σ) := fun _ _ _ _ _ _ _ h => h.elim
theorem k_callKS {gV : List V → List V → List V} {σ : L2.St} {H : Hp} {Q : VK} (h : tk σ H fun zs H2 => sp (gV [] zs) H2 Q (E σ)) : tCallKS sp gV E tk σ H Q := h
end
theorem exm_selfE {K : PySem.W.Frag} {S D : Addr} {hit : Bool} (h1 : PySem.W.subIn K (.ref D) (.type "BaseException") = some true) (h2 : PySem.W.isClsIn K D = true) (h3 : PySem.W.typeIn K (.ref D) = some (.type "type")) (h4 : PySem.W.subIn K (.ref S) (.ref D) = some hit) : PySem.W.exmOne K (.ref S) (.ref D) = some hit := by
  have a1 : (PySem.W.subIn K (.ref D) (.type "BaseException") == some true) = true := by rw [h1] <;> rfl
  have a2 : ((PySem.W.clsIn K D).isSome && PySem.W.typeIn K (.ref D) == some (.type "type")) = true := by
    have b2 : (PySem.W.clsIn K D).isSome = true := h2
    rw [b2, h3] <;> rfl
  show (if (PySem.W.subIn K (.ref D) (.type "BaseException") == some true) = true then (if ((PySem.W.clsIn K D).isSome && PySem.W.typeIn K (.ref D) == some (.type "type")) = true then PySem.W.subIn K (.ref S) (.ref D) else none) else none) = some hit
  rw [if_pos a1, if_pos a2]
  exact h4
/-! ### readings -/
section
variable {σ : L2.St} {H : Hp} {D : Ends} {K : PySem.W.Frag}
theorem k_supE {D0 a C : Addr} {ta : TA} {B : Ends} (h0 : σ[0]? = some (some (V.ref a))) (h1 : H a = some (exo a C none)) (h2 : SupAtE K C D0) (k : ∀ q, H q = none → ta σ (upd H q (mwo q a)) fun vs H1 => vs.length ≤ 1000 ∧ H1 q = some (mwo q a) ∧ H1 a = some (exo a C none) ∧ B.nx σ H1) : tSupE K D0 ta B σ H := ⟨a, C, h0, h1, h2, k⟩
theorem k_ost {f : Str} {to te : TE} (h : te σ H fun y H1 => to σ H1 fun x H2 => ∃ a C : Addr, x = .ref a ∧ OexC K C ∧ PySem.W.findIn K (.ref C) f = some none ∧
  ((H2 a = some (exo a C none) ∧ ∀ dx, H2 dx = none → dx ≠ a → D.nx σ (upd (upd H2 dx (exd dx [(f, y)])) a (exo a C (some dx)))) ∨
    ∃ (dx : Addr) (fs : List (Str × V)), H2 a = some (exo a C (some dx)) ∧ H2 dx = some (exd dx fs) ∧ fs.length ≤ 900 ∧ D.nx σ (upd H2 dx (exd dx ((f, y) :: fs))))) : tOst K f to te D σ H := h
theorem k_callS {sp : Sp} {E : L2.St → XK} {t : TA} {Q : VK} (h : t σ H fun vs H1 => sp vs H1 Q (E σ)) : tCallS sp E t σ H Q := h
end
end Kit

namespace Law
open PySem PySem.Spec PyProof.Rows L2 Kit
local macro_rules | `(tactic| walk_at "kb") => `(tactic| first | exact kb_int_int | exact kb_int_bool | exact kb_int_str | exact kb_int_list | exact kb_int_tuple | exact kb_int_dict | exact kb_bool_int | exact kb_bool_bool | exact kb_bool_str | exact kb_bool_list | exact kb_bool_tuple | exact kb_bool_dict | exact kb_str_int | exact kb_str_bool | exact kb_str_str | exact kb_str_list | exact kb_str_tuple | exact kb_str_dict | exact kb_NoneType_int | exact kb_NoneType_bool | exact kb_NoneType_str | exact kb_NoneType_list | exact kb_NoneType_tuple | exact kb_NoneType_dict | exact kb_list_int | exact kb_list_bool | exact kb_list_str | exact kb_list_list | exact kb_list_tuple | exact kb_list_dict | exact kb_tuple_int | exact kb_tuple_bool | exact kb_tuple_str | exact kb_tuple_list | exact kb_tuple_tuple | exact kb_tuple_dict | exact kb_dict_int | exact kb_dict_bool | exact kb_dict_str | exact kb_dict_list | exact kb_dict_tuple | exact kb_dict_dict)
local macro_rules | `(tactic| walk_at "size") => `(tactic| first | assumption | (show (_ : Nat) ≤ sizeLine; exact small_size (by first | decide | omega | (simp; omega))) | (show (_ : Nat) < sizeLine; exact small_lt (by first | decide | omega | (simp; omega))))
local macro_rules | `(tactic| walk_at "here") => `(tactic| first | assumption | exact upd_same | (refine up_get (by assumption) ?_; walk_at "here") | (refine Eq.trans (upd_ne (by assumption)) ?_; walk_at "here"))
local macro_rules | `(tactic| walk_at "same") => `(tactic| first | assumption | exact Same.refl _ | exact same_new (by assumption) | (refine Same.trans ?_ (same_new (by assumption)); walk_at "same") | (refine Same.trans ?_ (by assumption); walk_at "same"))
local macro_rules | `(tactic| walk_at "none") => `(tactic| first | assumption | (refine Eq.trans (upd_ne ?_) ?_ <;> first | assumption | walk_at "none"))
local macro_rules | `(tactic| walk_at "ty") => `(tactic| first | exact TyX.base (.int _) | exact TyX.base (.str _) | exact TyX.base .non | exact TyX.base (.bl _) | exact TyX.base (.tup (by walk_at "here")) | exact TyX.base (.lst (by walk_at "here")) | exact TyX.base (.dK (by walk_at "here")))
local macro_rules | `(tactic| walk_at "s") => `(tactic| first
  | (with_reducible refine k_seq ?_) | (with_reducible refine k_op ?_)
  | ((with_reducible show tVar _ _ _ _); refine k_var rfl ?_)
  | (with_reducible refine k_c ?_) | (with_reducible refine k_cons ?_) | (with_reducible refine k_nil ?_)
  | (with_reducible refine k_asg ?_) | (with_reducible refine k_gName ?_) | (with_reducible refine k_drop ?_) | (with_reducible refine k_ret ?_)
  | (with_reducible refine k_ifS ?_) | (with_reducible refine k_test ?_) | (with_reducible refine k_bl ?_) | (with_reducible refine k_CB ?_) | (with_reducible refine k_call ?_)
  | (with_reducible refine k_addI ?_) | (with_reducible refine k_I0 ?_) | (with_reducible refine k_eqI ?_) | (with_reducible refine k_neI ?_)
  | ((with_reducible show rI _ _ _ _ _ _); (refine k_I ?c ?_; (case c => first | decide | omega | (show (0 : Int) < _ ∧ _; omega) | (show (0 : Int) ≤ _ ∧ _; omega) | (show (_ ∧ _) ∨ _; omega) | assumption)))
  | (with_reducible refine k_U ?_) | (with_reducible refine k_int1 ?_) | (with_reducible refine k_max2 ?_) | (with_reducible refine k_min2 ?_)
  | (with_reducible refine k_t ?_) | (with_reducible refine k_t' ?_) | (with_reducible refine k_f' ?_) | (with_reducible refine k_o1 ?_) | (with_reducible refine k_o2 ?_) | (with_reducible refine k_o3 ?_) | (with_reducible refine k_o4 ?_) | (with_reducible refine k_o5 ?_) | (with_reducible refine k_o6 ?_) | (with_reducible refine k_chain ?_) | (with_reducible refine k_f ?_)
  | (with_reducible refine k_and ?_) | (with_reducible refine k_or ?_) | (with_reducible refine k_not ?_) | (with_reducible refine k_if ?_) | (with_reducible refine k_B ?_)
  | (with_reducible refine k_andV ?_) | (with_reducible refine k_orV ?_) | (with_reducible refine k_notV ?_) | (with_reducible refine k_un ?_)
  | (with_reducible refine k_gSub ?_) | (with_reducible refine k_par ?_) | (with_reducible refine k_pair ?_) | (with_reducible refine k_sl ?_) | (with_reducible refine k_noPart ?_) | (with_reducible refine k_part ?_) | (with_reducible refine k_int ?_)
  | (with_reducible refine k_fld ?_) | (with_reducible refine k_putF ?_) | ((with_reducible show (_ ≤ sizeLine) ∧ _); refine k_disp (Nat.le_of_ble_eq_true rfl) ?_) | (with_reducible refine k_jsCons ?_) | (with_reducible refine k_jsNil ?_) | (with_reducible refine k_fmt ?_) | (with_reducible refine k_gCons ?_) | (with_reducible refine k_gNil ?_) | (with_reducible refine k_iEnum ?_) | (with_reducible refine k_joinC ?_) | ((with_reducible show gTup _ _ _ (V.ref _) _ _ _); refine' k_gTup (SqT.of ?h) ?hl ?_; (case h => walk_at "here"); (case hl => rfl)) | (with_reducible refine k_for ?_) | (with_reducible refine k_iList ?_) | (with_reducible refine k_iTup ?_) | (with_reducible refine k_rng1 ?_) | (with_reducible refine k_rng2 ?_) | (with_reducible refine k_lc ?_) | (with_reducible refine k_yes ?_) | (with_reducible refine k_next ?_) | (with_reducible refine k_break ?_) | (with_reducible refine k_cont ?_) | (with_reducible refine k_retN ?_)
  | ((with_reducible show tTup _ _ _ _); refine k_tup ?_) | ((with_reducible show tLst _ _ _ _); refine k_lst ?_)
  | ((with_reducible show rLenU _ [V.ref _] _ _); (first | (refine' k_lenL (SqL.of ?h) ?_; (case h => walk_at "here")) | (refine' k_lenL ?h ?_; (case h => assumption)) | (refine' k_lenT (SqT.of ?h) ?_; (case h => walk_at "here"))))
  | ((with_reducible show rIsi _ [_, V.ty _] _ _); (refine' k_isi ?t ?h ?_; (case t => walk_at "ty"); (case h => walk_at "kb")))
  | ((with_reducible show rIsiT _ [_, V.ref _] _ _); (refine' k_isiT ?p ?t ?h1 ?h2 ?_; (case p => walk_at "here"); (case t => walk_at "ty"); (case h1 => walk_at "kb"); (case h2 => walk_at "kb")))
  | ((with_reducible show rIx _ (V.ref _) (V.int _) _ _); (first | (refine' k_ixL (SqL.of ?h) ?a ?_; (case h => walk_at "here"); (case a => first | rfl | assumption)) | (refine' k_ixT (SqT.of ?h) ?a ?_; (case h => walk_at "here"); (case a => first | rfl | assumption))))
  | ((with_reducible show rSetL (V.ref _) (V.int _) _ (upd _ _ (HO.lst _)) _); (refine' k_setLu ?e ?ey ?_; (case e => rfl); (case ey => rfl)))
  | ((with_reducible show rSetL (V.ref _) (V.int _) _ _ _); (refine' k_setL ?h ?e ?_; (case h => walk_at "here"); (case e => first | rfl | assumption))))
local macro_rules | `(tactic| walk_at "ss") => `(tactic| (repeat walk_at "s"))
/-! ### a lambda handed to a def that calls it within a try, wishes at the slots of that call -/
section
open LamX
variable {X : Cx} {σ : L2.St} {H : Hp} {s : Shared} {pins : List (Addr × Obj)}
theorem pe_actA {Wc : CXT} {Ec : XK} {Nc : List Str} {qc : Str} {sc : Scope} {gc lf lc : Addr} {cdc pmv ctx : Value} {prm : Arguments} {bod : Expr} {lsc : Scope} {lev j : Nat} {nm : Str} {pns : List (Addr × Obj)} {xw : Value → Shared → Prop} {W : WX} {tb : XK → TE} {r1 r2 : Pos}
    (J : Inv X pins σ H s) (LS : LamS X.env.scope lsc) (atf : s.heap.get? lf = some (PySem.W.kla_obj "<lambda>" (X.env.qual ++ "<lambda>") prm bod lsc (cloFrom X.env.cells lsc.names []) pmv lc ctx)) (nof : H lf = none) (frf : lf ∉ frs X.stack)
    (bnd : bindArgs (PySem.W.kla_fn "<lambda>" (X.env.qual ++ "<lambda>") prm bod lsc (cloFrom X.env.cells lsc.names []) pmv (.ref lc) ctx) ⟨[], []⟩ = pure [])
    (tk : Takes ((cxOf Wc X.prog X.w X.K X.mg X.base Nc qc sc gc cdc X.A X.stack s H Ec).tr pns xw) W) (rm : Room (lev + 1) (X.A.deeper (envOfC qc sc s.heap.objs.size gc cdc)))
    (bok : ∀ (A : Around) (outer : List Env) (s' : Shared) (H' : Hp) (E : XK), Room lev (A.deeper (lamEnv X lsc s'.heap.objs.size lf lc)) → PE (lamCx X A outer s' H' E lsc lf lc) bod (tb E))
    (hN : Nc[j]? = some nm) (vis : Vis sc nm) (nd1 : (nm == ("__debug__" : Str)) = false := by decide) (nd2 : (nm == ("__classdict__" : Str)) = false := by decide) :
    PE ((cxOf Wc X.prog X.w X.K X.mg X.base Nc qc sc gc cdc X.A X.stack s H Ec).tr pns xw) (.Call (.Name nm r1) [] [] r2)
      (fun τ G Qz => τ[j]? = some (some (.ref lf)) ∧ G lc = some (CodeO lc (X.env.qual ++ "<lambda>")) ∧ tb (WE W τ) σ G Qz) := by
  refine ⟨fun pz z τ G Qz Iz hz => ?_⟩
  obtain ⟨hsl, hco, hrd⟩ := hz
  have hname := (pe_var (pos := r1) (i := j) hN vis nd1 nd2).run pz z τ G (fun v G1 => v = .ref lf ∧ G1 = G) Iz ⟨.ref lf, hsl, rfl, rfl⟩
  refine wpAny_Call_Name_kw (thn hname fun uv z1 ⟨v, G1, I1, rl, ev, eG⟩ => ?_)
  subst ev
  rw [eG] at I1
  obtain rfl : uv = Value.ref lf := rl
  have old : z1.heap.get? lf = some (PySem.W.kla_obj "<lambda>" (X.env.qual ++ "<lambda>") prm bod lsc (cloFrom X.env.cells lsc.names []) pmv lc ctx) := by
    refine I1.base.keep lf _ atf nof frf ?_
    intro zz
    exact nomatch (show lf ∈ ([] : List Addr) from zz)
  refine PySem.W.callWith_F0 ⟨_, _, _, _, old⟩ ?_
  have un : Un (frs X.stack) [] H G s.heap z1.heap := I1.base
  obtain ⟨⟨oc, fs, tkn, hoc, hdc, hvc⟩, _⟩ := I1.hok lc _ hco
  have go : codeAny (model X.prog X.w) (X.A.deeper (envOfC qc sc s.heap.objs.size gc cdc)) (.call (.ref lf) ⟨[], []⟩) (CR (L2.CX X.prog X.w) (envOfC qc sc s.heap.objs.size gc cdc :: X.stack) X.prog X.w G z1 Qz (WE W τ)) z1 := by
    refine PySem.W.kla_callFunE rm.depth old rfl LS.co LS.gen rfl ⟨lc, oc, fs, tkn, rfl, hoc, hdc, hvc⟩ ?_
    rw [bnd]
    refine wpAny_pure (wpAny_newFunctionEnv (fun y hy => (LS.own y hy).2) (fun y hy => absurd hy (by simp)) (fun h2 ns2 sb2 => ⟨I1.nolimit.fresh _ sb2, ?_⟩) LS.kind)
    show codeAny _ _ (.expr bod (lamEnv X lsc z1.heap.objs.size lf lc)) _ _
    have kept : ∀ b o, z1.heap.get? b = some o → h2.get? b = some o := by
      intro b o e
      exact sb2.extBut b o (Nat.ne_of_lt (Heap.lt_size e)) (Heap.get?_push_of_some _ e)
    have I2 : Inv (lamCx X (X.A.deeper (envOfC qc sc s.heap.objs.size gc cdc)) (envOfC qc sc s.heap.objs.size gc cdc :: X.stack) z1 G (WE W τ) lsc lf lc) [] σ G { z1 with heap := h2, toks := z1.toks + ([] : List (Str × Value)).length } :=
      lam_start2 J LS I1.env0 rm.hd un ns2 kept
    refine PySem.W.kla_codeExpr (wpAny_mono ((bok _ _ z1 G (WE W τ) (rm.deeper _)).run [] _ _ G Qz I2 hrd) (fun v s' hq => ?_) fun e s' hq => hq)
    obtain ⟨w2, G2, I3, rv, q⟩ := hq
    exact ⟨w2, G2, I3.os, I3.bare, I3.base, I3.hok, rv, q⟩
  refine wpAny_call (codeAny_mono go fun res s' hq => ?_)
  cases res with
  | error er => exact passAt tk τ pz G z1 er s' I1 hq
  | ok fl =>
    cases fl with
    | ret u => exact I1.after hq
    | next => exact False.elim hq
    | brk => exact False.elim hq
    | cont => exact False.elim hq
/-- what the def at g makes of the reading of the lambda that it is handed -/
def GivesA (X : Cx) (Nc : List Str) (x : Str) (sc : Scope) (g : Addr) (cdg : Value) (bg : List Stmt) (a q : Str) (TT : (XK → Hp → VK → Prop) → Hp → VK → Prop) : Prop :=
  ∀ (lf lc : Addr) (s : Shared) (H : Hp) (Q : VK) (tl : XK → Hp → VK → Prop),
    (∀ (W : WX) (pn : List (Addr × Obj)) (xe : Value → Shared → Prop) (r1 r2 : Pos), Takes ((cxOf CX0 X.prog X.w X.K X.mg X.base Nc x sc g cdg X.A X.stack s H E0).tr pn xe) W →
      PE ((cxOf CX0 X.prog X.w X.K X.mg X.base Nc x sc g cdg X.A X.stack s H E0).tr pn xe) (.Call (.Name a r1) [] [] r2) (fun τ G Qz => τ[0]? = some (some (.ref lf)) ∧ G lc = some (CodeO lc q) ∧ tl (WE W τ) G Qz)) →
    H lc = some (CodeO lc q) → TT tl H Q →
    ∃ t, PSs (cxOf CX0 X.prog X.w X.K X.mg X.base Nc x sc g cdg X.A X.stack s H E0).nox bg t ∧ t { nx := fun _ H' => Q .non H', rt := Q } (L2.start Nc [.ref lf]) H
/-- x(lambda: e) -/
theorem pe_lamA {T : List (Addr × Str)} {TT : (XK → Hp → VK → Prop) → Hp → VK → Prop} {x a : Str} {g c P : Addr} {k : Nat} {pg : Arguments} {bg : List Stmt} {sc : Scope} {dV kV doc pm cdv ct oc : Value} {an od : Option Addr} {osl : Array (Option Value)} {Nc : List Str}
    {prm : Arguments} {bod : Expr} {lsc : Scope} {t : XK → TE} {p lpos pos : Pos} (hg : Gl X x) (hm : X.mg x = some (.ref g)) (hk : PySem.W.keepIn X.K (.ref g) = true)
    (lk : X.K.lookup g = some ⟨oc, od, .func (PySem.W.fnOf x x pg bg sc dV kV doc pm an cdv ct), osl⟩) (hcg : PySem.W.codeIn X.K cdv x = true) (hb : L2.Binds X.K (PySem.W.fnOf x x pg bg sc dV kV doc pm an cdv ct) [a] []) (Sg : FnScope Nc [a] sc) (hNg : Nc[0]? = some a) (vis : Vis sc a)
    (hG : GivesA X Nc x sc g cdv bg a (X.env.qual ++ "<lambda>") TT) (TB : TabB X.base X.mg c P) (hcode : X.env.code = .ref c) (hmT : (P, X.env.qual ++ "<lambda>") ∈ T) (hu : ∀ p ∈ T, p.1 = P → p.2 = X.env.qual ++ "<lambda>") (hr : Room (k + 2) X.A) (LS : LamS X.env.scope lsc)
    (hbody : ∀ (A : Around) (outer : List Env) (s : Shared) (H : Hp) (E : XK) (lf lc : Addr), Room k (A.deeper (lamEnv X lsc s.heap.objs.size lf lc)) → PE (lamCx X A outer s H E lsc lf lc) bod (t E))
    (hdef : defaultsOf prm X.env = ([], []) := by rfl) (hbind : ∀ (q : Str) (cl : List (Str × Addr)) (pm cv ctv : Value), bindArgs (PySem.W.kla_fn "<lambda>" q prm bod lsc cl pm cv ctv) ⟨[], []⟩ = pure [] := by intros; rfl)
    (hdb : (x == ("__debug__" : Str)) = false := by decide) (nd1 : (a == ("__debug__" : Str)) = false := by decide) (nd2 : (a == ("__classdict__" : Str)) = false := by decide) :
    PE X (.Call (.Name x p) [.Lambda prm bod lsc lpos] [] pos) (tLam T TT t) := by
  refine ⟨fun pins s σ H Q I hh => ?_⟩
  obtain ⟨hT, hh⟩ := hh
  refine wpAny_Call_Name_kw (ld_glob I hg hm ?_ hdb)
  refine PySem.W.callWith_K (h₀ := X.base) I.ok.mod.kin hk ?_ (by rfl) (by rfl)
  show wpAny _ _ (spliced ((false, eval (.Lambda prm bod lsc lpos) X.env) :: backTo pos (starEach [] X.env))) _ _ s
  refine Calls.spliced_cons (lam_make2 I TB hcode hmT hu hT hdef (LS.has I.ok) fun lf lc pm2 ctv H1 s2 I1 eN T1 atf nof frf hco => ?_)
  refine Calls.spliced_nil ⟨I1.kIn, ?_⟩
  have go : codeAny (model X.prog X.w) X.A (.call (.ref g) ⟨[.ref lf], []⟩) (CR CX0 X.stack X.prog X.w H1 s2 Q E0) s2 := by
    refine run_ofS (N := Nc) (ps := [a]) (us := [.ref lf]) (vs := [.ref lf]) lk hcg Sg hr I1.env0 (hb s2 [.ref lf] I1.kIn rfl) (.cons rfl .nil) rfl fun hr2 => ?_
    obtain ⟨tt, ht, hq⟩ := hG lf lc s2 H1 Q (fun E G Qz => t E σ G Qz) (fun W pn xe r1 r2 tk => pe_actA (j := 0) I1 LS atf nof frf (hbind _ _ _ _ _) tk hr2 (fun A outer s3 H3 E hr3 => hbody A outer s3 H3 E lf lc hr3) hNg vis nd1 nd2) hco (hh H1 eN T1)
    exact ⟨tt, ht.nox, hq⟩
  refine wpAny_call (codeAny_mono go fun res s3 hq => ?_)
  cases res with
  | error er => exact False.elim (show False from hq)
  | ok fl =>
    cases fl with
    | ret u => exact I1.after hq
    | next => exact False.elim hq
    | brk => exact False.elim hq
    | cont => exact False.elim hq
/-- nothing is let out: the callee's own wish is empty -/
theorem passE {X : Cx} {P : Program} {w : World} : Passes (L2.CX P w) X E0 := fun _ _ _ _ _ _ _ h => by
  obtain ⟨_, _, _, _, _, _, _, _, _, _, _, _, z⟩ := h
  exact z.elim
theorem passEAt {X : Cx} {P : Program} {w : World} : ∀ σ : L2.St, PassesAt (L2.CX P w) X σ E0 := fun _ _ _ _ _ _ _ h => by
  obtain ⟨_, _, _, _, _, _, _, _, _, _, _, _, z⟩ := h
  exact z.elim
/-- a def whose code object is told (it makes a lambda) -/
structure FunL (K : PySem.W.Frag) (x qual : Str) (st : Stmt) (f : Addr) (fd : FuncData) (cda : Addr) : Prop where
  ex : ∃ (oc : Value) (od : Option Addr) (kV doc pm : Value) (an : Option Addr) (ct : Value) (osl : Array (Option Value)),
    fd = PySem.W.fnOf x qual (defArgs st) (defBody st) (defScope st) .none kV doc pm an (.ref cda) ct ∧ K.lookup f = some ⟨oc, od, .func fd, osl⟩ ∧ PySem.W.codeIn K (.ref cda) qual = true
  kp : PySem.W.keepIn K (.ref f) = true
theorem funL_mk {K : PySem.W.Frag} {x qual : Str} {st : Stmt} {f cda : Addr} {oc : Value} {od an : Option Addr} {osl : Array (Option Value)} {kV doc pm ct : Value} (l : K.lookup f = some ⟨oc, od, .func (PySem.W.fnOf x qual (defArgs st) (defBody st) (defScope st) .none kV doc pm an (.ref cda) ct), osl⟩)
    (c : PySem.W.codeIn K (.ref cda) qual = true) (k : PySem.W.keepIn K (.ref f) = true) : FunL K x qual st f (PySem.W.fnOf x qual (defArgs st) (defBody st) (defScope st) .none kV doc pm an (.ref cda) ct) cda := ⟨⟨oc, od, kV, doc, pm, an, ct, osl, rfl, l, c⟩, k⟩
theorem FunL.fn {K : PySem.W.Frag} {x qual : Str} {st : Stmt} {f cda : Addr} {fd : FuncData} (F : FunL K x qual st f fd cda) : Fun K x qual st f fd := by
  obtain ⟨⟨oc, od, kV, doc, pm, an, ct, osl, e, lk, hcd⟩, kp⟩ := F
  exact ⟨⟨oc, od, kV, doc, pm, an, .ref cda, ct, osl, e, lk, hcd⟩, kp⟩
theorem FunL.ok {P : Program} {w : World} {K : PySem.W.Frag} {mg : Str → Option Value} {base : Heap} {x qual : Str} {st : Stmt} {f cda : Addr} {fd : FuncData} {N ps : List Str} {k : Nat} {sp : Sp} (F : FunL K x qual st f fd cda) (S : FnScope N ps (defScope st)) (len : ∀ vs H Q E, sp vs H Q E → vs.length = ps.length)
    (hbody : ∀ (A : Around) (outer : List Env) (s : Shared) (H : Hp) (vs : List V) (Q : VK) (E : XK), Room k (A.deeper (envOfC qual (defScope st) s.heap.objs.size f (.ref cda))) → sp vs H Q E →
      ∃ t, PSs (cxOf CX0 P w K mg base N qual (defScope st) f (.ref cda) A outer s H E).nox (defBody st) t ∧ t { nx := fun _ H' => Q .non H', rt := Q } (L2.start N vs) H) : FnOk P w K mg base CX0 (k + 1) f fd ps sp := by
  obtain ⟨oc, od, kV, doc, pm, an, ct, osl, rfl, lk, hcd⟩ := F.ex
  refine fn_of lk hcd S len fun A outer s H vs Q E hr hsp => ?_
  obtain ⟨t, hh, q⟩ := hbody A outer s H vs Q E hr hsp
  exact ⟨t, hh.nox, q⟩
/-- the reading of x(lambda: e) -/
theorem k_lam {T : List (Addr × Str)} {TT : (XK → Hp → VK → Prop) → Hp → VK → Prop} {t : XK → TE} {σ : L2.St} {H : Hp} {Q : VK} (h0 : Tabs T H) (h : ∀ H1, ExtN H H1 → Tabs T H1 → TT (fun E H' Q' => t E σ H' Q') H1 Q) : tLam T TT t σ H Q := ⟨h0, h⟩
end
/-! ### C(k = v, ..), keywords alone -/
def tMakeKS (C : Addr) (sp : Sp) (gV : List V → List V → List V) (E : L2.St → XK) (tk : TA) : TE := fun σ H Q => tk σ H fun zs H2 => ∀ x dx, H2 x = none → H2 dx = none → dx ≠ x →
  sp (gV [.ref x] zs) (upd (upd H2 dx (.own x)) x (.ins C dx [])) (fun v H3 => v = .non ∧ Q (.ref x) H3) (E σ)
theorem pe_makeKS {X : Cx} {CX : CXT} {k : Nat} {f C : Addr} {fd : FuncData} {ps ks : List Str} {sp : Sp} {E : L2.St → XK} {x : Str} {p pos : Pos} {kws : List Keyword} {tk : TA} {g : List Value → List Value → List Value} {gV : List V → List V → List V} (M : Mk X.K C f) (Fn : FnOk X.prog X.w X.K X.mg X.base CX k f fd ps sp) (hr : Room (k + 1) X.A)
    (hg : Gl X x) (hm : X.mg x = some (.ref C)) (hb : KBinds X.K fd ps ks g gV) (hx : ∀ σ, PassesAt CX X σ (E σ)) (hkw : PK X kws tk) (hall : (backToKw pos (keywordEach kws X.env)).all (·.1.isSome) = true := by rfl)
    (hks : (backToKw pos (keywordEach kws X.env)).filterMap (·.1) = ks := by rfl) (hdb : (x == ("__debug__" : Str)) = false := by decide) (hpl : ((backTo pos (starEach [] X.env)).any (·.1) || (backToKw pos (keywordEach kws X.env)).any (·.1.isNone)) = false := by rfl) :
    PE X (.Call (.Name x p) [] kws pos) (tMakeKS C sp gV E tk) := by
  refine ⟨fun pins s σ H Q I hh => ?_⟩
  refine wpAny_Call_Name_kw (ld_glob I hg hm ?_ hdb)
  refine PySem.W.callWith_KW0 (h₀ := X.base) I.ok.mod.kin M.kp hall ?_ hpl
  refine thn (hkw.run pos pins s σ H _ I hh) fun ws s2 ⟨zs, H2, I2, rz, q2⟩ => ⟨I2.kIn, ?_⟩
  rw [hks]
  have hq := q2 (s2.heap.objs.size + 1) s2.heap.objs.size (I2.hok.fresh (Nat.le_succ _)) (I2.hok.fresh (Nat.le_refl _)) (Nat.ne_of_lt (Nat.lt_succ_self _))
  have I3 := Inv.made (C := C) I2
  have r2 := hb.rel (vs := [.ref (s2.heap.objs.size + 1)]) (us := [.ref (s2.heap.objs.size + 1)]) (.cons rfl .nil) rz
  have hl : (g [.ref (s2.heap.objs.size + 1)] ws).length = ps.length := by rw [← r2.length]; exact Fn.len _ _ _ _ hq
  refine wpAny_call (make_map (f := f) I2.kIn M.makes M.init (beq_iff_eq.mp M.fn) (codeAny_mono (Fn.run _ X.stack _ _ ⟨[Value.ref (s2.heap.objs.size + 1)], ks.zip ws⟩ (g [.ref (s2.heap.objs.size + 1)] ws) _ _ (E σ) (hr.make C [] (ks.zip ws))
    (I3.env0.make C [] (ks.zip ws)) (hb.to _ [.ref (s2.heap.objs.size + 1)] ws I3.kIn hl) r2 hq) fun res s' fin => ?_))
  cases res with
  | error er => exact hx σ pins _ _ er s' I3 fin
  | ok fl =>
    cases fl with
    | ret u =>
      obtain ⟨v, H', I4, rv, ev, q3⟩ := I3.after fin
      subst ev
      exact ⟨rv, ⟨V.ref (s2.heap.objs.size + 1), H', I4, rfl, q3⟩⟩
    | next => exact False.elim fin
    | brk => exact False.elim fin
    | cont => exact False.elim fin
theorem k_makeKS {C : Addr} {sp : Sp} {gV : List V → List V → List V} {E : L2.St → XK} {tk : TA} {σ : L2.St} {H : Hp} {Q : VK} (h : tk σ H fun zs H2 => ∀ x dx, H2 x = none → H2 dx = none → dx ≠ x → sp (gV [.ref x] zs) (upd (upd H2 dx (.own x)) x (.ins C dx [])) (fun v H3 => v = .non ∧ Q (.ref x) H3) (E σ)) : tMakeKS C sp gV E tk σ H Q := h

/-! ### str(o) and o == y by the class's own methods -/
section
open PySem.W
variable {X : Cx} {CX : CXT} {k : Nat} {C g : Addr} {fd : FuncData} {ps : List Str} {sp : Sp}
def rStrO (C : Addr) (sp : Sp) : List V → Hp → VK → Prop := fun vs H Q => ∃ (a dx : Addr) (fs : List (Str × V)), vs = [.ref a] ∧ H a = some (.ins C dx fs) ∧ sp [.ref a] H (fun v H' => ∃ z : Str, v = .str z ∧ Q (.str z) H') E0
theorem cr_strO (hs : PySem.W.findIn X.K (.ref C) "__str__" = some (some (.ref g))) (hf : PySem.W.isFn X.K (.ref g) = true) (Fn : FnOk X.prog X.w X.K X.mg X.base CX k g fd ps sp) (room : Room (k + 2) X.A) (bs : Binds X.K fd ps []) (px : Passes CX X.nox E0) : CallR X (.type "str") (rStrO C sp) := by
  intro pins st σ H xs us Q I rs hh
  obtain ⟨a, dx, fs, rfl, ea, go⟩ := hh
  rw [Vals.ref1 rs]
  obtain ⟨mA, O, _, _, _, _⟩ := ins_get I.hok ea
  obtain ⟨od, J, _⟩ := O.look
  have many : ([Value.ref a] ++ []).length = ps.length := by
    rw [← Fn.len _ _ _ _ go]
    rfl
  have r2 : Room k X.A.in1.in1 := room.in1.in1
  refine kso_call r2.units0 I.kIn J hs hf (wpAny_call ?_)
  refine codeAny_mono (Fn.run X.A.in1.in1 X.stack st H ⟨[.ref a], []⟩ [.ref a] [.ref a] _ E0 r2 I.env0.in1.in1 (bs _ [.ref a] I.kIn many) (.cons rfl .nil) go) fun r s' fin => ?_
  cases r with
  | error er => exact False.elim (px pins σ H st er s' (I.wish _) fin)
  | ok fl =>
    cases fl with
    | ret u =>
      obtain ⟨v, H2, J2, rv, z, rfl, q⟩ := I.after fin
      obtain ⟨t, rfl⟩ := (show ∃ t, u = Value.str z t from rv)
      exact ⟨.str z, H2, J2, ⟨t, rfl⟩, q⟩
    | next => exact False.elim fin
    | brk => exact False.elim fin
    | cont => exact False.elim fin
/-- y is of no class that would be asked first -/
inductive Ysd (K : PySem.W.Frag) (C : Addr) (H : Hp) : V → Prop where
  | str (z : Str) (h : PySem.W.notFirst K C (.type "str") = true) : Ysd K C H (.str z)
  | int (i : Int) (h : PySem.W.notFirst K C (.type "int") = true) : Ysd K C H (.int i)
  | ins {b D dy : Addr} {gs : List (Str × V)} (e : H b = some (.ins D dy gs)) (h : PySem.W.notFirst K C (.ref D) = true) : Ysd K C H (.ref b)
def rEqO (K : PySem.W.Frag) (C : Addr) (sp : Sp) : R2 := fun x y H Q => ∃ (a dx : Addr) (fs : List (Str × V)), x = .ref a ∧ H a = some (.ins C dx fs) ∧ Ysd K C H y ∧ sp [x, y] H Q E0
theorem back_of {Q : Value → Shared → Prop} {z : V} {v : Value} {s' : Shared} (r : RelV z v) (h : Q v s') : PySem.W.CmpBack Q v s' := by
  cases z with
  | non => cases (show v = Value.none from r); exact h
  | bl b => cases (show v = Value.bool b from r); exact h
  | int i => obtain ⟨t, rfl⟩ := (show ∃ t, v = Value.int i t from r); exact h
  | str x => obtain ⟨t, rfl⟩ := (show ∃ t, v = Value.str x t from r); exact h
  | byt b => obtain ⟨t, rfl⟩ := (show ∃ t, v = Value.bytes b t from r); exact h
  | flt b => obtain ⟨t, rfl⟩ := (show ∃ t, v = Value.float b t from r); exact h
  | ref a => cases (show v = Value.ref a from r); exact h
  | ty T => cases (show v = Value.type T from r); exact h
theorem op_eqO (hs : PySem.W.findIn X.K (.ref C) "__eq__" = some (some (.ref g))) (hf : PySem.W.isFn X.K (.ref g) = true) (Fn : FnOk X.prog X.w X.K X.mg X.base CX k g fd ps sp) (room : Room k X.A) (bs : Binds X.K fd ps []) (px : Passes CX X E0) : OpR X (compareOp .Eq) (rEqO X.K C sp) := by
  intro pins s σ H x y v u Q I rx ry hh
  obtain ⟨a, dx, fs, rfl, ea, hy, go⟩ := hh
  cases (show v = Value.ref a from rx)
  obtain ⟨mA, O, _, _, _, _⟩ := ins_get I.hok ea
  obtain ⟨od, J, _⟩ := O.look
  obtain ⟨m, hF⟩ := I.fr
  have run : wpAny (model X.prog X.w) X.A (call (.ref g) [.ref a, u]) (PySem.W.CmpBack (EP X pins σ Q)) X.xe s :=
    wpAny_mono (run_fn (us := [.ref a, u]) (vs := [.ref a, y]) (dvs := []) (ds := []) Fn room bs .nil px I (.cons rfl (.cons ry .nil)) go) (fun w s' ⟨z', H', I', rz, q⟩ => back_of rz ⟨z', H', I', rz, q⟩) fun _ _ x => x
  show wpAny _ _ (richCompare .Eq (.ref a) u) _ _ _
  cases hy with
  | str z h =>
    obtain ⟨t, rfl⟩ := (show ∃ t, u = Value.str z t from ry)
    exact PySem.W.cmp_K (op := .Eq) (tb := .type "str") room.units0 hF I.ok.mod.kin J (fun A Q E s k q => wpAny_pure q) h hs hf run
  | int i h =>
    obtain ⟨t, rfl⟩ := (show ∃ t, u = Value.int i t from ry)
    exact PySem.W.cmp_K (op := .Eq) (tb := .type "int") room.units0 hF I.ok.mod.kin J (fun A Q E s k q => wpAny_pure q) h hs hf run
  | @ins b D dy gs e h =>
    cases (show u = Value.ref b from ry)
    obtain ⟨mB, O2, _, _, _, _⟩ := ins_get I.hok e
    obtain ⟨od2, J2, _⟩ := O2.look
    exact PySem.W.cmp_K (op := .Eq) (tb := .ref D) room.units0 hF I.ok.mod.kin J J2.type h hs hf run
theorem kop_eqO (K : PySem.W.Frag) (hs : PySem.W.findIn K (.ref C) "__eq__" = some (some (.ref g))) (hf : PySem.W.isFn K (.ref g) = true) (Fn : FnOk X.prog X.w K X.mg X.base CX k g fd ps sp) (room : Room k X.A) (bs : Binds K fd ps []) (px : Passes CX X E0) (hK : X.K = K := by rfl) : OpR X (compareOp .Eq) (rEqO K C sp) := by
  subst hK
  exact op_eqO hs hf Fn room bs px
theorem kc_strO (K : PySem.W.Frag) (hs : PySem.W.findIn K (.ref C) "__str__" = some (some (.ref g))) (hf : PySem.W.isFn K (.ref g) = true) (Fn : FnOk X.prog X.w K X.mg X.base CX k g fd ps sp) (room : Room (k + 2) X.A) (bs : Binds K fd ps []) (px : Passes CX X.nox E0) (hK : X.K = K := by rfl) : CallR X (.type "str") (rStrO C sp) := by
  subst hK
  exact cr_strO hs hf Fn room bs px
end

section
open L2
variable {P : Program} {w : World} {K : PySem.W.Frag} {mg : Str → Option Value} {base : Heap}
/-- a method that closes over its class and may raise -/
theorem funS_okX {x qual : Str} {st : Stmt} {f cc cda D0 : Addr} {fd : FuncData} {N ps : List Str} {k : Nat} {sp : Sp} {cl : Value} {cld : Option Addr} {csl : Array (Option Value)} (F : FunS K x qual st f fd cc cda) (S : NdefX.NScope N ps ["__class__"] (defScope st))
    (hcell : K.lookup cc = some ⟨cl, cld, .cell (some (.ref D0)), csl⟩) (len : ∀ vs H Q E, sp vs H Q E → vs.length = ps.length)
    (hbody : ∀ (A : Around) (outer : List Env) (s : Shared) (H : Hp) (vs : List V) (Q : VK) (E : XK), Room k (A.deeper (NdefX.envF (nfS x qual st cc cda) f s.heap.objs.size)) → sp vs H Q E →
      ∃ t, PSA (NdefX.ncx (L2.CX P w) P w K mg base N (nfS x qual st cc cda) f A outer s H E) (defBody st) (defBody st) t ∧ t { nx := fun _ H' => Q .non H', rt := Q } (NdefX.startF N vs [some (.ref D0)]) H) :
    FnOk P w K mg base (L2.CX P w) (k + 1) f fd ps sp := by
  obtain ⟨oc, od, kV, doc, pm, an, ct, osl, efd, lk, hcd⟩ := F.ex
  refine ⟨len, fun A outer s H args us vs Q E hr e0 hb r hsp => ?_⟩
  have hl := len _ _ _ _ hsp
  have KB := e0.mod.kin
  have KX : K.In s.heap := KB.keeps fun b o e => (e0.bs b o e).1
  have lim : s.heap.NoLimit := e0.mod.nolimit.keeps fun b o e => (e0.bs b o e).1
  have hc1 := e0.bs _ _ (KB _ _ hcell)
  have CA : NdefX.CellsAt [("__class__", cc)] ["__class__"] [some (.ref D0)] s.heap H := by
    have key : ∀ y c, List.lookup y [(("__class__" : Str), cc)] = some c → y = "__class__" ∧ c = cc := fun y c e => by
      rw [List.lookup_cons] at e
      by_cases hy : y = "__class__"
      · subst hy
        simp at e
        exact ⟨rfl, e.symm⟩
      · have : (y == ("__class__" : Str)) = false := by simpa using hy
        rw [this] at e
        cases e
    refine ⟨rfl, fun y c e => ?_, fun x y c e1 e2 => ((key x c e1).1).trans ((key y c e2).1).symm, fun i y e => ?_⟩
    · obtain ⟨rfl, rfl⟩ := key y c e
      exact ⟨hc1.2, _, _, hc1.1, rfl⟩
    · have hi : i = 0 := by
        have := (List.getElem?_eq_some_iff.mp e).1
        simp at this
        exact this
      subst hi
      have ey : ("__class__" : Str) = y := Option.some.inj e
      subst ey
      refine ⟨cc, by simp, fun v ev => ?_⟩
      have ev' : V.ref D0 = v := Option.some.inj (Option.some.inj ev)
      subst ev'
      exact ⟨.ref D0, rfl, _, hc1.1, rfl⟩
  subst efd
  refine codeAny_call_function hr.depth (KX _ _ lk) rfl S.co S.gen rfl (PySem.W.codeRec_of KX hcd) (hb _ _ _ _ ?_)
  refine wpAny_newFunctionEnv S.nocell (fun ⟨n, _⟩ hy => S.par n (List.of_mem_zip hy).1) (fun h₁ hns hsb => ⟨lim.fresh _ hsb, ?_⟩) S.kind
  show codeAny _ _ (.func (defBody st) (NdefX.envF (nfS x qual st cc cda) f s.heap.objs.size)) _ _
  have kp : ∀ b o, s.heap.get? b = some o → h₁.get? b = some o := fun b o e => hsb.extBut b o (Nat.ne_of_lt (Heap.lt_size e)) (Heap.get?_push_of_some _ e)
  obtain ⟨t, ht, hq⟩ := hbody A outer s H vs Q E (hr.deeper _) hsp
  have I : Inv (NdefX.ncx (L2.CX P w) P w K mg base N (nfS x qual st cc cda) f A outer s H E) [] (NdefX.startF N vs [some (.ref D0)]) H { s with heap := h₁, toks := s.toks + (ps.zip us).length } :=
    NdefX.inv_startN (F := nfS x qual st cc cda) S hr.hd e0 hl r CA hns kp
  refine ks_codeAny_funcAt (ks_wpAt_mono (ht.go [] _ _ H _ I hq) (fun fl s' hs => ?_) fun e s' hs => hs)
  have fin : ∀ {σ' : L2.St} {H' : Hp} {v : V} {u : Value}, Inv (NdefX.ncx (L2.CX P w) P w K mg base N (nfS x qual st cc cda) f A outer s H E) [] σ' H' s' → L2.RelV v u → Q v H' → CE outer P w H s Q u s' :=
    fun {σ' H' v u} J rv q => ⟨v, H', J.os, J.bare, J.base, J.hok, rv, q⟩
  cases fl with
  | ret u =>
    obtain ⟨v, σ', H', J, rv, q⟩ := hs
    exact fin J rv q
  | next =>
    obtain ⟨σ', H', J, q⟩ := hs
    exact fin (v := V.non) (u := Value.none) J rfl q
  | brk =>
    obtain ⟨_, _, _, q⟩ := hs
    exact False.elim q
  | cont =>
    obtain ⟨_, _, _, q⟩ := hs
    exact False.elim q
end
/-! ### o != y by the class's own __eq__ -/
section
open PySem.W
theorem bound_b {M : Model} {A : Around} {E : Value → Shared → Prop} {st : Shared} {K : PySem.W.Frag} {a C : Addr} {oa : Obj} {od : Option Obj} {nm : Str} {id : String} {as : List Value} {Q : Option Value → Shared → Prop} (XK : K.In st.heap) (J : InstAt st.heap a oa C od)
    (hs : findIn K (.ref C) nm = some (some (.builtin id))) (hb : ∀ self, bindSpecial (.builtin id) self = pure (.builtin id, [self])) (h : wpAny M A (call (.builtin id) (.ref a :: as)) (fun v => Q (some v)) E st) : wpAny M A (callSpecialIfBound? (.ref a) nm as) Q E st := by
  simp only [callSpecialIfBound?, bindSpecialIfBound?]
  refine wpAny_holding (wpAny_bind (wpAny_bind (wpAny_bind (J.type.here ((looks_findIn XK hs).here ?_)))))
  refine wpAny_bind (wpAny_askSetting (wpAny_ite ?_))
  have last : wpAny M A (call (.builtin id) ([.ref a] ++ as) >>= fun v => pure (some v)) Q E st := wpAny_bind (wpAny_mono h (fun v z q => wpAny_pure q) fun _ _ q => q)
  split
  · exact wpAny_bind ((Looks.of_pure (hb _)).here (wpAny_pure (by exact last)))
  · exact wpAny_tryCatch (wpAny_bind ((Looks.of_pure (hb _)).here (wpAny_pure (by exact last))))
variable {X : Cx} {CX : CXT} {k : Nat} {C g : Addr} {fd : FuncData} {ps : List Str} {sp : Sp}
theorem ne_run {st : Shared} {a : Addr} {u tb : Value} {oa : Obj} {od : Option Obj} {A : Around} {E : Value → Shared → Prop} {K : PySem.W.Frag} {prog : Program} {w : World} {Q : Value → Shared → Prop} (hu : A.units + 1 < cLine) (XK : K.In st.heap) (J : InstAt st.heap a oa C od) (hb : Looks (model prog w) st.heap (typeOf u) tb) (hnf : notFirst K C tb = true)
    (hs : findIn K (.ref C) "__eq__" = some (some (.ref g))) (hf : isFn K (.ref g) = true) (hn : findIn K (.ref C) "__ne__" = some (some (.builtin "object.__ne__"))) (hm : mroIn K C (.type "object") = some true)
    (h : wpAny (model prog w) A.in1 (call (.ref g) [.ref a, u]) (fun v s' => ∃ b : Bool, v = .bool b ∧ Q (.bool (!b)) s') E st) : wpAny (model prog w) A (richCompare .NotEq (.ref a) u) Q E st := by
  have hu0 : A.units < cLine := Nat.lt_of_succ_lt hu
  have one : wpAny (model prog w) A (tryCompare (.ref a) "__ne__" u) (fun r s' => ∃ v, r = some v ∧ Q v s') E st := by
    unfold tryCompare
    refine wpAny_bind (bound_b XK J hn (id := "object.__ne__") (fun self => PySem.F.cmp_object.ne.bind self) ?_)
    refine wpAny_call (codeAny_call_builtin PySem.F.cmp_object.ne.plain F.cmpEntry_ne (check_slot (i := "object.__ne__") (owner := "object") (n := "__ne__") (by decide +kernel) (by decide +kernel) (J.type.andThen (looks_mroIn XK hm)) (F.cmpArgs_ne _ _) ?_))
    unfold Builtin.«object.__ne__»
    refine wpAny_bind (m := slotArgs "__ne__" 1 _) (wpAny_pure ?_)
    refine wpAny_bind (m := cRoomFor _ _) (wpAny_cRoomFor (by show A.units + 1 < cLine; exact hu) ?_)
    refine wpAny_bind (m := callSpecialIfBound? (.ref a) (Str.ofString "__eq__") _) (ifBound_K XK J hs hf (wpAny_mono h (fun r s' hq => ?_) fun _ _ y => y))
    obtain ⟨b, rfl, q⟩ := hq
    refine wpAny_bind (wpAny_truthy_bool ?_)
    exact wpAny_pure (wpAny_pure ⟨_, rfl, q⟩)
  unfold richCompare
  simp only [oneThing_ref]
  refine wpAny_holding (wpAny_bind (wpAny_cRoomFor hu0 ?_))
  refine wpAny_bind (J.type.here (wpAny_bind (hb.here ?_)))
  split
  · rename_i q
    have e : subIn K tb (.ref C) = some false := by
      rcases Bool.or_eq_true_iff.mp hnf with e | e
      · rw [beq_iff_eq.mp e] at q; simp at q
      · exact beq_iff_eq.mp e
    refine wpAny_bind ((looks_subIn XK e).here ?_)
    simp only [Bool.false_eq_true, if_false]
    refine wpAny_bind (wpAny_mono one (fun r s' z => ?_) fun _ _ e => e)
    obtain ⟨v, rfl, q2⟩ := z
    exact wpAny_pure q2
  · refine wpAny_bind (wpAny_pure ?_)
    simp only [Bool.false_eq_true, if_false]
    refine wpAny_bind (wpAny_mono one (fun r s' z => ?_) fun _ _ e => e)
    obtain ⟨v, rfl, q2⟩ := z
    exact wpAny_pure q2

/-- y is of no class that would be asked first -/
inductive Yw (K : PySem.W.Frag) (C : Addr) (H : Hp) : V → Prop where
  | str (z : Str) (h : notFirst K C (.type "str") = true) : Yw K C H (.str z)
  | int (i : Int) (h : notFirst K C (.type "int") = true) : Yw K C H (.int i)
  | bl (b : Bool) (h : notFirst K C (.type "bool") = true) : Yw K C H (.bl b)
  | non (h : notFirst K C (.type "NoneType") = true) : Yw K C H .non
  | lst {b : Addr} {xs : List V} (e : H b = some (.lst xs)) (h : notFirst K C (.type "list") = true) : Yw K C H (.ref b)
  | tup {b : Addr} {xs : List V} (e : H b = some (.tup xs)) (h : notFirst K C (.type "tuple") = true) : Yw K C H (.ref b)
  | ins {b D dy : Addr} {gs : List (Str × V)} (e : H b = some (.ins D dy gs)) (h : notFirst K C (.ref D) = true) : Yw K C H (.ref b)
theorem Yw.look {pins : List (Addr × Obj)} {s : Shared} {σ : L2.St} {H : Hp} {y : V} {u : Value} (hy : Yw X.K C H y) (I : Inv X pins σ H s) (ry : RelV y u) : ∃ tb, Looks (model X.prog X.w) s.heap (typeOf u) tb ∧ notFirst X.K C tb = true := by
  cases hy with
  | str z h =>
    obtain ⟨t, rfl⟩ := (show ∃ t, u = Value.str z t from ry)
    exact ⟨_, fun A Q E s k q => wpAny_pure q, h⟩
  | int i h =>
    obtain ⟨t, rfl⟩ := (show ∃ t, u = Value.int i t from ry)
    exact ⟨_, fun A Q E s k q => wpAny_pure q, h⟩
  | bl b h =>
    cases (show u = Value.bool b from ry)
    exact ⟨_, fun A Q E s k q => wpAny_pure q, h⟩
  | non h =>
    cases (show u = Value.none from ry)
    exact ⟨_, fun A Q E s k q => wpAny_pure q, h⟩
  | @lst b xs e h =>
    cases (show u = Value.ref b from ry)
    obtain ⟨_, _, n, _, h1⟩ := (show ObjOk X.prog X.w H s.heap b (.lst xs) from I.hok b _ e)
    exact ⟨.type "list", (Looks.ld h1).andThen .now, h⟩
  | @tup b xs e h =>
    cases (show u = Value.ref b from ry)
    obtain ⟨_, _, _, o, h1, h2, _⟩ := (show ObjOk X.prog X.w H s.heap b (.tup xs) from I.hok b _ e)
    exact ⟨.type "tuple", h2 ▸ (Looks.ld h1).andThen .now, h⟩
  | @ins b D dy gs e h =>
    cases (show u = Value.ref b from ry)
    obtain ⟨mB, O2, _, _, _, _⟩ := ins_get I.hok e
    obtain ⟨od2, J2, _⟩ := O2.look
    exact ⟨_, J2.type, h⟩
/-- o == y, o != y: the class's own __eq__ is asked -/
def rEqW (K : PySem.W.Frag) (C : Addr) (sp : Sp) : R2 := fun x y H Q => ∃ (a dx : Addr) (fs : List (Str × V)), x = .ref a ∧ H a = some (.ins C dx fs) ∧ Yw K C H y ∧ sp [x, y] H Q E0
def rNeW (K : PySem.W.Frag) (C : Addr) (sp : Sp) : R2 := fun x y H Q => ∃ (a dx : Addr) (fs : List (Str × V)), x = .ref a ∧ H a = some (.ins C dx fs) ∧ Yw K C H y ∧ sp [x, y] H (fun v H' => ∃ b : Bool, v = .bl b ∧ Q (.bl (!b)) H') E0
theorem op_eqW (hs : PySem.W.findIn X.K (.ref C) "__eq__" = some (some (.ref g))) (hf : PySem.W.isFn X.K (.ref g) = true) (Fn : FnOk X.prog X.w X.K X.mg X.base CX k g fd ps sp) (room : Room k X.A) (bs : Binds X.K fd ps []) (px : Passes CX X E0) : OpR X (compareOp .Eq) (rEqW X.K C sp) := by
  intro pins s σ H x y v u Q I rx ry hh
  obtain ⟨a, dx, fs, rfl, ea, hy, go⟩ := hh
  obtain ⟨tb, lk, nf⟩ := hy.look I ry
  cases (show v = Value.ref a from rx)
  obtain ⟨mA, O, _, _, _, _⟩ := ins_get I.hok ea
  obtain ⟨od, J, _⟩ := O.look
  obtain ⟨m, hF⟩ := I.fr
  have run : wpAny (model X.prog X.w) X.A (call (.ref g) [.ref a, u]) (PySem.W.CmpBack (EP X pins σ Q)) X.xe s :=
    wpAny_mono (run_fn (us := [.ref a, u]) (vs := [.ref a, y]) (dvs := []) (ds := []) Fn room bs .nil px I (.cons rfl (.cons ry .nil)) go) (fun w s' ⟨z', H', I', rz, q⟩ => back_of rz ⟨z', H', I', rz, q⟩) fun _ _ x => x
  show wpAny _ _ (richCompare .Eq (.ref a) u) _ _ _
  exact PySem.W.cmp_K (op := .Eq) (tb := tb) room.units0 hF I.ok.mod.kin J lk nf hs hf run
theorem op_neW (hs : PySem.W.findIn X.K (.ref C) "__eq__" = some (some (.ref g))) (hf : PySem.W.isFn X.K (.ref g) = true) (hn : findIn X.K (.ref C) "__ne__" = some (some (.builtin "object.__ne__"))) (hm : mroIn X.K C (.type "object") = some true)
    (Fn : FnOk X.prog X.w X.K X.mg X.base CX k g fd ps sp) (room : Room (k + 1) X.A) (bs : Binds X.K fd ps []) (px : Passes CX X E0) : OpR X (compareOp .NotEq) (rNeW X.K C sp) := by
  intro pins s σ H x y v u Q I rx ry hh
  obtain ⟨a, dx, fs, rfl, ea, hy, go⟩ := hh
  obtain ⟨tb, lk, nf⟩ := hy.look I ry
  cases (show v = Value.ref a from rx)
  obtain ⟨mA, O, _, _, _, _⟩ := ins_get I.hok ea
  obtain ⟨od, J, _⟩ := O.look
  have many : ([Value.ref a, u] ++ []).length = ps.length := by
    rw [← Fn.len _ _ _ _ go]
    rfl
  have r2 : Room k X.A.in1 := room.in1
  show wpAny _ _ (richCompare .NotEq (.ref a) u) _ _ _
  refine ne_run r2.units0 I.kIn J lk nf hs hf hn hm (wpAny_call ?_)
  refine codeAny_mono (Fn.run X.A.in1 X.stack s H ⟨[.ref a, u], []⟩ [.ref a, u] [.ref a, y] _ E0 r2 I.env0.in1 (bs _ [.ref a, u] I.kIn many) (.cons rfl (.cons ry .nil)) go) fun r s' fin => ?_
  cases r with
  | error er => exact px pins σ H s er s' I fin
  | ok fl =>
    cases fl with
    | ret z =>
      obtain ⟨v, H2, J2, rv, b, rfl, q⟩ := I.after fin
      exact ⟨b, rv, .bl (!b), H2, J2, rfl, q⟩
    | next => exact False.elim fin
    | brk => exact False.elim fin
    | cont => exact False.elim fin
/-- repr(o) by the class's own __repr__ -/
theorem cr_reprO (hs : PySem.W.findIn X.K (.ref C) "__repr__" = some (some (.ref g))) (hf : PySem.W.isFn X.K (.ref g) = true) (Fn : FnOk X.prog X.w X.K X.mg X.base CX k g fd ps sp) (room : Room (k + 1) X.A) (bs : Binds X.K fd ps []) (px : Passes CX X.nox E0) : CallR X (.builtin "repr") (rStrO C sp) := by
  intro pins st σ H xs us Q I rs hh
  obtain ⟨a, dx, fs, rfl, ea, go⟩ := hh
  rw [Vals.ref1 rs]
  obtain ⟨mA, O, _, _, _, _⟩ := ins_get I.hok ea
  obtain ⟨od, J, _⟩ := O.look
  obtain ⟨m, hF⟩ := I.fr
  have many : ([Value.ref a] ++ []).length = ps.length := by
    rw [← Fn.len _ _ _ _ go]
    rfl
  have r2 : Room k X.A.in1 := room.in1
  refine PySem.W.repr_K r2.units0 hF I.ok.mod.kin J hs hf (wpAny_call ?_)
  refine codeAny_mono (Fn.run X.A.in1 X.stack st H ⟨[.ref a], []⟩ [.ref a] [.ref a] _ E0 r2 I.env0.in1 (bs _ [.ref a] I.kIn many) (.cons rfl .nil) go) fun r s' fin => ?_
  cases r with
  | error er => exact False.elim (px pins σ H st er s' (I.wish _) fin)
  | ok fl =>
    cases fl with
    | ret u =>
      obtain ⟨v, H2, J2, rv, z, rfl, q⟩ := I.after fin
      obtain ⟨t, rfl⟩ := (show ∃ t, u = Value.str z t from rv)
      exact ⟨.str z, H2, J2, ⟨t, rfl⟩, q⟩
    | next => exact False.elim fin
    | brk => exact False.elim fin
    | cont => exact False.elim fin
end

/-! ### for i, x in enumerate(a tuple) -/
section
theorem enumB_meets {vz : Value} {oz : Obj} {Hb : Heap → Prop} (Bz : Begins vz oz Hb) :
    Meets (Builtin.«enumerate.__new__» ⟨[.type "enumerate", vz], []⟩) (fun _ R st => Hb st.heap ∧ R (.ok (.ret (.ref (st.heap.push oz).objs.size))) { st with heap := (st.heap.push oz).push { cls := .type "enumerate", data := .fields #[.none, .bool false, .ref st.heap.objs.size, rawInt 0, .none, .none] } }) :=
  .of_wp fun prog w A R st hh => by
    obtain ⟨hp, g, d, tk, os⟩ := st
    obtain ⟨hb, fin⟩ := hh
    have hsub := sub_enumerate
    have it1 : ∀ {Ay : Around} {Ey : Value → Shared → Prop} {Qy : Value → Shared → Prop}, Qy (.ref hp.objs.size) ⟨hp.push oz, g, d, tk, os⟩ → wpAny (model prog w) Ay (pyIter vz) Qy Ey ⟨hp, g, d, tk, os⟩ := fun q => Bz.iter prog w _ _ ⟨hp, g, d, tk, os⟩ _ hb q
    wp_walk using it1
    refine wpAny_stack_any fun sk => wpAny_pure ?_
    split
    · rename_i c _ _ _ _ _
      cases (c == Value.type "enumerate") <;> (wp_walk using it1; exact ⟨_, rfl, fin⟩)
    · wp_walk using it1
      exact ⟨_, rfl, fin⟩
theorem enumB_call {prog : Program} {w : World} {A : Around} {Ez : Value → Shared → Prop} {st : Shared} {vz : Value} {oz : Obj} {Hb : Heap → Prop} {Qz : Value → Shared → Prop} (Bz : Begins vz oz Hb) (hb : Hb st.heap)
    (k : ∀ h', IsEnum h' (st.heap.objs.size + 1) st.heap.objs.size 0 .none → h'.get? st.heap.objs.size = some oz → (∀ b o, st.heap.get? b = some o → h'.get? b = some o) → Qz (.ref (st.heap.objs.size + 1)) { st with heap := h' }) :
    wpAny (model prog w) A (call (.type "enumerate") [vz]) Qz Ez st := by
  refine callType_new F.called_enumerate (by decide) (F.typeCall_enumerate_1 _) (F.newCall_enumerate_1 _) (fun ob => F.args_object_init_2 ob _) F.entry_enumerate_new (enumB_meets Bz) ⟨hb, ?_⟩
  have sz : (st.heap.push oz).objs.size = st.heap.objs.size + 1 := Heap.size_push ..
  show _ ∧ _
  rw [sz]
  have e1 := Heap.get?_push_size (st.heap.push oz) (o := { cls := .type "enumerate", data := .fields #[.none, .bool false, .ref st.heap.objs.size, rawInt 0, .none, .none] }) rfl
  rw [sz] at e1
  exact ⟨⟨_, e1, rfl⟩, k _ e1 (Heap.get?_push_of_some _ (Heap.get?_push_size _ Bz.free)) fun b o x => Heap.get?_push_of_some _ (Heap.get?_push_of_some _ x)⟩
def Itet (K : PySem.W.Frag) (a : Addr) : It :=
  ⟨fun i H => ∃ (xs : List V) (x : V), SqT K H a xs ∧ xs[i]? = some x, fun i H v H' => ∃ tp x, v = .ref tp ∧ H tp = none ∧ H' = upd H tp (.tup [.int (i : Nat), x]) ∧ ∀ xs, SqT K H a xs → xs[i]? = some x, fun i H => ∃ xs : List V, SqT K H a xs ∧ xs.length ≤ i⟩
theorem turn_enumT {P : Program} {w : World} {K : PySem.W.Frag} {elts : List Expr} {kk : Nat} {tpos : Pos} (a e it : Addr) (hai : a ≠ it) (hae : a ≠ e) (hne : e ≠ it) :
    Turn P w K (.Tuple elts kk tpos) (Itet K a) [e, it] e (fun i h => (∃ old, IsEnum h e it ((i : Nat) : Int) old) ∧ h.IsTupleIter it a i) where
  mem := by simp
  obj := fun i h st b hb => by
    obtain ⟨⟨old, he⟩, ⟨o, ho, hc, hd⟩⟩ := st
    have cs : b = e ∨ b = it := by simpa using hb
    rcases cs with z | z
    · rw [z]
      exact ⟨_, he, fun v q => nomatch q⟩
    · rw [z]
      refine ⟨o, ho, fun v q => ?_⟩
      rw [hd] at q
      cases q
  keep := fun i h h' ⟨⟨old, he⟩, hi⟩ k => ⟨⟨old, k e (by simp) _ he⟩, hi.at fun o q => k it (by simp) o q⟩
  item := by
    intro X hP hw hK hc i pins s σ H E I hf st hg
    subst hP hw hK
    obtain ⟨⟨old, he⟩, hit⟩ := st
    obtain ⟨xs, x, hq, hx⟩ := hg
    obtain ⟨its, rv, pt, hz⟩ := I.tuple hq
    obtain ⟨u, hu, ru⟩ := rv.get hx
    have hil : i < its.toArray.size := by rw [List.size_toArray]; exact (List.getElem?_eq_some_iff.mp hu).1
    have le : e < s.heap.objs.size := Heap.lt_size he
    have li : it < s.heap.objs.size := by obtain ⟨_, q, _⟩ := hit; exact Heap.lt_size q
    have D := Draws.tuple (prog := X.prog) (w := X.w) (A := X.A.in1) (I.ok.hd hc) it a hai its.toArray
    refine wpAny_pyNext_enum_itemD D he ⟨hit, pt⟩ hil hne (by simp [hne, Ne.symm hae]) fun x2 h' tk hx2 ho hst' hT hsz hk => ?_
    have ex : x2 = u := by
      have h1 : its[i]? = some x2 := by simpa using hx2
      rw [hu] at h1
      exact (Option.some.inj h1).symm
    subst ex
    refine ⟨_, rfl, wpAny_letOwnedTupleGo_enum (s := { s with heap := h', toks := tk + 1 }) ho fun h2 he2 sb => ?_⟩
    have hT2 : h2.get? s.heap.objs.size = some { cls := .type "tuple", data := .seq #[.int i tk, x2] } := (sb.2 _ (Nat.ne_of_gt le)).trans hT
    have made : ObjOk X.prog X.w (upd H s.heap.objs.size (.tup [.int (i : Nat), x])) h2 s.heap.objs.size (.tup [.int (i : Nat), x]) :=
      ⟨by show 2 ≤ sizeLine; decide, [.int i tk, x2], .cons ⟨_, rfl⟩ (.cons ru .nil), ⟨_, hT2, rfl, _, rfl⟩⟩
    have I1 : Inv X pins σ (upd H s.heap.objs.size (.tup [.int (i : Nat), x])) { s with heap := h2, toks := tk + 1 } :=
      I.turnedNew (ch := [e, it]) (fun b ob hb q => (sb.2 b (fun z => hb (by simp [z]))).trans (hk b ob (fun z => hb (by simp [z])) (fun z => hb (by simp [z])) q)) hf (Nat.le_refl _) made
    refine ⟨.ref s.heap.objs.size, _, I1, rfl, ⟨_, x, rfl, I.hok.fresh (Nat.le_refl _), rfl, fun ys hy => by rw [I.tuple_inj hy hq]; exact hx⟩, ⟨⟨x2, ?_⟩, hst'.1.at fun o q => (sb.2 it (Ne.symm hne)).trans q⟩, fun b hb => ?_⟩
    · rw [show ((i + 1 : Nat) : Int) = (i : Int) + 1 by omega]
      exact he2
    · have lb : b < s.heap.objs.size := by
        have cs : b = e ∨ b = it := by simpa using hb
        rcases cs with z | z <;> rw [z] <;> assumption
      rw [upd_ne (Nat.ne_of_lt lb)]
      exact (hf b hb).1
  done := by
    intro X hP hw hK hc i pins s σ H E I hf st hg
    subst hP hw hK
    obtain ⟨⟨old, he⟩, hit⟩ := st
    obtain ⟨xs, hq, hx⟩ := hg
    obtain ⟨its, rv, pt, hz⟩ := I.tuple hq
    obtain ⟨f0, f1, f2, f3, f4, f5⟩ := hf it (by simp)
    have hl := rv.length
    unfold pyNext
    have hT : s.TypeIs (.ref e) "enumerate" := ⟨_, he, rfl⟩
    refine wpAny_bind (wpAny_attempt (wpAny_callSpecial?_slot (name := Str.ofString "__next__") hT F.slot_enumerate_next (wpAny_call_entry F.slot_enumerate_next hT F.entry_enumerate_next ?_ (F.args_enumerate_next_1 _))))
    show wpAny _ _ (field (.ref e) 2 >>= _) _ _ _
    refine wpAny_bind (wpAny_field he rfl (x := .ref it) rfl ?_)
    refine wpAny_bind (wpAny_nextOf_tuple_end (I.ok.hd hc) hit pt (by simp; omega) fun h' x2 eb hx2 => ?_)
    obtain ⟨o2, ho2, hc2⟩ := hx2
    refine wpAny_bind (wpAny_isInstance (T := "StopIteration") (b := true) ⟨o2, ho2, hc2⟩ isSubtype_stop ?_)
    exact wpAny_pure ⟨rfl, I.turned (t' := s.toks) (fun b o hb q => eb b o hb q) f0 f1 f3 f4 f5⟩
  self := fun A i s Q E st h => let ⟨⟨_, he⟩, _⟩ := st; wpAny_pyIter_enum he h
def iEnumT (K : PySem.W.Frag) (ta : TA) : TI := fun σ H R => ta σ H fun vs H1 => ∃ a xs, vs = [.ref a] ∧ SqT K H1 a xs ∧ R (Itet K a) H1
theorem pi_enumT {X : Cx} (K : PySem.W.Frag) {e : Expr} {ta : TA} {p pos tpos : Pos} {elts : List Expr} {kk : Nat} (hg : Gl X "enumerate") (hm : X.mg "enumerate" = none) (ha : PA X [e] ta) (hK : X.K = K := by rfl) (hs : starEach [e] X.env = [(false, eval e X.env)] := by rfl) :
    PI X (.Tuple elts kk tpos) (.Call (.Name "enumerate" p) [e] [] pos) (iEnumT K ta) := by
  subst hK
  refine ⟨fun pins s σ H R I h => ?_⟩
  refine Call_ (ld_blt I hg hm boot_enumerate (PyProof.Rows.callWith_type1 (thn (ha.run pos pins s σ H _ I h) fun us s1 ⟨vs, H1, I1, r1, a, xs, ex, hq, q⟩ => ?_) hs rfl))
  subst ex
  rw [Vals.ref1 r1]
  obtain ⟨its, rv, pt, hz⟩ := I1.tuple hq
  have la : a < s1.heap.objs.size := by obtain ⟨o, ho, _⟩ := pt; exact Heap.lt_size ho
  refine enumB_call (begins_tuple a its.toArray) pt fun h' he hit hk => wpAny_pyIter_enum he ?_
  have I2 : Inv X pins σ H1 { s1 with heap := h' } := I1.kept (t' := s1.toks) hk
  refine ⟨s1.heap.objs.size + 1, [s1.heap.objs.size + 1, s1.heap.objs.size], _, _, H1, rfl, I2, turn_enumT a (s1.heap.objs.size + 1) s1.heap.objs.size (Nat.ne_of_lt la) (Nat.ne_of_lt (Nat.lt_succ_of_lt la)) (Nat.succ_ne_self _), ⟨⟨.none, he⟩, ⟨_, hit, rfl, rfl⟩⟩, fun b hb => ?_, q⟩
  have cs : b = s1.heap.objs.size + 1 ∨ b = s1.heap.objs.size := by simpa using hb
  have hle : s1.heap.objs.size ≤ b := by rcases cs with z | z <;> rw [z] <;> omega
  exact I1.fpOk hle (I1.hok.fresh hle)
theorem walk_enumT {K : PySem.W.Frag} {a : Addr} {xs : List V} : Walk (Itet K a) xs.length (fun H => SqT K H a xs) (YPair (fun i => some (.int (i : Nat))) (fun i => xs[i]?)) := by
  refine ⟨fun i _ hi q => ⟨xs, xs[i], q, by simp [hi]⟩, fun _ q => ⟨xs, q, Nat.le_refl _⟩, fun i H v H' _ q y => ?_⟩
  obtain ⟨tp, x, e1, e2, e3, e4⟩ := y
  exact ⟨tp, .int (i : Nat), x, e1, e2, e3, rfl, e4 xs q⟩
end

/-! ### a list or a tuple, whichever it is -/
section
variable {X : Cx} {σ : L2.St} {H : Hp}
/-- the list or the tuple at a -/
def SqAt (H : Hp) (a : Addr) (xs : List V) : Prop := H a = some (.lst xs) ∨ H a = some (.tup xs)
theorem SqAt.up {H' : Hp} {a : Addr} {xs : List V} (h : SqAt H a xs) (e : Same H H') : SqAt H' a xs := h.imp (fun h => e _ _ h) (fun h => e _ _ h)
theorem SqAt.ext {H' : Hp} {a : Addr} {xs : List V} (h : SqAt H a xs) (e : LamX.ExtN H H') : SqAt H' a xs := h.imp (fun h => e _ _ h (fun ps z => by cases z)) (fun h => e _ _ h (fun ps z => by cases z))
theorem SqAt.stay {H' : Hp} {a : Addr} {xs : List V} (h : SqAt H a xs) (e : Same H H') : H' a = H a := by
  rcases h with h | h <;> rw [h, e _ _ h]
theorem SqAt.inj {a : Addr} {xs ys : List V} (h : SqAt H a xs) (g : SqAt H a ys) : xs = ys := by
  rcases h with h | h <;> rcases g with g | g <;> (rw [h] at g; cases g; try rfl)
def iLT (K : PySem.W.Frag) (tl : TE) : TI := fun σ H R => iList K tl σ H R ∨ iTup K tl σ H R
theorem pi_LT (K : PySem.W.Frag) {tg l : Expr} {tl : TE} (hl : PE X l tl) (hK : X.K = K := by rfl) : PI X tg l (iLT K tl) := by
  subst hK
  exact ⟨fun pins s σ H R I h => h.elim (fun h => (pi_list hl).run pins s σ H R I h) fun h => (pi_tup hl).run pins s σ H R I h⟩
theorem k_LT {K : PySem.W.Frag} {tl : TE} {R : It → Hp → Prop} {a : Addr} {xs : List V} (h : SqAt H a xs) (hv : ∀ Q : VK, Q (.ref a) H → tl σ H Q)
    (k : ∀ (J : It) (G : Hp → Prop), Walk J xs.length G (YAt xs) → (∀ H', H' a = H a → G H') → R J H) : iLT K tl σ H R := by
  rcases h with h | h
  · exact .inl (hv _ ⟨a, rfl, ⟨xs, SqL.of h⟩, k _ _ walk_list fun H' e => SqL.of (e.trans h)⟩)
  · exact .inr (hv _ ⟨a, rfl, ⟨xs, SqT.of h⟩, k _ _ walk_tup fun H' e => SqT.of (e.trans h)⟩)
def iELT (K : PySem.W.Frag) (ta : TA) : TI := fun σ H R => iEnum K ta σ H R ∨ iEnumT K ta σ H R
theorem pi_ELT (K : PySem.W.Frag) {e : Expr} {ta : TA} {p pos tpos : Pos} {elts : List Expr} {kk : Nat} (hg : Gl X "enumerate") (hm : X.mg "enumerate" = none) (ha : PA X [e] ta) (hK : X.K = K := by rfl) (hs : starEach [e] X.env = [(false, eval e X.env)] := by rfl) :
    PI X (.Tuple elts kk tpos) (.Call (.Name "enumerate" p) [e] [] pos) (iELT K ta) := by
  subst hK
  exact ⟨fun pins s σ H R I h => h.elim (fun h => (pi_enum hg hm ha hs).run pins s σ H R I h) fun h => (pi_enumT X.K hg hm ha rfl hs).run pins s σ H R I h⟩
theorem k_ELT {K : PySem.W.Frag} {ta : TA} {R : It → Hp → Prop} {a : Addr} {xs : List V} (h : SqAt H a xs) (hv : ∀ Q : List V → Hp → Prop, Q [.ref a] H → ta σ H Q)
    (k : ∀ (J : It) (G : Hp → Prop), Walk J xs.length G (YPair (fun i => some (.int (i : Nat))) (fun i => xs[i]?)) → (∀ H', H' a = H a → G H') → R J H) : iELT K ta σ H R := by
  rcases h with h | h
  · exact .inl (hv _ ⟨a, xs, rfl, SqL.of h, k _ _ walk_enum fun H' e => SqL.of (e.trans h)⟩)
  · exact .inr (hv _ ⟨a, xs, rfl, SqT.of h, k _ _ walk_enumT fun H' e => SqT.of (e.trans h)⟩)
theorem k_lenLT {K : PySem.W.Frag} {a : Addr} {xs : List V} {Q : VK} (h : SqAt H a xs) (k : Q (.int (xs.length : Nat)) H) : rLenU K [.ref a] H Q := by
  rcases h with h | h
  · exact k_lenL (SqL.of h) k
  · exact k_lenT (SqT.of h) k
theorem k_listLT {K : PySem.W.Frag} {a : Addr} {xs : List V} {Q : VK} (h : SqAt H a xs) (k : ∀ l, H l = none → Q (.ref l) (upd H l (.lst xs))) : rListU K [.ref a] H Q := by
  rcases h with h | h
  · exact ⟨a, xs, rfl, .inl (SqL.of h), k⟩
  · exact ⟨a, xs, rfl, .inr (SqT.of h), k⟩
theorem k_ixLT {K : PySem.W.Frag} {a : Addr} {xs : List V} {i : Int} {v : V} {Q : VK} (h : SqAt H a xs) (e : atI xs i = some v) (k : Q v H) : rIx K (.ref a) (.int i) H Q := by
  rcases h with h | h
  · exact k_ixL (SqL.of h) e k
  · exact k_ixT (SqT.of h) e k
end

def P : Program := PySem.Challenge.pw_surelet_k04_rests_built_and_refused
def top (i : Nat) : Stmt := PySem.Challenge.pw_surelet_k04_rests_built_and_refused.main.body.getD i (.Pass ⟨0, 0, 0, 0⟩)
abbrev s_InvalidNumber_init : Stmt := (inClass (top 4) 0)
abbrev N_InvalidNumber_init : List Str := ["self", "value", "__class__"]
abbrev P_InvalidNumber_init : List Str := ["self", "value"]
theorem sc_InvalidNumber_init : NdefX.NScope N_InvalidNumber_init P_InvalidNumber_init ["__class__"] (defScope s_InvalidNumber_init) := NdefX.nscope_by (by decide +kernel)
abbrev s_InvalidBorders_init : Stmt := (inClass (top 5) 0)
abbrev N_InvalidBorders_init : List Str := ["self", "at", "__class__"]
abbrev P_InvalidBorders_init : List Str := ["self", "at"]
theorem sc_InvalidBorders_init : NdefX.NScope N_InvalidBorders_init P_InvalidBorders_init ["__class__"] (defScope s_InvalidBorders_init) := NdefX.nscope_by (by decide +kernel)
abbrev s_InvalidRest_init : Stmt := (inClass (top 6) 0)
abbrev N_InvalidRest_init : List Str := ["self", "value", "__class__"]
abbrev P_InvalidRest_init : List Str := ["self", "value"]
theorem sc_InvalidRest_init : NdefX.NScope N_InvalidRest_init P_InvalidRest_init ["__class__"] (defScope s_InvalidRest_init) := NdefX.nscope_by (by decide +kernel)
abbrev s_TooMany_init : Stmt := (inClass (top 7) 0)
abbrev N_TooMany_init : List Str := ["self", "what", "count", "__class__"]
abbrev P_TooMany_init : List Str := ["self", "what", "count"]
theorem sc_TooMany_init : NdefX.NScope N_TooMany_init P_TooMany_init ["__class__"] (defScope s_TooMany_init) := NdefX.nscope_by (by decide +kernel)
abbrev s_is_number : Stmt := (top 9)
abbrev N_is_number : List Str := ["value", "least", "most"]
abbrev P_is_number : List Str := ["value", "least", "most"]
theorem sc_is_number : FnScope N_is_number P_is_number (defScope s_is_number) := ⟨rfl, rfl, rfl, by decide +kernel, rfl, by decide +kernel, by decide +kernel⟩
abbrev s_Rest_init : Stmt := (inClass (top 14) 0)
abbrev N_Rest_init : List Str := ["self", "text", "forms", "period", "bend"]
abbrev P_Rest_init : List Str := ["self", "text", "forms", "period", "bend"]
theorem sc_Rest_init : FnScope N_Rest_init P_Rest_init (defScope s_Rest_init) := ⟨rfl, rfl, rfl, by decide +kernel, rfl, by decide +kernel, by decide +kernel⟩
abbrev s_Rest_forms : Stmt := (inClass (top 14) 5)
abbrev N_Rest_forms : List Str := ["self"]
abbrev P_Rest_forms : List Str := ["self"]
theorem sc_Rest_forms : FnScope N_Rest_forms P_Rest_forms (defScope s_Rest_forms) := ⟨rfl, rfl, rfl, by decide +kernel, rfl, by decide +kernel, by decide +kernel⟩
abbrev s_Rest_period : Stmt := (inClass (top 14) 6)
abbrev N_Rest_period : List Str := ["self"]
abbrev P_Rest_period : List Str := ["self"]
theorem sc_Rest_period : FnScope N_Rest_period P_Rest_period (defScope s_Rest_period) := ⟨rfl, rfl, rfl, by decide +kernel, rfl, by decide +kernel, by decide +kernel⟩
abbrev s_Rest_bend : Stmt := (inClass (top 14) 7)
abbrev N_Rest_bend : List Str := ["self"]
abbrev P_Rest_bend : List Str := ["self"]
theorem sc_Rest_bend : FnScope N_Rest_bend P_Rest_bend (defScope s_Rest_bend) := ⟨rfl, rfl, rfl, by decide +kernel, rfl, by decide +kernel, by decide +kernel⟩
abbrev s_Rest_written : Stmt := (inClass (top 14) 8)
abbrev N_Rest_written : List Str := ["self"]
abbrev P_Rest_written : List Str := ["self"]
theorem sc_Rest_written : FnScope N_Rest_written P_Rest_written (defScope s_Rest_written) := ⟨rfl, rfl, rfl, by decide +kernel, rfl, by decide +kernel, by decide +kernel⟩
abbrev s_Rest_str : Stmt := (inClass (top 14) 9)
abbrev N_Rest_str : List Str := ["self"]
abbrev P_Rest_str : List Str := ["self"]
theorem sc_Rest_str : FnScope N_Rest_str P_Rest_str (defScope s_Rest_str) := ⟨rfl, rfl, rfl, by decide +kernel, rfl, by decide +kernel, by decide +kernel⟩
abbrev s_Rest_repr : Stmt := (inClass (top 14) 10)
abbrev N_Rest_repr : List Str := ["self"]
abbrev P_Rest_repr : List Str := ["self"]
theorem sc_Rest_repr : FnScope N_Rest_repr P_Rest_repr (defScope s_Rest_repr) := ⟨rfl, rfl, rfl, by decide +kernel, rfl, by decide +kernel, by decide +kernel⟩
abbrev s_Rest_eq : Stmt := (inClass (top 14) 11)
abbrev N_Rest_eq : List Str := ["self", "other"]
abbrev P_Rest_eq : List Str := ["self", "other"]
theorem sc_Rest_eq : FnScope N_Rest_eq P_Rest_eq (defScope s_Rest_eq) := ⟨rfl, rfl, rfl, by decide +kernel, rfl, by decide +kernel, by decide +kernel⟩
abbrev s_Window_init : Stmt := (inClass (top 15) 0)
abbrev N_Window_init : List Str := ["self", "width", "__class__"]
abbrev P_Window_init : List Str := ["self", "width"]
theorem sc_Window_init : NdefX.NScope N_Window_init P_Window_init ["__class__"] (defScope s_Window_init) := NdefX.nscope_by (by decide +kernel)
abbrev s_Days_init : Stmt := (inClass (top 16) 0)
abbrev N_Days_init : List Str := ["self", "borders", "every", "__class__", "last", "at", "border", "words"]
abbrev P_Days_init : List Str := ["self", "borders", "every"]
theorem sc_Days_init : NdefX.NScope N_Days_init P_Days_init ["__class__"] (defScope s_Days_init) := NdefX.nscope_by (by decide +kernel)
abbrev cs_Days_init_1 : Scope := { kind := .function, names := [(".0", .local), ("border", .local), ("str", .globalImplicit)], isGenerator := false, isCoroutine := false, more := [] }
abbrev s_Days_borders : Stmt := (inClass (top 16) 1)
abbrev N_Days_borders : List Str := ["self"]
abbrev P_Days_borders : List Str := ["self"]
theorem sc_Days_borders : FnScope N_Days_borders P_Days_borders (defScope s_Days_borders) := ⟨rfl, rfl, rfl, by decide +kernel, rfl, by decide +kernel, by decide +kernel⟩
abbrev s_joined : Stmt := (top 17)
abbrev N_joined : List Str := ["word", "first", "second", "value", "forms", "period", "bend"]
abbrev P_joined : List Str := ["word", "first", "second"]
theorem sc_joined : FnScope N_joined P_joined (defScope s_joined) := ⟨rfl, rfl, rfl, by decide +kernel, rfl, by decide +kernel, by decide +kernel⟩
abbrev s_Later_init : Stmt := (inClass (top 18) 0)
abbrev N_Later_init : List Str := ["self", "first", "second", "__class__", "text", "forms", "period", "bend"]
abbrev P_Later_init : List Str := ["self", "first", "second"]
theorem sc_Later_init : NdefX.NScope N_Later_init P_Later_init ["__class__"] (defScope s_Later_init) := NdefX.nscope_by (by decide +kernel)
abbrev s_Sooner_init : Stmt := (inClass (top 19) 0)
abbrev N_Sooner_init : List Str := ["self", "first", "second", "__class__", "text", "forms", "period", "bend"]
abbrev P_Sooner_init : List Str := ["self", "first", "second"]
theorem sc_Sooner_init : NdefX.NScope N_Sooner_init P_Sooner_init ["__class__"] (defScope s_Sooner_init) := NdefX.nscope_by (by decide +kernel)
abbrev s_Next_init : Stmt := (inClass (top 20) 0)
abbrev N_Next_init : List Str := ["self", "first", "second", "__class__", "text", "forms", "period", "bend"]
abbrev P_Next_init : List Str := ["self", "first", "second"]
theorem sc_Next_init : NdefX.NScope N_Next_init P_Next_init ["__class__"] (defScope s_Next_init) := NdefX.nscope_by (by decide +kernel)
abbrev s_bag : Stmt := (top 22)
abbrev N_bag : List Str := ["_law_script", "_law_seed", "_law_item"]
abbrev P_bag : List Str := ["_law_script"]
theorem sc_bag : FnScope N_bag P_bag (defScope s_bag) := ⟨rfl, rfl, rfl, by decide +kernel, rfl, by decide +kernel, by decide +kernel⟩
abbrev s_draw : Stmt := (top 23)
abbrev N_draw : List Str := ["_law_bag_here", "_law_limit", "_law_item", "_law_digit"]
abbrev P_draw : List Str := ["_law_bag_here", "_law_limit"]
theorem sc_draw : FnScope N_draw P_draw (defScope s_draw) := ⟨rfl, rfl, rfl, by decide +kernel, rfl, by decide +kernel, by decide +kernel⟩
abbrev s_of : Stmt := (top 24)
abbrev N_of : List Str := ["_law_bag_here", "_law_things"]
abbrev P_of : List Str := ["_law_bag_here", "_law_things"]
theorem sc_of : FnScope N_of P_of (defScope s_of) := ⟨rfl, rfl, rfl, by decide +kernel, rfl, by decide +kernel, by decide +kernel⟩
abbrev s_like : Stmt := (top 25)
abbrev N_like : List Str := ["_law_told", "_law_due", "_law_a", "_law_b"]
abbrev P_like : List Str := ["_law_told", "_law_due"]
theorem sc_like : FnScope N_like P_like (defScope s_like) := ⟨rfl, rfl, rfl, by decide +kernel, rfl, by decide +kernel, by decide +kernel⟩
abbrev cs_like_1 : Scope := { kind := .function, names := [(".0", .local), ("_law_a", .local), ("_law_b", .local), ("_law_like", .globalImplicit)], isGenerator := false, isCoroutine := false, more := [] }
abbrev s_odd : Stmt := (top 26)
abbrev N_odd : List Str := ["_law_bag_here", "_law_pick", "_law_k"]
abbrev P_odd : List Str := ["_law_bag_here"]
theorem sc_odd : FnScope N_odd P_odd (defScope s_odd) := ⟨rfl, rfl, rfl, by decide +kernel, rfl, by decide +kernel, by decide +kernel⟩
abbrev cs_odd_1 : Scope := { kind := .function, names := [(".0", .local), ("_law_k", .local), ("_law_of", .globalImplicit), ("_law_bag_here", .free)], isGenerator := false, isCoroutine := false, more := [] }
abbrev cs_odd_2 : Scope := { kind := .function, names := [(".0", .local), ("_law_k", .local), ("_law_of", .globalImplicit), ("_law_bag_here", .free)], isGenerator := false, isCoroutine := false, more := [] }
abbrev s_llcm : Stmt := (top 27)
abbrev N_llcm : List Str := ["_law_a", "_law_b", "_law_one", "_law_two"]
abbrev P_llcm : List Str := ["_law_a", "_law_b"]
theorem sc_llcm : FnScope N_llcm P_llcm (defScope s_llcm) := ⟨rfl, rfl, rfl, by decide +kernel, rfl, by decide +kernel, by decide +kernel⟩
abbrev s_text : Stmt := (top 28)
abbrev N_text : List Str := ["_law_plan", "_law_edge"]
abbrev P_text : List Str := ["_law_plan"]
theorem sc_text : FnScope N_text P_text (defScope s_text) := ⟨rfl, rfl, rfl, by decide +kernel, rfl, by decide +kernel, by decide +kernel⟩
abbrev cs_text_1 : Scope := { kind := .function, names := [(".0", .local), ("_law_edge", .local), ("str", .globalImplicit)], isGenerator := false, isCoroutine := false, more := [] }
abbrev s_facts : Stmt := (top 29)
abbrev N_facts : List Str := ["_law_plan", "_law_one", "_law_two"]
abbrev P_facts : List Str := ["_law_plan"]
theorem sc_facts : FnScope N_facts P_facts (defScope s_facts) := ⟨rfl, rfl, rfl, by decide +kernel, rfl, by decide +kernel, by decide +kernel⟩
abbrev s_ask : Stmt := (top 30)
abbrev N_ask : List Str := ["_law_deed", "_law_told", "_law_fault", "error"]
abbrev P_ask : List Str := ["_law_deed"]
theorem sc_ask : FnScope N_ask P_ask (defScope s_ask) := ⟨rfl, rfl, rfl, by decide +kernel, rfl, by decide +kernel, by decide +kernel⟩
abbrev s_in : Stmt := (top 31)
abbrev N_in : List Str := ["_law_thing", "_law_low", "_law_high"]
abbrev P_in : List Str := ["_law_thing", "_law_low", "_law_high"]
theorem sc_in : FnScope N_in P_in (defScope s_in) := ⟨rfl, rfl, rfl, by decide +kernel, rfl, by decide +kernel, by decide +kernel⟩
abbrev s_number : Stmt := (top 32)
abbrev N_number : List Str := ["_law_bag_here", "_law_high", "_law_pick"]
abbrev P_number : List Str := ["_law_bag_here", "_law_high"]
theorem sc_number : FnScope N_number P_number (defScope s_number) := ⟨rfl, rfl, rfl, by decide +kernel, rfl, by decide +kernel, by decide +kernel⟩
abbrev s_borders : Stmt := (top 33)
abbrev N_borders : List Str := ["_law_bag_here", "_law_some", "_law_edge", "_law_k", "_law_at", "_law_bend", "_law_pick"]
abbrev P_borders : List Str := ["_law_bag_here"]
theorem sc_borders : FnScope N_borders P_borders (defScope s_borders) := ⟨rfl, rfl, rfl, by decide +kernel, rfl, by decide +kernel, by decide +kernel⟩
abbrev s_days_due : Stmt := (top 34)
abbrev N_days_due : List Str := ["_law_edges", "_law_gap", "_law_low", "_law_at"]
abbrev P_days_due : List Str := ["_law_edges", "_law_gap"]
theorem sc_days_due : FnScope N_days_due P_days_due (defScope s_days_due) := ⟨rfl, rfl, rfl, by decide +kernel, rfl, by decide +kernel, by decide +kernel⟩
abbrev s_window : Stmt := (top 35)
abbrev N_window : List Str := ["_law_bag_here", "_law_kept", "_law_told", "_law_fault", "_law_wide"]
abbrev P_window : List Str := ["_law_bag_here", "_law_kept"]
theorem sc_window : FnScope N_window P_window (defScope s_window) := ⟨rfl, rfl, rfl, by decide +kernel, rfl, by decide +kernel, by decide +kernel⟩
abbrev ls_window_1 : Scope := { kind := .function, names := [("_law_bag_here", .free), ("_law_wide", .free), ("_law_draw", .globalImplicit), ("Window", .globalImplicit)], isGenerator := false, isCoroutine := false, more := [] }
abbrev s_days : Stmt := (top 36)
abbrev N_days : List Str := ["_law_bag_here", "_law_kept", "_law_copy", "_law_due", "_law_told", "_law_fault", "_law_some", "_law_edges", "_law_gap"]
abbrev P_days : List Str := ["_law_bag_here", "_law_kept"]
theorem sc_days : FnScope N_days P_days (defScope s_days) := ⟨rfl, rfl, rfl, by decide +kernel, rfl, by decide +kernel, by decide +kernel⟩
abbrev ls_days_1 : Scope := { kind := .function, names := [("_law_bag_here", .free), ("_law_edges", .free), ("_law_gap", .free), ("_law_draw", .globalImplicit), ("Days", .globalImplicit)], isGenerator := false, isCoroutine := false, more := [] }
abbrev s_pair : Stmt := (top 37)
abbrev N_pair : List Str := ["_law_bag_here", "_law_pick", "_law_a", "_law_b", "_law_way"]
abbrev P_pair : List Str := ["_law_bag_here", "_law_pick", "_law_a", "_law_b"]
theorem sc_pair : FnScope N_pair P_pair (defScope s_pair) := ⟨rfl, rfl, rfl, by decide +kernel, rfl, by decide +kernel, by decide +kernel⟩
abbrev s_pair_due : Stmt := (top 38)
abbrev N_pair_due : List Str := ["_law_one", "_law_two", "_law_a", "_law_b", "_law_both"]
abbrev P_pair_due : List Str := ["_law_one", "_law_two"]
theorem sc_pair_due : FnScope N_pair_due P_pair_due (defScope s_pair_due) := ⟨rfl, rfl, rfl, by decide +kernel, rfl, by decide +kernel, by decide +kernel⟩
abbrev s_class_so : Stmt := (top 39)
abbrev N_class_so : List Str := ["_law_pick", "_law_told"]
abbrev P_class_so : List Str := ["_law_pick", "_law_told"]
theorem sc_class_so : FnScope N_class_so P_class_so (defScope s_class_so) := ⟨rfl, rfl, rfl, by decide +kernel, rfl, by decide +kernel, by decide +kernel⟩
abbrev s_under : Stmt := (top 40)
abbrev N_under : List Str := ["_law_bag_here", "_law_kept", "_law_due", "_law_told", "_law_fault", "_law_plan", "_law_pair_here", "_law_pick", "_law_k"]
abbrev P_under : List Str := ["_law_bag_here", "_law_kept"]
theorem sc_under : FnScope N_under P_under (defScope s_under) := ⟨rfl, rfl, rfl, by decide +kernel, rfl, by decide +kernel, by decide +kernel⟩
abbrev cs_under_1 : Scope := { kind := .function, names := [(".0", .local), ("_law_k", .local), ("_law_of", .globalImplicit), ("_law_bag_here", .free), ("_law_kept", .free)], isGenerator := false, isCoroutine := false, more := [] }
abbrev ls_under_1 : Scope := { kind := .function, names := [("_law_bag_here", .free), ("_law_pair_here", .free), ("_law_pick", .free), ("_law_pair", .globalImplicit)], isGenerator := false, isCoroutine := false, more := [] }
abbrev s_told_so : Stmt := (top 41)
abbrev N_told_so : List Str := ["_law_plan", "_law_thing", "_law_text_here"]
abbrev P_told_so : List Str := ["_law_plan", "_law_thing"]
theorem sc_told_so : FnScope N_told_so P_told_so (defScope s_told_so) := ⟨rfl, rfl, rfl, by decide +kernel, rfl, by decide +kernel, by decide +kernel⟩
abbrev s_equal_so : Stmt := (top 42)
abbrev N_equal_so : List Str := ["_law_bag_here", "_law_kept", "_law_one", "_law_two", "_law_told", "_law_other"]
abbrev P_equal_so : List Str := ["_law_bag_here", "_law_kept"]
theorem sc_equal_so : FnScope N_equal_so P_equal_so (defScope s_equal_so) := ⟨rfl, rfl, rfl, by decide +kernel, rfl, by decide +kernel, by decide +kernel⟩
abbrev s_law : Stmt := (top 43)
abbrev N_law : List Str := ["_law_script", "_law_bag_here", "_law_kept", "_law_k", "_law_plan", "_law_thing"]
abbrev P_law : List Str := ["_law_script"]
theorem sc_law : FnScope N_law P_law (defScope s_law) := ⟨rfl, rfl, rfl, by decide +kernel, rfl, by decide +kernel, by decide +kernel⟩
theorem c_days_law_edges : celB (defScope s_days) "_law_edges" = true := by decide +kernel
theorem c_days_law_gap : celB (defScope s_days) "_law_gap" = true := by decide +kernel
theorem c_under_law_pair_here : celB (defScope s_under) "_law_pair_here" = true := by decide +kernel
theorem c_under_law_pick : celB (defScope s_under) "_law_pick" = true := by decide +kernel
theorem c_window_law_wide : celB (defScope s_window) "_law_wide" = true := by decide +kernel
theorem fr_Days_init : (defScope s_Days_init).names.lookup ("__class__" : Str) = some NameKind.free := by decide +kernel
theorem fr_InvalidBorders_init : (defScope s_InvalidBorders_init).names.lookup ("__class__" : Str) = some NameKind.free := by decide +kernel
theorem fr_InvalidNumber_init : (defScope s_InvalidNumber_init).names.lookup ("__class__" : Str) = some NameKind.free := by decide +kernel
theorem fr_InvalidRest_init : (defScope s_InvalidRest_init).names.lookup ("__class__" : Str) = some NameKind.free := by decide +kernel
theorem fr_Later_init : (defScope s_Later_init).names.lookup ("__class__" : Str) = some NameKind.free := by decide +kernel
theorem fr_Next_init : (defScope s_Next_init).names.lookup ("__class__" : Str) = some NameKind.free := by decide +kernel
theorem fr_Sooner_init : (defScope s_Sooner_init).names.lookup ("__class__" : Str) = some NameKind.free := by decide +kernel
theorem fr_TooMany_init : (defScope s_TooMany_init).names.lookup ("__class__" : Str) = some NameKind.free := by decide +kernel
theorem fr_Window_init : (defScope s_Window_init).names.lookup ("__class__" : Str) = some NameKind.free := by decide +kernel
theorem g_Days_borders_list : (defScope s_Days_borders).names.lookup ("list" : Str) = some NameKind.globalImplicit := by decide +kernel
theorem g_Days_init_1_str : (relS cs_Days_init_1 (defScope s_Days_init)).names.lookup ("str" : Str) = some NameKind.globalImplicit := by decide +kernel
theorem g_Days_init_BORDERS : (defScope s_Days_init).names.lookup ("BORDERS" : Str) = some NameKind.globalImplicit := by decide +kernel
theorem g_Days_init_InvalidBorders : (defScope s_Days_init).names.lookup ("InvalidBorders" : Str) = some NameKind.globalImplicit := by decide +kernel
theorem g_Days_init_InvalidNumber : (defScope s_Days_init).names.lookup ("InvalidNumber" : Str) = some NameKind.globalImplicit := by decide +kernel
theorem g_Days_init_TooMany : (defScope s_Days_init).names.lookup ("TooMany" : Str) = some NameKind.globalImplicit := by decide +kernel
theorem g_Days_init_enumerate : (defScope s_Days_init).names.lookup ("enumerate" : Str) = some NameKind.globalImplicit := by decide +kernel
theorem g_Days_init_is_number : (defScope s_Days_init).names.lookup ("is_number" : Str) = some NameKind.globalImplicit := by decide +kernel
theorem g_Days_init_isinstance : (defScope s_Days_init).names.lookup ("isinstance" : Str) = some NameKind.globalImplicit := by decide +kernel
theorem g_Days_init_len : (defScope s_Days_init).names.lookup ("len" : Str) = some NameKind.globalImplicit := by decide +kernel
theorem g_Days_init_list : (defScope s_Days_init).names.lookup ("list" : Str) = some NameKind.globalImplicit := by decide +kernel
theorem g_Days_init_str : (defScope s_Days_init).names.lookup ("str" : Str) = some NameKind.globalImplicit := by decide +kernel
theorem g_Days_init_super : (defScope s_Days_init).names.lookup ("super" : Str) = some NameKind.globalImplicit := by decide +kernel
theorem g_Days_init_tuple : (defScope s_Days_init).names.lookup ("tuple" : Str) = some NameKind.globalImplicit := by decide +kernel
theorem g_InvalidBorders_init_super : (defScope s_InvalidBorders_init).names.lookup ("super" : Str) = some NameKind.globalImplicit := by decide +kernel
theorem g_InvalidNumber_init_super : (defScope s_InvalidNumber_init).names.lookup ("super" : Str) = some NameKind.globalImplicit := by decide +kernel
theorem g_InvalidRest_init_super : (defScope s_InvalidRest_init).names.lookup ("super" : Str) = some NameKind.globalImplicit := by decide +kernel
theorem g_Later_init_joined : (defScope s_Later_init).names.lookup ("joined" : Str) = some NameKind.globalImplicit := by decide +kernel
theorem g_Later_init_super : (defScope s_Later_init).names.lookup ("super" : Str) = some NameKind.globalImplicit := by decide +kernel
theorem g_Next_init_joined : (defScope s_Next_init).names.lookup ("joined" : Str) = some NameKind.globalImplicit := by decide +kernel
theorem g_Next_init_super : (defScope s_Next_init).names.lookup ("super" : Str) = some NameKind.globalImplicit := by decide +kernel
theorem g_Rest_eq_Rest : (defScope s_Rest_eq).names.lookup ("Rest" : Str) = some NameKind.globalImplicit := by decide +kernel
theorem g_Rest_eq_isinstance : (defScope s_Rest_eq).names.lookup ("isinstance" : Str) = some NameKind.globalImplicit := by decide +kernel
theorem g_Rest_str_str : (defScope s_Rest_str).names.lookup ("str" : Str) = some NameKind.globalImplicit := by decide +kernel
theorem g_Sooner_init_joined : (defScope s_Sooner_init).names.lookup ("joined" : Str) = some NameKind.globalImplicit := by decide +kernel
theorem g_Sooner_init_super : (defScope s_Sooner_init).names.lookup ("super" : Str) = some NameKind.globalImplicit := by decide +kernel
theorem g_TooMany_init_super : (defScope s_TooMany_init).names.lookup ("super" : Str) = some NameKind.globalImplicit := by decide +kernel
theorem g_Window_init_InvalidNumber : (defScope s_Window_init).names.lookup ("InvalidNumber" : Str) = some NameKind.globalImplicit := by decide +kernel
theorem g_Window_init_is_number : (defScope s_Window_init).names.lookup ("is_number" : Str) = some NameKind.globalImplicit := by decide +kernel
theorem g_Window_init_super : (defScope s_Window_init).names.lookup ("super" : Str) = some NameKind.globalImplicit := by decide +kernel
theorem g_ask_InvalidBorders : (defScope s_ask).names.lookup ("InvalidBorders" : Str) = some NameKind.globalImplicit := by decide +kernel
theorem g_ask_InvalidNumber : (defScope s_ask).names.lookup ("InvalidNumber" : Str) = some NameKind.globalImplicit := by decide +kernel
theorem g_ask_InvalidRest : (defScope s_ask).names.lookup ("InvalidRest" : Str) = some NameKind.globalImplicit := by decide +kernel
theorem g_ask_SureletError : (defScope s_ask).names.lookup ("SureletError" : Str) = some NameKind.globalImplicit := by decide +kernel
theorem g_ask_TooMany : (defScope s_ask).names.lookup ("TooMany" : Str) = some NameKind.globalImplicit := by decide +kernel
theorem g_bag_int : (defScope s_bag).names.lookup ("int" : Str) = some NameKind.globalImplicit := by decide +kernel
theorem g_bag_list : (defScope s_bag).names.lookup ("list" : Str) = some NameKind.globalImplicit := by decide +kernel
theorem g_borders_law_draw : (defScope s_borders).names.lookup ("_law_draw" : Str) = some NameKind.globalImplicit := by decide +kernel
theorem g_borders_law_of : (defScope s_borders).names.lookup ("_law_of" : Str) = some NameKind.globalImplicit := by decide +kernel
theorem g_borders_len : (defScope s_borders).names.lookup ("len" : Str) = some NameKind.globalImplicit := by decide +kernel
theorem g_borders_range : (defScope s_borders).names.lookup ("range" : Str) = some NameKind.globalImplicit := by decide +kernel
theorem g_borders_tuple : (defScope s_borders).names.lookup ("tuple" : Str) = some NameKind.globalImplicit := by decide +kernel
theorem g_class_so_Later : (defScope s_class_so).names.lookup ("Later" : Str) = some NameKind.globalImplicit := by decide +kernel
theorem g_class_so_Next : (defScope s_class_so).names.lookup ("Next" : Str) = some NameKind.globalImplicit := by decide +kernel
theorem g_class_so_Sooner : (defScope s_class_so).names.lookup ("Sooner" : Str) = some NameKind.globalImplicit := by decide +kernel
theorem g_class_so_isinstance : (defScope s_class_so).names.lookup ("isinstance" : Str) = some NameKind.globalImplicit := by decide +kernel
theorem g_days_Days : (defScope s_days).names.lookup ("Days" : Str) = some NameKind.globalImplicit := by decide +kernel
theorem g_days_L1_Days : ls_days_1.names.lookup ("Days" : Str) = some NameKind.globalImplicit := by decide +kernel
theorem g_days_L1_law_draw : ls_days_1.names.lookup ("_law_draw" : Str) = some NameKind.globalImplicit := by decide +kernel
theorem g_days_Rest : (defScope s_days).names.lookup ("Rest" : Str) = some NameKind.globalImplicit := by decide +kernel
theorem g_days_due_isinstance : (defScope s_days_due).names.lookup ("isinstance" : Str) = some NameKind.globalImplicit := by decide +kernel
theorem g_days_due_law_in : (defScope s_days_due).names.lookup ("_law_in" : Str) = some NameKind.globalImplicit := by decide +kernel
theorem g_days_due_len : (defScope s_days_due).names.lookup ("len" : Str) = some NameKind.globalImplicit := by decide +kernel
theorem g_days_due_list : (defScope s_days_due).names.lookup ("list" : Str) = some NameKind.globalImplicit := by decide +kernel
theorem g_days_due_range : (defScope s_days_due).names.lookup ("range" : Str) = some NameKind.globalImplicit := by decide +kernel
theorem g_days_due_tuple : (defScope s_days_due).names.lookup ("tuple" : Str) = some NameKind.globalImplicit := by decide +kernel
theorem g_days_isinstance : (defScope s_days).names.lookup ("isinstance" : Str) = some NameKind.globalImplicit := by decide +kernel
theorem g_days_law_ask : (defScope s_days).names.lookup ("_law_ask" : Str) = some NameKind.globalImplicit := by decide +kernel
theorem g_days_law_borders : (defScope s_days).names.lookup ("_law_borders" : Str) = some NameKind.globalImplicit := by decide +kernel
theorem g_days_law_days_due : (defScope s_days).names.lookup ("_law_days_due" : Str) = some NameKind.globalImplicit := by decide +kernel
theorem g_days_law_like : (defScope s_days).names.lookup ("_law_like" : Str) = some NameKind.globalImplicit := by decide +kernel
theorem g_days_law_number : (defScope s_days).names.lookup ("_law_number" : Str) = some NameKind.globalImplicit := by decide +kernel
theorem g_days_list : (defScope s_days).names.lookup ("list" : Str) = some NameKind.globalImplicit := by decide +kernel
theorem g_days_tuple : (defScope s_days).names.lookup ("tuple" : Str) = some NameKind.globalImplicit := by decide +kernel
theorem g_draw_int : (defScope s_draw).names.lookup ("int" : Str) = some NameKind.globalImplicit := by decide +kernel
theorem g_draw_len : (defScope s_draw).names.lookup ("len" : Str) = some NameKind.globalImplicit := by decide +kernel
theorem g_equal_so_law_like : (defScope s_equal_so).names.lookup ("_law_like" : Str) = some NameKind.globalImplicit := by decide +kernel
theorem g_equal_so_law_of : (defScope s_equal_so).names.lookup ("_law_of" : Str) = some NameKind.globalImplicit := by decide +kernel
theorem g_equal_so_law_text : (defScope s_equal_so).names.lookup ("_law_text" : Str) = some NameKind.globalImplicit := by decide +kernel
theorem g_facts_law_facts : (defScope s_facts).names.lookup ("_law_facts" : Str) = some NameKind.globalImplicit := by decide +kernel
theorem g_facts_law_lcm : (defScope s_facts).names.lookup ("_law_lcm" : Str) = some NameKind.globalImplicit := by decide +kernel
theorem g_facts_max : (defScope s_facts).names.lookup ("max" : Str) = some NameKind.globalImplicit := by decide +kernel
theorem g_in_bool : (defScope s_in).names.lookup ("bool" : Str) = some NameKind.globalImplicit := by decide +kernel
theorem g_in_int : (defScope s_in).names.lookup ("int" : Str) = some NameKind.globalImplicit := by decide +kernel
theorem g_in_isinstance : (defScope s_in).names.lookup ("isinstance" : Str) = some NameKind.globalImplicit := by decide +kernel
theorem g_is_number_bool : (defScope s_is_number).names.lookup ("bool" : Str) = some NameKind.globalImplicit := by decide +kernel
theorem g_is_number_int : (defScope s_is_number).names.lookup ("int" : Str) = some NameKind.globalImplicit := by decide +kernel
theorem g_is_number_isinstance : (defScope s_is_number).names.lookup ("isinstance" : Str) = some NameKind.globalImplicit := by decide +kernel
theorem g_joined_FORMS : (defScope s_joined).names.lookup ("FORMS" : Str) = some NameKind.globalImplicit := by decide +kernel
theorem g_joined_InvalidRest : (defScope s_joined).names.lookup ("InvalidRest" : Str) = some NameKind.globalImplicit := by decide +kernel
theorem g_joined_PERIOD : (defScope s_joined).names.lookup ("PERIOD" : Str) = some NameKind.globalImplicit := by decide +kernel
theorem g_joined_Rest : (defScope s_joined).names.lookup ("Rest" : Str) = some NameKind.globalImplicit := by decide +kernel
theorem g_joined_TooMany : (defScope s_joined).names.lookup ("TooMany" : Str) = some NameKind.globalImplicit := by decide +kernel
theorem g_joined_isinstance : (defScope s_joined).names.lookup ("isinstance" : Str) = some NameKind.globalImplicit := by decide +kernel
theorem g_joined_lcm : (defScope s_joined).names.lookup ("lcm" : Str) = some NameKind.globalImplicit := by decide +kernel
theorem g_joined_max : (defScope s_joined).names.lookup ("max" : Str) = some NameKind.globalImplicit := by decide +kernel
theorem g_law_Days : (defScope s_law).names.lookup ("Days" : Str) = some NameKind.globalImplicit := by decide +kernel
theorem g_law_Window : (defScope s_law).names.lookup ("Window" : Str) = some NameKind.globalImplicit := by decide +kernel
theorem g_law_law_bag : (defScope s_law).names.lookup ("_law_bag" : Str) = some NameKind.globalImplicit := by decide +kernel
theorem g_law_law_days : (defScope s_law).names.lookup ("_law_days" : Str) = some NameKind.globalImplicit := by decide +kernel
theorem g_law_law_equal_so : (defScope s_law).names.lookup ("_law_equal_so" : Str) = some NameKind.globalImplicit := by decide +kernel
theorem g_law_law_told_so : (defScope s_law).names.lookup ("_law_told_so" : Str) = some NameKind.globalImplicit := by decide +kernel
theorem g_law_law_under : (defScope s_law).names.lookup ("_law_under" : Str) = some NameKind.globalImplicit := by decide +kernel
theorem g_law_law_window : (defScope s_law).names.lookup ("_law_window" : Str) = some NameKind.globalImplicit := by decide +kernel
theorem g_law_range : (defScope s_law).names.lookup ("range" : Str) = some NameKind.globalImplicit := by decide +kernel
theorem g_like_1_law_like : (relS cs_like_1 (defScope s_like)).names.lookup ("_law_like" : Str) = some NameKind.globalImplicit := by decide +kernel
theorem g_like_all : (defScope s_like).names.lookup ("all" : Str) = some NameKind.globalImplicit := by decide +kernel
theorem g_like_bool : (defScope s_like).names.lookup ("bool" : Str) = some NameKind.globalImplicit := by decide +kernel
theorem g_like_dict : (defScope s_like).names.lookup ("dict" : Str) = some NameKind.globalImplicit := by decide +kernel
theorem g_like_int : (defScope s_like).names.lookup ("int" : Str) = some NameKind.globalImplicit := by decide +kernel
theorem g_like_isinstance : (defScope s_like).names.lookup ("isinstance" : Str) = some NameKind.globalImplicit := by decide +kernel
theorem g_like_len : (defScope s_like).names.lookup ("len" : Str) = some NameKind.globalImplicit := by decide +kernel
theorem g_like_list : (defScope s_like).names.lookup ("list" : Str) = some NameKind.globalImplicit := by decide +kernel
theorem g_like_str : (defScope s_like).names.lookup ("str" : Str) = some NameKind.globalImplicit := by decide +kernel
theorem g_like_tuple : (defScope s_like).names.lookup ("tuple" : Str) = some NameKind.globalImplicit := by decide +kernel
theorem g_like_zip : (defScope s_like).names.lookup ("zip" : Str) = some NameKind.globalImplicit := by decide +kernel
theorem g_llcm_int : (defScope s_llcm).names.lookup ("int" : Str) = some NameKind.globalImplicit := by decide +kernel
theorem g_number_law_draw : (defScope s_number).names.lookup ("_law_draw" : Str) = some NameKind.globalImplicit := by decide +kernel
theorem g_number_law_odd : (defScope s_number).names.lookup ("_law_odd" : Str) = some NameKind.globalImplicit := by decide +kernel
theorem g_number_law_of : (defScope s_number).names.lookup ("_law_of" : Str) = some NameKind.globalImplicit := by decide +kernel
theorem g_odd_1_law_of : (relS cs_odd_1 (defScope s_odd)).names.lookup ("_law_of" : Str) = some NameKind.globalImplicit := by decide +kernel
theorem g_odd_2_law_of : (relS cs_odd_2 (defScope s_odd)).names.lookup ("_law_of" : Str) = some NameKind.globalImplicit := by decide +kernel
theorem g_odd_law_draw : (defScope s_odd).names.lookup ("_law_draw" : Str) = some NameKind.globalImplicit := by decide +kernel
theorem g_odd_law_of : (defScope s_odd).names.lookup ("_law_of" : Str) = some NameKind.globalImplicit := by decide +kernel
theorem g_odd_range : (defScope s_odd).names.lookup ("range" : Str) = some NameKind.globalImplicit := by decide +kernel
theorem g_odd_tuple : (defScope s_odd).names.lookup ("tuple" : Str) = some NameKind.globalImplicit := by decide +kernel
theorem g_of_law_draw : (defScope s_of).names.lookup ("_law_draw" : Str) = some NameKind.globalImplicit := by decide +kernel
theorem g_of_len : (defScope s_of).names.lookup ("len" : Str) = some NameKind.globalImplicit := by decide +kernel
theorem g_pair_Later : (defScope s_pair).names.lookup ("Later" : Str) = some NameKind.globalImplicit := by decide +kernel
theorem g_pair_Next : (defScope s_pair).names.lookup ("Next" : Str) = some NameKind.globalImplicit := by decide +kernel
theorem g_pair_Sooner : (defScope s_pair).names.lookup ("Sooner" : Str) = some NameKind.globalImplicit := by decide +kernel
theorem g_pair_due_law_facts : (defScope s_pair_due).names.lookup ("_law_facts" : Str) = some NameKind.globalImplicit := by decide +kernel
theorem g_pair_due_law_lcm : (defScope s_pair_due).names.lookup ("_law_lcm" : Str) = some NameKind.globalImplicit := by decide +kernel
theorem g_pair_law_draw : (defScope s_pair).names.lookup ("_law_draw" : Str) = some NameKind.globalImplicit := by decide +kernel
theorem g_text_1_str : (relS cs_text_1 (defScope s_text)).names.lookup ("str" : Str) = some NameKind.globalImplicit := by decide +kernel
theorem g_text_law_text : (defScope s_text).names.lookup ("_law_text" : Str) = some NameKind.globalImplicit := by decide +kernel
theorem g_told_so_law_facts : (defScope s_told_so).names.lookup ("_law_facts" : Str) = some NameKind.globalImplicit := by decide +kernel
theorem g_told_so_law_like : (defScope s_told_so).names.lookup ("_law_like" : Str) = some NameKind.globalImplicit := by decide +kernel
theorem g_told_so_law_text : (defScope s_told_so).names.lookup ("_law_text" : Str) = some NameKind.globalImplicit := by decide +kernel
theorem g_told_so_repr : (defScope s_told_so).names.lookup ("repr" : Str) = some NameKind.globalImplicit := by decide +kernel
theorem g_told_so_str : (defScope s_told_so).names.lookup ("str" : Str) = some NameKind.globalImplicit := by decide +kernel
theorem g_under_1_law_of : (relS cs_under_1 (defScope s_under)).names.lookup ("_law_of" : Str) = some NameKind.globalImplicit := by decide +kernel
theorem g_under_L1_law_pair : ls_under_1.names.lookup ("_law_pair" : Str) = some NameKind.globalImplicit := by decide +kernel
theorem g_under_Rest : (defScope s_under).names.lookup ("Rest" : Str) = some NameKind.globalImplicit := by decide +kernel
theorem g_under_isinstance : (defScope s_under).names.lookup ("isinstance" : Str) = some NameKind.globalImplicit := by decide +kernel
theorem g_under_law_ask : (defScope s_under).names.lookup ("_law_ask" : Str) = some NameKind.globalImplicit := by decide +kernel
theorem g_under_law_class_so : (defScope s_under).names.lookup ("_law_class_so" : Str) = some NameKind.globalImplicit := by decide +kernel
theorem g_under_law_draw : (defScope s_under).names.lookup ("_law_draw" : Str) = some NameKind.globalImplicit := by decide +kernel
theorem g_under_law_like : (defScope s_under).names.lookup ("_law_like" : Str) = some NameKind.globalImplicit := by decide +kernel
theorem g_under_law_odd : (defScope s_under).names.lookup ("_law_odd" : Str) = some NameKind.globalImplicit := by decide +kernel
theorem g_under_law_of : (defScope s_under).names.lookup ("_law_of" : Str) = some NameKind.globalImplicit := by decide +kernel
theorem g_under_law_pair_due : (defScope s_under).names.lookup ("_law_pair_due" : Str) = some NameKind.globalImplicit := by decide +kernel
theorem g_under_law_text : (defScope s_under).names.lookup ("_law_text" : Str) = some NameKind.globalImplicit := by decide +kernel
theorem g_under_range : (defScope s_under).names.lookup ("range" : Str) = some NameKind.globalImplicit := by decide +kernel
theorem g_window_L1_Window : ls_window_1.names.lookup ("Window" : Str) = some NameKind.globalImplicit := by decide +kernel
theorem g_window_L1_law_draw : ls_window_1.names.lookup ("_law_draw" : Str) = some NameKind.globalImplicit := by decide +kernel
theorem g_window_Rest : (defScope s_window).names.lookup ("Rest" : Str) = some NameKind.globalImplicit := by decide +kernel
theorem g_window_Window : (defScope s_window).names.lookup ("Window" : Str) = some NameKind.globalImplicit := by decide +kernel
theorem g_window_isinstance : (defScope s_window).names.lookup ("isinstance" : Str) = some NameKind.globalImplicit := by decide +kernel
theorem g_window_law_ask : (defScope s_window).names.lookup ("_law_ask" : Str) = some NameKind.globalImplicit := by decide +kernel
theorem g_window_law_in : (defScope s_window).names.lookup ("_law_in" : Str) = some NameKind.globalImplicit := by decide +kernel
theorem g_window_law_like : (defScope s_window).names.lookup ("_law_like" : Str) = some NameKind.globalImplicit := by decide +kernel
theorem g_window_law_number : (defScope s_window).names.lookup ("_law_number" : Str) = some NameKind.globalImplicit := by decide +kernel
theorem l_Days_init_1_border : locB (relS cs_Days_init_1 (defScope s_Days_init)) "border" = true := by decide +kernel
theorem l_Days_init_at : locB (defScope s_Days_init) "at" = true := by decide +kernel
theorem l_Days_init_border : locB (defScope s_Days_init) "border" = true := by decide +kernel
theorem l_Days_init_last : locB (defScope s_Days_init) "last" = true := by decide +kernel
theorem l_Days_init_self : locB (defScope s_Days_init) "self" = true := by decide +kernel
theorem l_Days_init_words : locB (defScope s_Days_init) "words" = true := by decide +kernel
theorem l_InvalidBorders_init_self : locB (defScope s_InvalidBorders_init) "self" = true := by decide +kernel
theorem l_InvalidNumber_init_self : locB (defScope s_InvalidNumber_init) "self" = true := by decide +kernel
theorem l_InvalidRest_init_self : locB (defScope s_InvalidRest_init) "self" = true := by decide +kernel
theorem l_Later_init_bend : locB (defScope s_Later_init) "bend" = true := by decide +kernel
theorem l_Later_init_forms : locB (defScope s_Later_init) "forms" = true := by decide +kernel
theorem l_Later_init_period : locB (defScope s_Later_init) "period" = true := by decide +kernel
theorem l_Later_init_self : locB (defScope s_Later_init) "self" = true := by decide +kernel
theorem l_Later_init_text : locB (defScope s_Later_init) "text" = true := by decide +kernel
theorem l_Next_init_bend : locB (defScope s_Next_init) "bend" = true := by decide +kernel
theorem l_Next_init_forms : locB (defScope s_Next_init) "forms" = true := by decide +kernel
theorem l_Next_init_period : locB (defScope s_Next_init) "period" = true := by decide +kernel
theorem l_Next_init_self : locB (defScope s_Next_init) "self" = true := by decide +kernel
theorem l_Next_init_text : locB (defScope s_Next_init) "text" = true := by decide +kernel
theorem l_Sooner_init_bend : locB (defScope s_Sooner_init) "bend" = true := by decide +kernel
theorem l_Sooner_init_forms : locB (defScope s_Sooner_init) "forms" = true := by decide +kernel
theorem l_Sooner_init_period : locB (defScope s_Sooner_init) "period" = true := by decide +kernel
theorem l_Sooner_init_self : locB (defScope s_Sooner_init) "self" = true := by decide +kernel
theorem l_Sooner_init_text : locB (defScope s_Sooner_init) "text" = true := by decide +kernel
theorem l_TooMany_init_self : locB (defScope s_TooMany_init) "self" = true := by decide +kernel
theorem l_Window_init_self : locB (defScope s_Window_init) "self" = true := by decide +kernel
theorem l_ask_error : locB (defScope s_ask) "error" = true := by decide +kernel
theorem l_ask_law_fault : locB (defScope s_ask) "_law_fault" = true := by decide +kernel
theorem l_ask_law_told : locB (defScope s_ask) "_law_told" = true := by decide +kernel
theorem l_bag_law_item : locB (defScope s_bag) "_law_item" = true := by decide +kernel
theorem l_bag_law_seed : locB (defScope s_bag) "_law_seed" = true := by decide +kernel
theorem l_borders_law_at : locB (defScope s_borders) "_law_at" = true := by decide +kernel
theorem l_borders_law_bend : locB (defScope s_borders) "_law_bend" = true := by decide +kernel
theorem l_borders_law_edge : locB (defScope s_borders) "_law_edge" = true := by decide +kernel
theorem l_borders_law_k : locB (defScope s_borders) "_law_k" = true := by decide +kernel
theorem l_borders_law_pick : locB (defScope s_borders) "_law_pick" = true := by decide +kernel
theorem l_borders_law_some : locB (defScope s_borders) "_law_some" = true := by decide +kernel
theorem l_days_due_law_at : locB (defScope s_days_due) "_law_at" = true := by decide +kernel
theorem l_days_due_law_low : locB (defScope s_days_due) "_law_low" = true := by decide +kernel
theorem l_days_law_copy : locB (defScope s_days) "_law_copy" = true := by decide +kernel
theorem l_days_law_due : locB (defScope s_days) "_law_due" = true := by decide +kernel
theorem l_days_law_fault : locB (defScope s_days) "_law_fault" = true := by decide +kernel
theorem l_days_law_some : locB (defScope s_days) "_law_some" = true := by decide +kernel
theorem l_days_law_told : locB (defScope s_days) "_law_told" = true := by decide +kernel
theorem l_draw_law_digit : locB (defScope s_draw) "_law_digit" = true := by decide +kernel
theorem l_draw_law_item : locB (defScope s_draw) "_law_item" = true := by decide +kernel
theorem l_equal_so_law_one : locB (defScope s_equal_so) "_law_one" = true := by decide +kernel
theorem l_equal_so_law_other : locB (defScope s_equal_so) "_law_other" = true := by decide +kernel
theorem l_equal_so_law_told : locB (defScope s_equal_so) "_law_told" = true := by decide +kernel
theorem l_equal_so_law_two : locB (defScope s_equal_so) "_law_two" = true := by decide +kernel
theorem l_facts_law_one : locB (defScope s_facts) "_law_one" = true := by decide +kernel
theorem l_facts_law_two : locB (defScope s_facts) "_law_two" = true := by decide +kernel
theorem l_joined_bend : locB (defScope s_joined) "bend" = true := by decide +kernel
theorem l_joined_forms : locB (defScope s_joined) "forms" = true := by decide +kernel
theorem l_joined_period : locB (defScope s_joined) "period" = true := by decide +kernel
theorem l_joined_value : locB (defScope s_joined) "value" = true := by decide +kernel
theorem l_law_law_bag_here : locB (defScope s_law) "_law_bag_here" = true := by decide +kernel
theorem l_law_law_k : locB (defScope s_law) "_law_k" = true := by decide +kernel
theorem l_law_law_kept : locB (defScope s_law) "_law_kept" = true := by decide +kernel
theorem l_law_law_plan : locB (defScope s_law) "_law_plan" = true := by decide +kernel
theorem l_law_law_thing : locB (defScope s_law) "_law_thing" = true := by decide +kernel
theorem l_like_1_law_a : locB (relS cs_like_1 (defScope s_like)) "_law_a" = true := by decide +kernel
theorem l_like_1_law_b : locB (relS cs_like_1 (defScope s_like)) "_law_b" = true := by decide +kernel
theorem l_llcm_law_one : locB (defScope s_llcm) "_law_one" = true := by decide +kernel
theorem l_llcm_law_two : locB (defScope s_llcm) "_law_two" = true := by decide +kernel
theorem l_number_law_pick : locB (defScope s_number) "_law_pick" = true := by decide +kernel
theorem l_odd_1_law_k : locB (relS cs_odd_1 (defScope s_odd)) "_law_k" = true := by decide +kernel
theorem l_odd_2_law_k : locB (relS cs_odd_2 (defScope s_odd)) "_law_k" = true := by decide +kernel
theorem l_odd_law_pick : locB (defScope s_odd) "_law_pick" = true := by decide +kernel
theorem l_pair_due_law_a : locB (defScope s_pair_due) "_law_a" = true := by decide +kernel
theorem l_pair_due_law_b : locB (defScope s_pair_due) "_law_b" = true := by decide +kernel
theorem l_pair_due_law_both : locB (defScope s_pair_due) "_law_both" = true := by decide +kernel
theorem l_pair_law_way : locB (defScope s_pair) "_law_way" = true := by decide +kernel
theorem l_text_1_law_edge : locB (relS cs_text_1 (defScope s_text)) "_law_edge" = true := by decide +kernel
theorem l_told_so_law_text_here : locB (defScope s_told_so) "_law_text_here" = true := by decide +kernel
theorem l_under_1_law_k : locB (relS cs_under_1 (defScope s_under)) "_law_k" = true := by decide +kernel
theorem l_under_law_due : locB (defScope s_under) "_law_due" = true := by decide +kernel
theorem l_under_law_fault : locB (defScope s_under) "_law_fault" = true := by decide +kernel
theorem l_under_law_plan : locB (defScope s_under) "_law_plan" = true := by decide +kernel
theorem l_under_law_told : locB (defScope s_under) "_law_told" = true := by decide +kernel
theorem l_window_law_fault : locB (defScope s_window) "_law_fault" = true := by decide +kernel
theorem l_window_law_told : locB (defScope s_window) "_law_told" = true := by decide +kernel
theorem lam_days_ls_days_1 : LamX.lamSB (defScope s_days) ls_days_1 = true := by decide +kernel
theorem lam_under_ls_under_1 : LamX.lamSB (defScope s_under) ls_under_1 = true := by decide +kernel
theorem lam_window_ls_window_1 : LamX.lamSB (defScope s_window) ls_window_1 = true := by decide +kernel
theorem ok_cs_Days_init_1 : BlkOk N_Days_init (defScope s_Days_init) cs_Days_init_1 [("border", 6)] := blkOk_by (by decide +kernel)
theorem ok_cs_like_1 : BlkOk N_like (defScope s_like) cs_like_1 [("_law_a", 2), ("_law_b", 3)] := blkOk_by (by decide +kernel)
theorem ok_cs_odd_1 : BlkOk N_odd (defScope s_odd) cs_odd_1 [("_law_k", 2)] := blkOk_by (by decide +kernel)
theorem ok_cs_odd_2 : BlkOk N_odd (defScope s_odd) cs_odd_2 [("_law_k", 2)] := blkOk_by (by decide +kernel)
theorem ok_cs_text_1 : BlkOk N_text (defScope s_text) cs_text_1 [("_law_edge", 1)] := blkOk_by (by decide +kernel)
theorem ok_cs_under_1 : BlkOk N_under (defScope s_under) cs_under_1 [("_law_k", 8)] := blkOk_by (by decide +kernel)
theorem v_Days_borders_self : visB (defScope s_Days_borders) "self" = true := by decide +kernel
theorem v_Days_init_1_border : visB (relS cs_Days_init_1 (defScope s_Days_init)) "border" = true := by decide +kernel
theorem v_Days_init_at : visB (defScope s_Days_init) "at" = true := by decide +kernel
theorem v_Days_init_border : visB (defScope s_Days_init) "border" = true := by decide +kernel
theorem v_Days_init_borders : visB (defScope s_Days_init) "borders" = true := by decide +kernel
theorem v_Days_init_every : visB (defScope s_Days_init) "every" = true := by decide +kernel
theorem v_Days_init_last : visB (defScope s_Days_init) "last" = true := by decide +kernel
theorem v_Days_init_self : visB (defScope s_Days_init) "self" = true := by decide +kernel
theorem v_Days_init_words : visB (defScope s_Days_init) "words" = true := by decide +kernel
theorem v_InvalidBorders_init_at : visB (defScope s_InvalidBorders_init) "at" = true := by decide +kernel
theorem v_InvalidBorders_init_self : visB (defScope s_InvalidBorders_init) "self" = true := by decide +kernel
theorem v_InvalidNumber_init_self : visB (defScope s_InvalidNumber_init) "self" = true := by decide +kernel
theorem v_InvalidNumber_init_value : visB (defScope s_InvalidNumber_init) "value" = true := by decide +kernel
theorem v_InvalidRest_init_self : visB (defScope s_InvalidRest_init) "self" = true := by decide +kernel
theorem v_InvalidRest_init_value : visB (defScope s_InvalidRest_init) "value" = true := by decide +kernel
theorem v_Later_init_bend : visB (defScope s_Later_init) "bend" = true := by decide +kernel
theorem v_Later_init_first : visB (defScope s_Later_init) "first" = true := by decide +kernel
theorem v_Later_init_forms : visB (defScope s_Later_init) "forms" = true := by decide +kernel
theorem v_Later_init_period : visB (defScope s_Later_init) "period" = true := by decide +kernel
theorem v_Later_init_second : visB (defScope s_Later_init) "second" = true := by decide +kernel
theorem v_Later_init_self : visB (defScope s_Later_init) "self" = true := by decide +kernel
theorem v_Later_init_text : visB (defScope s_Later_init) "text" = true := by decide +kernel
theorem v_Next_init_bend : visB (defScope s_Next_init) "bend" = true := by decide +kernel
theorem v_Next_init_first : visB (defScope s_Next_init) "first" = true := by decide +kernel
theorem v_Next_init_forms : visB (defScope s_Next_init) "forms" = true := by decide +kernel
theorem v_Next_init_period : visB (defScope s_Next_init) "period" = true := by decide +kernel
theorem v_Next_init_second : visB (defScope s_Next_init) "second" = true := by decide +kernel
theorem v_Next_init_self : visB (defScope s_Next_init) "self" = true := by decide +kernel
theorem v_Next_init_text : visB (defScope s_Next_init) "text" = true := by decide +kernel
theorem v_Rest_bend_self : visB (defScope s_Rest_bend) "self" = true := by decide +kernel
theorem v_Rest_eq_other : visB (defScope s_Rest_eq) "other" = true := by decide +kernel
theorem v_Rest_eq_self : visB (defScope s_Rest_eq) "self" = true := by decide +kernel
theorem v_Rest_forms_self : visB (defScope s_Rest_forms) "self" = true := by decide +kernel
theorem v_Rest_init_bend : visB (defScope s_Rest_init) "bend" = true := by decide +kernel
theorem v_Rest_init_forms : visB (defScope s_Rest_init) "forms" = true := by decide +kernel
theorem v_Rest_init_period : visB (defScope s_Rest_init) "period" = true := by decide +kernel
theorem v_Rest_init_self : visB (defScope s_Rest_init) "self" = true := by decide +kernel
theorem v_Rest_init_text : visB (defScope s_Rest_init) "text" = true := by decide +kernel
theorem v_Rest_period_self : visB (defScope s_Rest_period) "self" = true := by decide +kernel
theorem v_Rest_repr_self : visB (defScope s_Rest_repr) "self" = true := by decide +kernel
theorem v_Rest_str_self : visB (defScope s_Rest_str) "self" = true := by decide +kernel
theorem v_Rest_written_self : visB (defScope s_Rest_written) "self" = true := by decide +kernel
theorem v_Sooner_init_bend : visB (defScope s_Sooner_init) "bend" = true := by decide +kernel
theorem v_Sooner_init_first : visB (defScope s_Sooner_init) "first" = true := by decide +kernel
theorem v_Sooner_init_forms : visB (defScope s_Sooner_init) "forms" = true := by decide +kernel
theorem v_Sooner_init_period : visB (defScope s_Sooner_init) "period" = true := by decide +kernel
theorem v_Sooner_init_second : visB (defScope s_Sooner_init) "second" = true := by decide +kernel
theorem v_Sooner_init_self : visB (defScope s_Sooner_init) "self" = true := by decide +kernel
theorem v_Sooner_init_text : visB (defScope s_Sooner_init) "text" = true := by decide +kernel
theorem v_TooMany_init_count : visB (defScope s_TooMany_init) "count" = true := by decide +kernel
theorem v_TooMany_init_self : visB (defScope s_TooMany_init) "self" = true := by decide +kernel
theorem v_TooMany_init_what : visB (defScope s_TooMany_init) "what" = true := by decide +kernel
theorem v_Window_init_self : visB (defScope s_Window_init) "self" = true := by decide +kernel
theorem v_Window_init_width : visB (defScope s_Window_init) "width" = true := by decide +kernel
theorem v_ask_error : visB (defScope s_ask) "error" = true := by decide +kernel
theorem v_ask_law_fault : visB (defScope s_ask) "_law_fault" = true := by decide +kernel
theorem v_ask_law_told : visB (defScope s_ask) "_law_told" = true := by decide +kernel
theorem v_bag_law_item : visB (defScope s_bag) "_law_item" = true := by decide +kernel
theorem v_bag_law_script : visB (defScope s_bag) "_law_script" = true := by decide +kernel
theorem v_bag_law_seed : visB (defScope s_bag) "_law_seed" = true := by decide +kernel
theorem v_borders_law_at : visB (defScope s_borders) "_law_at" = true := by decide +kernel
theorem v_borders_law_bag_here : visB (defScope s_borders) "_law_bag_here" = true := by decide +kernel
theorem v_borders_law_bend : visB (defScope s_borders) "_law_bend" = true := by decide +kernel
theorem v_borders_law_edge : visB (defScope s_borders) "_law_edge" = true := by decide +kernel
theorem v_borders_law_pick : visB (defScope s_borders) "_law_pick" = true := by decide +kernel
theorem v_borders_law_some : visB (defScope s_borders) "_law_some" = true := by decide +kernel
theorem v_class_so_law_pick : visB (defScope s_class_so) "_law_pick" = true := by decide +kernel
theorem v_class_so_law_told : visB (defScope s_class_so) "_law_told" = true := by decide +kernel
theorem v_days_L1_law_bag_here : visB ls_days_1 "_law_bag_here" = true := by decide +kernel
theorem v_days_L1_law_edges : visB ls_days_1 "_law_edges" = true := by decide +kernel
theorem v_days_L1_law_gap : visB ls_days_1 "_law_gap" = true := by decide +kernel
theorem v_days_due_law_at : visB (defScope s_days_due) "_law_at" = true := by decide +kernel
theorem v_days_due_law_edges : visB (defScope s_days_due) "_law_edges" = true := by decide +kernel
theorem v_days_due_law_gap : visB (defScope s_days_due) "_law_gap" = true := by decide +kernel
theorem v_days_due_law_low : visB (defScope s_days_due) "_law_low" = true := by decide +kernel
theorem v_days_law_bag_here : visB (defScope s_days) "_law_bag_here" = true := by decide +kernel
theorem v_days_law_copy : visB (defScope s_days) "_law_copy" = true := by decide +kernel
theorem v_days_law_due : visB (defScope s_days) "_law_due" = true := by decide +kernel
theorem v_days_law_edges : visB (defScope s_days) "_law_edges" = true := by decide +kernel
theorem v_days_law_fault : visB (defScope s_days) "_law_fault" = true := by decide +kernel
theorem v_days_law_gap : visB (defScope s_days) "_law_gap" = true := by decide +kernel
theorem v_days_law_kept : visB (defScope s_days) "_law_kept" = true := by decide +kernel
theorem v_days_law_some : visB (defScope s_days) "_law_some" = true := by decide +kernel
theorem v_days_law_told : visB (defScope s_days) "_law_told" = true := by decide +kernel
theorem v_draw_law_bag_here : visB (defScope s_draw) "_law_bag_here" = true := by decide +kernel
theorem v_draw_law_digit : visB (defScope s_draw) "_law_digit" = true := by decide +kernel
theorem v_draw_law_item : visB (defScope s_draw) "_law_item" = true := by decide +kernel
theorem v_draw_law_limit : visB (defScope s_draw) "_law_limit" = true := by decide +kernel
theorem v_equal_so_law_bag_here : visB (defScope s_equal_so) "_law_bag_here" = true := by decide +kernel
theorem v_equal_so_law_kept : visB (defScope s_equal_so) "_law_kept" = true := by decide +kernel
theorem v_equal_so_law_one : visB (defScope s_equal_so) "_law_one" = true := by decide +kernel
theorem v_equal_so_law_other : visB (defScope s_equal_so) "_law_other" = true := by decide +kernel
theorem v_equal_so_law_told : visB (defScope s_equal_so) "_law_told" = true := by decide +kernel
theorem v_equal_so_law_two : visB (defScope s_equal_so) "_law_two" = true := by decide +kernel
theorem v_facts_law_one : visB (defScope s_facts) "_law_one" = true := by decide +kernel
theorem v_facts_law_plan : visB (defScope s_facts) "_law_plan" = true := by decide +kernel
theorem v_facts_law_two : visB (defScope s_facts) "_law_two" = true := by decide +kernel
theorem v_in_law_high : visB (defScope s_in) "_law_high" = true := by decide +kernel
theorem v_in_law_low : visB (defScope s_in) "_law_low" = true := by decide +kernel
theorem v_in_law_thing : visB (defScope s_in) "_law_thing" = true := by decide +kernel
theorem v_is_number_least : visB (defScope s_is_number) "least" = true := by decide +kernel
theorem v_is_number_most : visB (defScope s_is_number) "most" = true := by decide +kernel
theorem v_is_number_value : visB (defScope s_is_number) "value" = true := by decide +kernel
theorem v_joined_bend : visB (defScope s_joined) "bend" = true := by decide +kernel
theorem v_joined_first : visB (defScope s_joined) "first" = true := by decide +kernel
theorem v_joined_forms : visB (defScope s_joined) "forms" = true := by decide +kernel
theorem v_joined_period : visB (defScope s_joined) "period" = true := by decide +kernel
theorem v_joined_second : visB (defScope s_joined) "second" = true := by decide +kernel
theorem v_joined_value : visB (defScope s_joined) "value" = true := by decide +kernel
theorem v_joined_word : visB (defScope s_joined) "word" = true := by decide +kernel
theorem v_law_law_bag_here : visB (defScope s_law) "_law_bag_here" = true := by decide +kernel
theorem v_law_law_kept : visB (defScope s_law) "_law_kept" = true := by decide +kernel
theorem v_law_law_plan : visB (defScope s_law) "_law_plan" = true := by decide +kernel
theorem v_law_law_script : visB (defScope s_law) "_law_script" = true := by decide +kernel
theorem v_law_law_thing : visB (defScope s_law) "_law_thing" = true := by decide +kernel
theorem v_like_1_law_a : visB (relS cs_like_1 (defScope s_like)) "_law_a" = true := by decide +kernel
theorem v_like_1_law_b : visB (relS cs_like_1 (defScope s_like)) "_law_b" = true := by decide +kernel
theorem v_like_law_due : visB (defScope s_like) "_law_due" = true := by decide +kernel
theorem v_like_law_told : visB (defScope s_like) "_law_told" = true := by decide +kernel
theorem v_llcm_law_a : visB (defScope s_llcm) "_law_a" = true := by decide +kernel
theorem v_llcm_law_b : visB (defScope s_llcm) "_law_b" = true := by decide +kernel
theorem v_llcm_law_one : visB (defScope s_llcm) "_law_one" = true := by decide +kernel
theorem v_llcm_law_two : visB (defScope s_llcm) "_law_two" = true := by decide +kernel
theorem v_number_law_bag_here : visB (defScope s_number) "_law_bag_here" = true := by decide +kernel
theorem v_number_law_high : visB (defScope s_number) "_law_high" = true := by decide +kernel
theorem v_number_law_pick : visB (defScope s_number) "_law_pick" = true := by decide +kernel
theorem v_odd_1_law_bag_here : visB (relS cs_odd_1 (defScope s_odd)) "_law_bag_here" = true := by decide +kernel
theorem v_odd_2_law_bag_here : visB (relS cs_odd_2 (defScope s_odd)) "_law_bag_here" = true := by decide +kernel
theorem v_odd_law_bag_here : visB (defScope s_odd) "_law_bag_here" = true := by decide +kernel
theorem v_odd_law_pick : visB (defScope s_odd) "_law_pick" = true := by decide +kernel
theorem v_of_law_bag_here : visB (defScope s_of) "_law_bag_here" = true := by decide +kernel
theorem v_of_law_things : visB (defScope s_of) "_law_things" = true := by decide +kernel
theorem v_pair_due_law_a : visB (defScope s_pair_due) "_law_a" = true := by decide +kernel
theorem v_pair_due_law_b : visB (defScope s_pair_due) "_law_b" = true := by decide +kernel
theorem v_pair_due_law_both : visB (defScope s_pair_due) "_law_both" = true := by decide +kernel
theorem v_pair_due_law_one : visB (defScope s_pair_due) "_law_one" = true := by decide +kernel
theorem v_pair_due_law_two : visB (defScope s_pair_due) "_law_two" = true := by decide +kernel
theorem v_pair_law_a : visB (defScope s_pair) "_law_a" = true := by decide +kernel
theorem v_pair_law_b : visB (defScope s_pair) "_law_b" = true := by decide +kernel
theorem v_pair_law_bag_here : visB (defScope s_pair) "_law_bag_here" = true := by decide +kernel
theorem v_pair_law_pick : visB (defScope s_pair) "_law_pick" = true := by decide +kernel
theorem v_pair_law_way : visB (defScope s_pair) "_law_way" = true := by decide +kernel
theorem v_text_1_law_edge : visB (relS cs_text_1 (defScope s_text)) "_law_edge" = true := by decide +kernel
theorem v_text_law_plan : visB (defScope s_text) "_law_plan" = true := by decide +kernel
theorem v_told_so_law_plan : visB (defScope s_told_so) "_law_plan" = true := by decide +kernel
theorem v_told_so_law_text_here : visB (defScope s_told_so) "_law_text_here" = true := by decide +kernel
theorem v_told_so_law_thing : visB (defScope s_told_so) "_law_thing" = true := by decide +kernel
theorem v_under_1_law_bag_here : visB (relS cs_under_1 (defScope s_under)) "_law_bag_here" = true := by decide +kernel
theorem v_under_1_law_kept : visB (relS cs_under_1 (defScope s_under)) "_law_kept" = true := by decide +kernel
theorem v_under_L1_law_bag_here : visB ls_under_1 "_law_bag_here" = true := by decide +kernel
theorem v_under_L1_law_pair_here : visB ls_under_1 "_law_pair_here" = true := by decide +kernel
theorem v_under_L1_law_pick : visB ls_under_1 "_law_pick" = true := by decide +kernel
theorem v_under_law_bag_here : visB (defScope s_under) "_law_bag_here" = true := by decide +kernel
theorem v_under_law_due : visB (defScope s_under) "_law_due" = true := by decide +kernel
theorem v_under_law_fault : visB (defScope s_under) "_law_fault" = true := by decide +kernel
theorem v_under_law_kept : visB (defScope s_under) "_law_kept" = true := by decide +kernel
theorem v_under_law_pair_here : visB (defScope s_under) "_law_pair_here" = true := by decide +kernel
theorem v_under_law_pick : visB (defScope s_under) "_law_pick" = true := by decide +kernel
theorem v_under_law_plan : visB (defScope s_under) "_law_plan" = true := by decide +kernel
theorem v_under_law_told : visB (defScope s_under) "_law_told" = true := by decide +kernel
theorem v_window_L1_law_bag_here : visB ls_window_1 "_law_bag_here" = true := by decide +kernel
theorem v_window_L1_law_wide : visB ls_window_1 "_law_wide" = true := by decide +kernel
theorem v_window_law_bag_here : visB (defScope s_window) "_law_bag_here" = true := by decide +kernel
theorem v_window_law_fault : visB (defScope s_window) "_law_fault" = true := by decide +kernel
theorem v_window_law_kept : visB (defScope s_window) "_law_kept" = true := by decide +kernel
theorem v_window_law_told : visB (defScope s_window) "_law_told" = true := by decide +kernel
theorem v_window_law_wide : visB (defScope s_window) "_law_wide" = true := by decide +kernel
theorem vl_ask : Vis (defScope s_ask) "_law_deed" := (visB_ok (by decide +kernel)).1
structure Tx (K : PySem.W.Frag) (mg : Str → Option Value) where
  C_SureletError : Addr
  m_SureletError : mg "SureletError" = some (.ref C_SureletError)
  C_InvalidNumber : Addr
  m_InvalidNumber : mg "InvalidNumber" = some (.ref C_InvalidNumber)
  C_InvalidBorders : Addr
  m_InvalidBorders : mg "InvalidBorders" = some (.ref C_InvalidBorders)
  C_InvalidRest : Addr
  m_InvalidRest : mg "InvalidRest" = some (.ref C_InvalidRest)
  C_TooMany : Addr
  m_TooMany : mg "TooMany" = some (.ref C_TooMany)
  C_Rest : Addr
  m_Rest : mg "Rest" = some (.ref C_Rest)
  C_Window : Addr
  m_Window : mg "Window" = some (.ref C_Window)
  C_Days : Addr
  m_Days : mg "Days" = some (.ref C_Days)
  C_Later : Addr
  m_Later : mg "Later" = some (.ref C_Later)
  C_Sooner : Addr
  m_Sooner : mg "Sooner" = some (.ref C_Sooner)
  C_Next : Addr
  m_Next : mg "Next" = some (.ref C_Next)
  a_InvalidNumber_init : Addr
  cc_InvalidNumber_init : Addr
  cda_InvalidNumber_init : Addr
  fd_InvalidNumber_init : FuncData
  F_InvalidNumber_init : FunS K "__init__" "InvalidNumber.__init__" s_InvalidNumber_init a_InvalidNumber_init fd_InvalidNumber_init cc_InvalidNumber_init cda_InvalidNumber_init
  b_InvalidNumber_init : Binds K fd_InvalidNumber_init P_InvalidNumber_init []
  ce_InvalidNumber_init : ∃ cl cld csl, K.lookup cc_InvalidNumber_init = some ⟨cl, cld, .cell (some (.ref C_InvalidNumber)), csl⟩
  sd_InvalidNumber_init : SupDef P K mg a_InvalidNumber_init C_InvalidNumber cc_InvalidNumber_init cda_InvalidNumber_init "self"
  k_InvalidNumber_init : PySem.W.keepIn K (.ref a_InvalidNumber_init) = true
  a_InvalidBorders_init : Addr
  cc_InvalidBorders_init : Addr
  cda_InvalidBorders_init : Addr
  fd_InvalidBorders_init : FuncData
  F_InvalidBorders_init : FunS K "__init__" "InvalidBorders.__init__" s_InvalidBorders_init a_InvalidBorders_init fd_InvalidBorders_init cc_InvalidBorders_init cda_InvalidBorders_init
  b_InvalidBorders_init : Binds K fd_InvalidBorders_init P_InvalidBorders_init []
  ce_InvalidBorders_init : ∃ cl cld csl, K.lookup cc_InvalidBorders_init = some ⟨cl, cld, .cell (some (.ref C_InvalidBorders)), csl⟩
  sd_InvalidBorders_init : SupDef P K mg a_InvalidBorders_init C_InvalidBorders cc_InvalidBorders_init cda_InvalidBorders_init "self"
  k_InvalidBorders_init : PySem.W.keepIn K (.ref a_InvalidBorders_init) = true
  a_InvalidRest_init : Addr
  cc_InvalidRest_init : Addr
  cda_InvalidRest_init : Addr
  fd_InvalidRest_init : FuncData
  F_InvalidRest_init : FunS K "__init__" "InvalidRest.__init__" s_InvalidRest_init a_InvalidRest_init fd_InvalidRest_init cc_InvalidRest_init cda_InvalidRest_init
  b_InvalidRest_init : Binds K fd_InvalidRest_init P_InvalidRest_init []
  ce_InvalidRest_init : ∃ cl cld csl, K.lookup cc_InvalidRest_init = some ⟨cl, cld, .cell (some (.ref C_InvalidRest)), csl⟩
  sd_InvalidRest_init : SupDef P K mg a_InvalidRest_init C_InvalidRest cc_InvalidRest_init cda_InvalidRest_init "self"
  k_InvalidRest_init : PySem.W.keepIn K (.ref a_InvalidRest_init) = true
  a_TooMany_init : Addr
  cc_TooMany_init : Addr
  cda_TooMany_init : Addr
  fd_TooMany_init : FuncData
  F_TooMany_init : FunS K "__init__" "TooMany.__init__" s_TooMany_init a_TooMany_init fd_TooMany_init cc_TooMany_init cda_TooMany_init
  b_TooMany_init : Binds K fd_TooMany_init P_TooMany_init []
  ce_TooMany_init : ∃ cl cld csl, K.lookup cc_TooMany_init = some ⟨cl, cld, .cell (some (.ref C_TooMany)), csl⟩
  sd_TooMany_init : SupDef P K mg a_TooMany_init C_TooMany cc_TooMany_init cda_TooMany_init "self"
  k_TooMany_init : PySem.W.keepIn K (.ref a_TooMany_init) = true
  a_is_number : Addr
  fd_is_number : FuncData
  F_is_number : Fun K "is_number" "is_number" s_is_number a_is_number fd_is_number
  b_is_number : Binds K fd_is_number P_is_number []
  k_is_number : PySem.W.keepIn K (.ref a_is_number) = true
  m_is_number : mg "is_number" = some (.ref a_is_number)
  a_Rest_init : Addr
  fd_Rest_init : FuncData
  F_Rest_init : Fun K "__init__" "Rest.__init__" s_Rest_init a_Rest_init fd_Rest_init
  b_Rest_init : Binds K fd_Rest_init P_Rest_init []
  k_Rest_init : PySem.W.keepIn K (.ref a_Rest_init) = true
  a_Rest_forms : Addr
  fd_Rest_forms : FuncData
  F_Rest_forms : Fun K "forms" "Rest.forms" s_Rest_forms a_Rest_forms fd_Rest_forms
  b_Rest_forms : Binds K fd_Rest_forms P_Rest_forms []
  k_Rest_forms : PySem.W.keepIn K (.ref a_Rest_forms) = true
  a_Rest_period : Addr
  fd_Rest_period : FuncData
  F_Rest_period : Fun K "period" "Rest.period" s_Rest_period a_Rest_period fd_Rest_period
  b_Rest_period : Binds K fd_Rest_period P_Rest_period []
  k_Rest_period : PySem.W.keepIn K (.ref a_Rest_period) = true
  a_Rest_bend : Addr
  fd_Rest_bend : FuncData
  F_Rest_bend : Fun K "bend" "Rest.bend" s_Rest_bend a_Rest_bend fd_Rest_bend
  b_Rest_bend : Binds K fd_Rest_bend P_Rest_bend []
  k_Rest_bend : PySem.W.keepIn K (.ref a_Rest_bend) = true
  a_Rest_written : Addr
  fd_Rest_written : FuncData
  F_Rest_written : Fun K "written" "Rest.written" s_Rest_written a_Rest_written fd_Rest_written
  b_Rest_written : Binds K fd_Rest_written P_Rest_written []
  k_Rest_written : PySem.W.keepIn K (.ref a_Rest_written) = true
  a_Rest_str : Addr
  fd_Rest_str : FuncData
  F_Rest_str : Fun K "__str__" "Rest.__str__" s_Rest_str a_Rest_str fd_Rest_str
  b_Rest_str : Binds K fd_Rest_str P_Rest_str []
  k_Rest_str : PySem.W.keepIn K (.ref a_Rest_str) = true
  a_Rest_repr : Addr
  fd_Rest_repr : FuncData
  F_Rest_repr : Fun K "__repr__" "Rest.__repr__" s_Rest_repr a_Rest_repr fd_Rest_repr
  b_Rest_repr : Binds K fd_Rest_repr P_Rest_repr []
  k_Rest_repr : PySem.W.keepIn K (.ref a_Rest_repr) = true
  a_Rest_eq : Addr
  fd_Rest_eq : FuncData
  F_Rest_eq : Fun K "__eq__" "Rest.__eq__" s_Rest_eq a_Rest_eq fd_Rest_eq
  b_Rest_eq : Binds K fd_Rest_eq P_Rest_eq []
  k_Rest_eq : PySem.W.keepIn K (.ref a_Rest_eq) = true
  a_Window_init : Addr
  cc_Window_init : Addr
  cda_Window_init : Addr
  fd_Window_init : FuncData
  F_Window_init : FunS K "__init__" "Window.__init__" s_Window_init a_Window_init fd_Window_init cc_Window_init cda_Window_init
  b_Window_init : Binds K fd_Window_init P_Window_init []
  ce_Window_init : ∃ cl cld csl, K.lookup cc_Window_init = some ⟨cl, cld, .cell (some (.ref C_Window)), csl⟩
  sd_Window_init : SupDef P K mg a_Window_init C_Window cc_Window_init cda_Window_init "self"
  k_Window_init : PySem.W.keepIn K (.ref a_Window_init) = true
  a_Days_init : Addr
  cc_Days_init : Addr
  cda_Days_init : Addr
  fd_Days_init : FuncData
  F_Days_init : FunS K "__init__" "Days.__init__" s_Days_init a_Days_init fd_Days_init cc_Days_init cda_Days_init
  b_Days_init : Binds K fd_Days_init P_Days_init []
  ce_Days_init : ∃ cl cld csl, K.lookup cc_Days_init = some ⟨cl, cld, .cell (some (.ref C_Days)), csl⟩
  sd_Days_init : SupDef P K mg a_Days_init C_Days cc_Days_init cda_Days_init "self"
  k_Days_init : PySem.W.keepIn K (.ref a_Days_init) = true
  a_Days_borders : Addr
  fd_Days_borders : FuncData
  F_Days_borders : Fun K "borders" "Days.borders" s_Days_borders a_Days_borders fd_Days_borders
  b_Days_borders : Binds K fd_Days_borders P_Days_borders []
  k_Days_borders : PySem.W.keepIn K (.ref a_Days_borders) = true
  a_joined : Addr
  fd_joined : FuncData
  F_joined : Fun K "joined" "joined" s_joined a_joined fd_joined
  b_joined : Binds K fd_joined P_joined []
  k_joined : PySem.W.keepIn K (.ref a_joined) = true
  m_joined : mg "joined" = some (.ref a_joined)
  a_Later_init : Addr
  cc_Later_init : Addr
  cda_Later_init : Addr
  fd_Later_init : FuncData
  F_Later_init : FunS K "__init__" "Later.__init__" s_Later_init a_Later_init fd_Later_init cc_Later_init cda_Later_init
  b_Later_init : Binds K fd_Later_init P_Later_init []
  ce_Later_init : ∃ cl cld csl, K.lookup cc_Later_init = some ⟨cl, cld, .cell (some (.ref C_Later)), csl⟩
  sd_Later_init : SupDef P K mg a_Later_init C_Later cc_Later_init cda_Later_init "self"
  k_Later_init : PySem.W.keepIn K (.ref a_Later_init) = true
  a_Sooner_init : Addr
  cc_Sooner_init : Addr
  cda_Sooner_init : Addr
  fd_Sooner_init : FuncData
  F_Sooner_init : FunS K "__init__" "Sooner.__init__" s_Sooner_init a_Sooner_init fd_Sooner_init cc_Sooner_init cda_Sooner_init
  b_Sooner_init : Binds K fd_Sooner_init P_Sooner_init []
  ce_Sooner_init : ∃ cl cld csl, K.lookup cc_Sooner_init = some ⟨cl, cld, .cell (some (.ref C_Sooner)), csl⟩
  sd_Sooner_init : SupDef P K mg a_Sooner_init C_Sooner cc_Sooner_init cda_Sooner_init "self"
  k_Sooner_init : PySem.W.keepIn K (.ref a_Sooner_init) = true
  a_Next_init : Addr
  cc_Next_init : Addr
  cda_Next_init : Addr
  fd_Next_init : FuncData
  F_Next_init : FunS K "__init__" "Next.__init__" s_Next_init a_Next_init fd_Next_init cc_Next_init cda_Next_init
  b_Next_init : Binds K fd_Next_init P_Next_init []
  ce_Next_init : ∃ cl cld csl, K.lookup cc_Next_init = some ⟨cl, cld, .cell (some (.ref C_Next)), csl⟩
  sd_Next_init : SupDef P K mg a_Next_init C_Next cc_Next_init cda_Next_init "self"
  k_Next_init : PySem.W.keepIn K (.ref a_Next_init) = true
  a_bag : Addr
  fd_bag : FuncData
  F_bag : Fun K "_law_bag" "_law_bag" s_bag a_bag fd_bag
  b_bag : Binds K fd_bag P_bag []
  k_bag : PySem.W.keepIn K (.ref a_bag) = true
  m_bag : mg "_law_bag" = some (.ref a_bag)
  a_draw : Addr
  fd_draw : FuncData
  F_draw : Fun K "_law_draw" "_law_draw" s_draw a_draw fd_draw
  b_draw : Binds K fd_draw P_draw []
  k_draw : PySem.W.keepIn K (.ref a_draw) = true
  m_draw : mg "_law_draw" = some (.ref a_draw)
  a_of : Addr
  fd_of : FuncData
  F_of : Fun K "_law_of" "_law_of" s_of a_of fd_of
  b_of : Binds K fd_of P_of []
  k_of : PySem.W.keepIn K (.ref a_of) = true
  m_of : mg "_law_of" = some (.ref a_of)
  a_like : Addr
  fd_like : FuncData
  F_like : Fun K "_law_like" "_law_like" s_like a_like fd_like
  b_like : Binds K fd_like P_like []
  k_like : PySem.W.keepIn K (.ref a_like) = true
  m_like : mg "_law_like" = some (.ref a_like)
  a_odd : Addr
  fd_odd : FuncData
  F_odd : Fun K "_law_odd" "_law_odd" s_odd a_odd fd_odd
  b_odd : Binds K fd_odd P_odd []
  k_odd : PySem.W.keepIn K (.ref a_odd) = true
  m_odd : mg "_law_odd" = some (.ref a_odd)
  a_llcm : Addr
  fd_llcm : FuncData
  F_llcm : Fun K "_law_lcm" "_law_lcm" s_llcm a_llcm fd_llcm
  b_llcm : Binds K fd_llcm P_llcm []
  k_llcm : PySem.W.keepIn K (.ref a_llcm) = true
  m_llcm : mg "_law_lcm" = some (.ref a_llcm)
  a_text : Addr
  fd_text : FuncData
  F_text : Fun K "_law_text" "_law_text" s_text a_text fd_text
  b_text : Binds K fd_text P_text []
  k_text : PySem.W.keepIn K (.ref a_text) = true
  m_text : mg "_law_text" = some (.ref a_text)
  a_facts : Addr
  fd_facts : FuncData
  F_facts : Fun K "_law_facts" "_law_facts" s_facts a_facts fd_facts
  b_facts : Binds K fd_facts P_facts []
  k_facts : PySem.W.keepIn K (.ref a_facts) = true
  m_facts : mg "_law_facts" = some (.ref a_facts)
  a_ask : Addr
  fd_ask : FuncData
  F_ask : Fun K "_law_ask" "_law_ask" s_ask a_ask fd_ask
  b_ask : Binds K fd_ask P_ask []
  k_ask : PySem.W.keepIn K (.ref a_ask) = true
  m_ask : mg "_law_ask" = some (.ref a_ask)
  a_in : Addr
  fd_in : FuncData
  F_in : Fun K "_law_in" "_law_in" s_in a_in fd_in
  b_in : Binds K fd_in P_in []
  k_in : PySem.W.keepIn K (.ref a_in) = true
  m_in : mg "_law_in" = some (.ref a_in)
  a_number : Addr
  fd_number : FuncData
  F_number : Fun K "_law_number" "_law_number" s_number a_number fd_number
  b_number : Binds K fd_number P_number []
  k_number : PySem.W.keepIn K (.ref a_number) = true
  m_number : mg "_law_number" = some (.ref a_number)
  a_borders : Addr
  fd_borders : FuncData
  F_borders : Fun K "_law_borders" "_law_borders" s_borders a_borders fd_borders
  b_borders : Binds K fd_borders P_borders []
  k_borders : PySem.W.keepIn K (.ref a_borders) = true
  m_borders : mg "_law_borders" = some (.ref a_borders)
  a_days_due : Addr
  fd_days_due : FuncData
  F_days_due : Fun K "_law_days_due" "_law_days_due" s_days_due a_days_due fd_days_due
  b_days_due : Binds K fd_days_due P_days_due []
  k_days_due : PySem.W.keepIn K (.ref a_days_due) = true
  m_days_due : mg "_law_days_due" = some (.ref a_days_due)
  a_window : Addr
  fd_window : FuncData
  cda_window : Addr
  tb_window : Addr
  F_window : FunL K "_law_window" "_law_window" s_window a_window fd_window cda_window
  b_window : Binds K fd_window P_window []
  k_window : PySem.W.keepIn K (.ref a_window) = true
  m_window : mg "_law_window" = some (.ref a_window)
  a_days : Addr
  fd_days : FuncData
  cda_days : Addr
  tb_days : Addr
  F_days : FunL K "_law_days" "_law_days" s_days a_days fd_days cda_days
  b_days : Binds K fd_days P_days []
  k_days : PySem.W.keepIn K (.ref a_days) = true
  m_days : mg "_law_days" = some (.ref a_days)
  a_pair : Addr
  fd_pair : FuncData
  F_pair : Fun K "_law_pair" "_law_pair" s_pair a_pair fd_pair
  b_pair : Binds K fd_pair P_pair []
  k_pair : PySem.W.keepIn K (.ref a_pair) = true
  m_pair : mg "_law_pair" = some (.ref a_pair)
  a_pair_due : Addr
  fd_pair_due : FuncData
  F_pair_due : Fun K "_law_pair_due" "_law_pair_due" s_pair_due a_pair_due fd_pair_due
  b_pair_due : Binds K fd_pair_due P_pair_due []
  k_pair_due : PySem.W.keepIn K (.ref a_pair_due) = true
  m_pair_due : mg "_law_pair_due" = some (.ref a_pair_due)
  a_class_so : Addr
  fd_class_so : FuncData
  F_class_so : Fun K "_law_class_so" "_law_class_so" s_class_so a_class_so fd_class_so
  b_class_so : Binds K fd_class_so P_class_so []
  k_class_so : PySem.W.keepIn K (.ref a_class_so) = true
  m_class_so : mg "_law_class_so" = some (.ref a_class_so)
  a_under : Addr
  fd_under : FuncData
  cda_under : Addr
  tb_under : Addr
  F_under : FunL K "_law_under" "_law_under" s_under a_under fd_under cda_under
  b_under : Binds K fd_under P_under []
  k_under : PySem.W.keepIn K (.ref a_under) = true
  m_under : mg "_law_under" = some (.ref a_under)
  a_told_so : Addr
  fd_told_so : FuncData
  F_told_so : Fun K "_law_told_so" "_law_told_so" s_told_so a_told_so fd_told_so
  b_told_so : Binds K fd_told_so P_told_so []
  k_told_so : PySem.W.keepIn K (.ref a_told_so) = true
  m_told_so : mg "_law_told_so" = some (.ref a_told_so)
  a_equal_so : Addr
  fd_equal_so : FuncData
  F_equal_so : Fun K "_law_equal_so" "_law_equal_so" s_equal_so a_equal_so fd_equal_so
  b_equal_so : Binds K fd_equal_so P_equal_so []
  k_equal_so : PySem.W.keepIn K (.ref a_equal_so) = true
  m_equal_so : mg "_law_equal_so" = some (.ref a_equal_so)
  a_law : Addr
  fd_law : FuncData
  F_law : Fun K "law" "law" s_law a_law fd_law
  b_law : Binds K fd_law P_law []
  k_law : PySem.W.keepIn K (.ref a_law) = true
  m_law : mg "law" = some (.ref a_law)
  tne_window_days : tb_window ≠ tb_days
  tne_window_under : tb_window ≠ tb_under
  tne_days_under : tb_days ≠ tb_under
  n_all : mg "all" = none
  n_bool : mg "bool" = none
  n_dict : mg "dict" = none
  n_enumerate : mg "enumerate" = none
  n_int : mg "int" = none
  n_isinstance : mg "isinstance" = none
  n_len : mg "len" = none
  n_list : mg "list" = none
  n_max : mg "max" = none
  n_range : mg "range" = none
  n_repr : mg "repr" = none
  n_str : mg "str" = none
  n_super : mg "super" = none
  n_tuple : mg "tuple" = none
  n_zip : mg "zip" = none
  t_BORDERS : Tok
  m_BORDERS : mg "BORDERS" = some (.int 12 t_BORDERS)
  r_BORDERS : RelV (.int 12) (.int 12 t_BORDERS)
  t_FORMS : Tok
  m_FORMS : mg "FORMS" = some (.int 6 t_FORMS)
  r_FORMS : RelV (.int 6) (.int 6 t_FORMS)
  t_PERIOD : Tok
  m_PERIOD : mg "PERIOD" = some (.int 2000 t_PERIOD)
  r_PERIOD : RelV (.int 2000) (.int 2000 t_PERIOD)
  m_lcm : mg "lcm" = some (.builtin "math.lcm")
  kb_Days_init_every_borders : KBinds K fd_Days_init P_Days_init ["every", "borders"] (fun (us ws : List Value) => match us, ws with | [u0], [w0, w1] => [u0, w1, w0] | _, _ => []) (fun (us ws : List V) => match us, ws with | [u0], [w0, w1] => [u0, w1, w0] | _, _ => [])
  kb_Later_init_second_first : KBinds K fd_Later_init P_Later_init ["second", "first"] (fun (us ws : List Value) => match us, ws with | [u0], [w0, w1] => [u0, w1, w0] | _, _ => []) (fun (us ws : List V) => match us, ws with | [u0], [w0, w1] => [u0, w1, w0] | _, _ => [])
  kb_Next_init_second_first : KBinds K fd_Next_init P_Next_init ["second", "first"] (fun (us ws : List Value) => match us, ws with | [u0], [w0, w1] => [u0, w1, w0] | _, _ => []) (fun (us ws : List V) => match us, ws with | [u0], [w0, w1] => [u0, w1, w0] | _, _ => [])
  kb_Sooner_init_second_first : KBinds K fd_Sooner_init P_Sooner_init ["second", "first"] (fun (us ws : List Value) => match us, ws with | [u0], [w0, w1] => [u0, w1, w0] | _, _ => []) (fun (us ws : List V) => match us, ws with | [u0], [w0, w1] => [u0, w1, w0] | _, _ => [])
  kb_Window_init_width : KBinds K fd_Window_init P_Window_init ["width"] (fun (us ws : List Value) => match us, ws with | [u0], [w0] => [u0, w0] | _, _ => []) (fun (us ws : List V) => match us, ws with | [u0], [w0] => [u0, w0] | _, _ => [])
  oex_InvalidNumber : OexC K C_InvalidNumber
  se_InvalidNumber : SupAtE K C_InvalidNumber C_InvalidNumber
  xf_InvalidNumber : XfC K C_InvalidNumber
  ii_InvalidNumber : PySem.W.findIn K (.ref C_InvalidNumber) "__init__" = some (some (.ref a_InvalidNumber_init))
  ti_InvalidNumber : PySem.W.typeIn K (.ref a_InvalidNumber_init) = some (.type "function")
  exm_InvalidNumber_InvalidNumber : PySem.W.exmOne K (.ref C_InvalidNumber) (.ref C_InvalidNumber) = some true
  no_InvalidNumber_value : NoAttr K C_InvalidNumber "value"
  no_InvalidNumber_code : NoAttr K C_InvalidNumber "code"
  oex_InvalidBorders : OexC K C_InvalidBorders
  se_InvalidBorders : SupAtE K C_InvalidBorders C_InvalidBorders
  xf_InvalidBorders : XfC K C_InvalidBorders
  ii_InvalidBorders : PySem.W.findIn K (.ref C_InvalidBorders) "__init__" = some (some (.ref a_InvalidBorders_init))
  ti_InvalidBorders : PySem.W.typeIn K (.ref a_InvalidBorders_init) = some (.type "function")
  exm_InvalidBorders_InvalidNumber : PySem.W.exmOne K (.ref C_InvalidBorders) (.ref C_InvalidNumber) = some false
  exm_InvalidBorders_InvalidBorders : PySem.W.exmOne K (.ref C_InvalidBorders) (.ref C_InvalidBorders) = some true
  no_InvalidBorders_at : NoAttr K C_InvalidBorders "at"
  no_InvalidBorders_code : NoAttr K C_InvalidBorders "code"
  oex_InvalidRest : OexC K C_InvalidRest
  se_InvalidRest : SupAtE K C_InvalidRest C_InvalidRest
  xf_InvalidRest : XfC K C_InvalidRest
  ii_InvalidRest : PySem.W.findIn K (.ref C_InvalidRest) "__init__" = some (some (.ref a_InvalidRest_init))
  ti_InvalidRest : PySem.W.typeIn K (.ref a_InvalidRest_init) = some (.type "function")
  exm_InvalidRest_InvalidNumber : PySem.W.exmOne K (.ref C_InvalidRest) (.ref C_InvalidNumber) = some false
  exm_InvalidRest_InvalidBorders : PySem.W.exmOne K (.ref C_InvalidRest) (.ref C_InvalidBorders) = some false
  exm_InvalidRest_InvalidRest : PySem.W.exmOne K (.ref C_InvalidRest) (.ref C_InvalidRest) = some true
  no_InvalidRest_value : NoAttr K C_InvalidRest "value"
  no_InvalidRest_code : NoAttr K C_InvalidRest "code"
  oex_TooMany : OexC K C_TooMany
  se_TooMany : SupAtE K C_TooMany C_TooMany
  xf_TooMany : XfC K C_TooMany
  ii_TooMany : PySem.W.findIn K (.ref C_TooMany) "__init__" = some (some (.ref a_TooMany_init))
  ti_TooMany : PySem.W.typeIn K (.ref a_TooMany_init) = some (.type "function")
  exm_TooMany_InvalidNumber : PySem.W.exmOne K (.ref C_TooMany) (.ref C_InvalidNumber) = some false
  exm_TooMany_InvalidBorders : PySem.W.exmOne K (.ref C_TooMany) (.ref C_InvalidBorders) = some false
  exm_TooMany_InvalidRest : PySem.W.exmOne K (.ref C_TooMany) (.ref C_InvalidRest) = some false
  exm_TooMany_TooMany : PySem.W.exmOne K (.ref C_TooMany) (.ref C_TooMany) = some true
  no_TooMany_what : NoAttr K C_TooMany "what"
  no_TooMany_count : NoAttr K C_TooMany "count"
  no_TooMany_code : NoAttr K C_TooMany "code"
  kb_int_Rest : PySem.W.kitOne K (.type "int") (.ref C_Rest) = some false
  kb_bool_Rest : PySem.W.kitOne K (.type "bool") (.ref C_Rest) = some false
  kb_str_Rest : PySem.W.kitOne K (.type "str") (.ref C_Rest) = some false
  kb_NoneType_Rest : PySem.W.kitOne K (.type "NoneType") (.ref C_Rest) = some false
  kb_list_Rest : PySem.W.kitOne K (.type "list") (.ref C_Rest) = some false
  kb_tuple_Rest : PySem.W.kitOne K (.type "tuple") (.ref C_Rest) = some false
  kb_dict_Rest : PySem.W.kitOne K (.type "dict") (.ref C_Rest) = some false
  cl_Window : Cls K C_Window
  mk_Window : Mk K C_Window a_Window_init
  ty_Window : ClsTy K C_Window
  kt_Window_Rest : PySem.W.kitOne K (.ref C_Window) (.ref C_Rest) = some true
  kt_Window_Window : PySem.W.kitOne K (.ref C_Window) (.ref C_Window) = some true
  kt_Window_Days : PySem.W.kitOne K (.ref C_Window) (.ref C_Days) = some false
  kt_Window_Later : PySem.W.kitOne K (.ref C_Window) (.ref C_Later) = some false
  kt_Window_Sooner : PySem.W.kitOne K (.ref C_Window) (.ref C_Sooner) = some false
  kt_Window_Next : PySem.W.kitOne K (.ref C_Window) (.ref C_Next) = some false
  su_Window : SupAt K C_Window C_Window a_Rest_init "__init__"
  no_Window_text : NoAttr K C_Window "_text"
  no_Window_forms : NoAttr K C_Window "_forms"
  no_Window_period : NoAttr K C_Window "_period"
  no_Window_bend : NoAttr K C_Window "_bend"
  no_Window_width : NoAttr K C_Window "width"
  me_Window_forms : Meth K C_Window "forms" a_Rest_forms
  me_Window_period : Meth K C_Window "period" a_Rest_period
  me_Window_bend : Meth K C_Window "bend" a_Rest_bend
  me_Window_written : Meth K C_Window "written" a_Rest_written
  strf_Window : PySem.W.findIn K (.ref C_Window) "__str__" = some (some (.ref a_Rest_str))
  stri_Window : PySem.W.isFn K (.ref a_Rest_str) = true
  reprf_Window : PySem.W.findIn K (.ref C_Window) "__repr__" = some (some (.ref a_Rest_repr))
  repri_Window : PySem.W.isFn K (.ref a_Rest_repr) = true
  eqf_Window : PySem.W.findIn K (.ref C_Window) "__eq__" = some (some (.ref a_Rest_eq))
  eqi_Window : PySem.W.isFn K (.ref a_Rest_eq) = true
  nf_Window_str : PySem.W.notFirst K C_Window (.type "str") = true
  nf_Window_int : PySem.W.notFirst K C_Window (.type "int") = true
  nf_Window : PySem.W.notFirst K C_Window (.ref C_Window) = true
  nf_Window_NoneType : PySem.W.notFirst K C_Window (.type "NoneType") = true
  nf_Window_bool : PySem.W.notFirst K C_Window (.type "bool") = true
  nf_Window_list : PySem.W.notFirst K C_Window (.type "list") = true
  nf_Window_tuple : PySem.W.notFirst K C_Window (.type "tuple") = true
  nef_Window : PySem.W.findIn K (.ref C_Window) "__ne__" = some (some (.builtin "object.__ne__"))
  nem_Window : PySem.W.mroIn K C_Window (.type "object") = some true
  nf_Window_Days : PySem.W.notFirst K C_Window (.ref C_Days) = true
  nf_Window_Later : PySem.W.notFirst K C_Window (.ref C_Later) = true
  nf_Window_Sooner : PySem.W.notFirst K C_Window (.ref C_Sooner) = true
  nf_Window_Next : PySem.W.notFirst K C_Window (.ref C_Next) = true
  kb_int_Window : PySem.W.kitOne K (.type "int") (.ref C_Window) = some false
  kb_bool_Window : PySem.W.kitOne K (.type "bool") (.ref C_Window) = some false
  kb_str_Window : PySem.W.kitOne K (.type "str") (.ref C_Window) = some false
  kb_NoneType_Window : PySem.W.kitOne K (.type "NoneType") (.ref C_Window) = some false
  kb_list_Window : PySem.W.kitOne K (.type "list") (.ref C_Window) = some false
  kb_tuple_Window : PySem.W.kitOne K (.type "tuple") (.ref C_Window) = some false
  kb_dict_Window : PySem.W.kitOne K (.type "dict") (.ref C_Window) = some false
  cl_Days : Cls K C_Days
  mk_Days : Mk K C_Days a_Days_init
  ty_Days : ClsTy K C_Days
  kt_Days_Rest : PySem.W.kitOne K (.ref C_Days) (.ref C_Rest) = some true
  kt_Days_Window : PySem.W.kitOne K (.ref C_Days) (.ref C_Window) = some false
  kt_Days_Days : PySem.W.kitOne K (.ref C_Days) (.ref C_Days) = some true
  kt_Days_Later : PySem.W.kitOne K (.ref C_Days) (.ref C_Later) = some false
  kt_Days_Sooner : PySem.W.kitOne K (.ref C_Days) (.ref C_Sooner) = some false
  kt_Days_Next : PySem.W.kitOne K (.ref C_Days) (.ref C_Next) = some false
  su_Days : SupAt K C_Days C_Days a_Rest_init "__init__"
  no_Days_text : NoAttr K C_Days "_text"
  no_Days_forms : NoAttr K C_Days "_forms"
  no_Days_period : NoAttr K C_Days "_period"
  no_Days_bend : NoAttr K C_Days "_bend"
  no_Days_every : NoAttr K C_Days "every"
  no_Days_borders : NoAttr K C_Days "_borders"
  me_Days_forms : Meth K C_Days "forms" a_Rest_forms
  me_Days_period : Meth K C_Days "period" a_Rest_period
  me_Days_bend : Meth K C_Days "bend" a_Rest_bend
  me_Days_written : Meth K C_Days "written" a_Rest_written
  me_Days_borders : Meth K C_Days "borders" a_Days_borders
  strf_Days : PySem.W.findIn K (.ref C_Days) "__str__" = some (some (.ref a_Rest_str))
  stri_Days : PySem.W.isFn K (.ref a_Rest_str) = true
  reprf_Days : PySem.W.findIn K (.ref C_Days) "__repr__" = some (some (.ref a_Rest_repr))
  repri_Days : PySem.W.isFn K (.ref a_Rest_repr) = true
  eqf_Days : PySem.W.findIn K (.ref C_Days) "__eq__" = some (some (.ref a_Rest_eq))
  eqi_Days : PySem.W.isFn K (.ref a_Rest_eq) = true
  nf_Days_str : PySem.W.notFirst K C_Days (.type "str") = true
  nf_Days_int : PySem.W.notFirst K C_Days (.type "int") = true
  nf_Days : PySem.W.notFirst K C_Days (.ref C_Days) = true
  nf_Days_NoneType : PySem.W.notFirst K C_Days (.type "NoneType") = true
  nf_Days_bool : PySem.W.notFirst K C_Days (.type "bool") = true
  nf_Days_list : PySem.W.notFirst K C_Days (.type "list") = true
  nf_Days_tuple : PySem.W.notFirst K C_Days (.type "tuple") = true
  nef_Days : PySem.W.findIn K (.ref C_Days) "__ne__" = some (some (.builtin "object.__ne__"))
  nem_Days : PySem.W.mroIn K C_Days (.type "object") = some true
  nf_Days_Window : PySem.W.notFirst K C_Days (.ref C_Window) = true
  nf_Days_Later : PySem.W.notFirst K C_Days (.ref C_Later) = true
  nf_Days_Sooner : PySem.W.notFirst K C_Days (.ref C_Sooner) = true
  nf_Days_Next : PySem.W.notFirst K C_Days (.ref C_Next) = true
  kb_int_Days : PySem.W.kitOne K (.type "int") (.ref C_Days) = some false
  kb_bool_Days : PySem.W.kitOne K (.type "bool") (.ref C_Days) = some false
  kb_str_Days : PySem.W.kitOne K (.type "str") (.ref C_Days) = some false
  kb_NoneType_Days : PySem.W.kitOne K (.type "NoneType") (.ref C_Days) = some false
  kb_list_Days : PySem.W.kitOne K (.type "list") (.ref C_Days) = some false
  kb_tuple_Days : PySem.W.kitOne K (.type "tuple") (.ref C_Days) = some false
  kb_dict_Days : PySem.W.kitOne K (.type "dict") (.ref C_Days) = some false
  cl_Later : Cls K C_Later
  mk_Later : Mk K C_Later a_Later_init
  ty_Later : ClsTy K C_Later
  kt_Later_Rest : PySem.W.kitOne K (.ref C_Later) (.ref C_Rest) = some true
  kt_Later_Window : PySem.W.kitOne K (.ref C_Later) (.ref C_Window) = some false
  kt_Later_Days : PySem.W.kitOne K (.ref C_Later) (.ref C_Days) = some false
  kt_Later_Later : PySem.W.kitOne K (.ref C_Later) (.ref C_Later) = some true
  kt_Later_Sooner : PySem.W.kitOne K (.ref C_Later) (.ref C_Sooner) = some false
  kt_Later_Next : PySem.W.kitOne K (.ref C_Later) (.ref C_Next) = some false
  su_Later : SupAt K C_Later C_Later a_Rest_init "__init__"
  no_Later_text : NoAttr K C_Later "_text"
  no_Later_forms : NoAttr K C_Later "_forms"
  no_Later_period : NoAttr K C_Later "_period"
  no_Later_bend : NoAttr K C_Later "_bend"
  no_Later_first : NoAttr K C_Later "first"
  no_Later_second : NoAttr K C_Later "second"
  me_Later_forms : Meth K C_Later "forms" a_Rest_forms
  me_Later_period : Meth K C_Later "period" a_Rest_period
  me_Later_bend : Meth K C_Later "bend" a_Rest_bend
  me_Later_written : Meth K C_Later "written" a_Rest_written
  strf_Later : PySem.W.findIn K (.ref C_Later) "__str__" = some (some (.ref a_Rest_str))
  stri_Later : PySem.W.isFn K (.ref a_Rest_str) = true
  reprf_Later : PySem.W.findIn K (.ref C_Later) "__repr__" = some (some (.ref a_Rest_repr))
  repri_Later : PySem.W.isFn K (.ref a_Rest_repr) = true
  eqf_Later : PySem.W.findIn K (.ref C_Later) "__eq__" = some (some (.ref a_Rest_eq))
  eqi_Later : PySem.W.isFn K (.ref a_Rest_eq) = true
  nf_Later_str : PySem.W.notFirst K C_Later (.type "str") = true
  nf_Later_int : PySem.W.notFirst K C_Later (.type "int") = true
  nf_Later : PySem.W.notFirst K C_Later (.ref C_Later) = true
  nf_Later_NoneType : PySem.W.notFirst K C_Later (.type "NoneType") = true
  nf_Later_bool : PySem.W.notFirst K C_Later (.type "bool") = true
  nf_Later_list : PySem.W.notFirst K C_Later (.type "list") = true
  nf_Later_tuple : PySem.W.notFirst K C_Later (.type "tuple") = true
  nef_Later : PySem.W.findIn K (.ref C_Later) "__ne__" = some (some (.builtin "object.__ne__"))
  nem_Later : PySem.W.mroIn K C_Later (.type "object") = some true
  nf_Later_Window : PySem.W.notFirst K C_Later (.ref C_Window) = true
  nf_Later_Days : PySem.W.notFirst K C_Later (.ref C_Days) = true
  nf_Later_Sooner : PySem.W.notFirst K C_Later (.ref C_Sooner) = true
  nf_Later_Next : PySem.W.notFirst K C_Later (.ref C_Next) = true
  kb_int_Later : PySem.W.kitOne K (.type "int") (.ref C_Later) = some false
  kb_bool_Later : PySem.W.kitOne K (.type "bool") (.ref C_Later) = some false
  kb_str_Later : PySem.W.kitOne K (.type "str") (.ref C_Later) = some false
  kb_NoneType_Later : PySem.W.kitOne K (.type "NoneType") (.ref C_Later) = some false
  kb_list_Later : PySem.W.kitOne K (.type "list") (.ref C_Later) = some false
  kb_tuple_Later : PySem.W.kitOne K (.type "tuple") (.ref C_Later) = some false
  kb_dict_Later : PySem.W.kitOne K (.type "dict") (.ref C_Later) = some false
  cl_Sooner : Cls K C_Sooner
  mk_Sooner : Mk K C_Sooner a_Sooner_init
  ty_Sooner : ClsTy K C_Sooner
  kt_Sooner_Rest : PySem.W.kitOne K (.ref C_Sooner) (.ref C_Rest) = some true
  kt_Sooner_Window : PySem.W.kitOne K (.ref C_Sooner) (.ref C_Window) = some false
  kt_Sooner_Days : PySem.W.kitOne K (.ref C_Sooner) (.ref C_Days) = some false
  kt_Sooner_Later : PySem.W.kitOne K (.ref C_Sooner) (.ref C_Later) = some false
  kt_Sooner_Sooner : PySem.W.kitOne K (.ref C_Sooner) (.ref C_Sooner) = some true
  kt_Sooner_Next : PySem.W.kitOne K (.ref C_Sooner) (.ref C_Next) = some false
  su_Sooner : SupAt K C_Sooner C_Sooner a_Rest_init "__init__"
  no_Sooner_text : NoAttr K C_Sooner "_text"
  no_Sooner_forms : NoAttr K C_Sooner "_forms"
  no_Sooner_period : NoAttr K C_Sooner "_period"
  no_Sooner_bend : NoAttr K C_Sooner "_bend"
  no_Sooner_first : NoAttr K C_Sooner "first"
  no_Sooner_second : NoAttr K C_Sooner "second"
  me_Sooner_forms : Meth K C_Sooner "forms" a_Rest_forms
  me_Sooner_period : Meth K C_Sooner "period" a_Rest_period
  me_Sooner_bend : Meth K C_Sooner "bend" a_Rest_bend
  me_Sooner_written : Meth K C_Sooner "written" a_Rest_written
  strf_Sooner : PySem.W.findIn K (.ref C_Sooner) "__str__" = some (some (.ref a_Rest_str))
  stri_Sooner : PySem.W.isFn K (.ref a_Rest_str) = true
  reprf_Sooner : PySem.W.findIn K (.ref C_Sooner) "__repr__" = some (some (.ref a_Rest_repr))
  repri_Sooner : PySem.W.isFn K (.ref a_Rest_repr) = true
  eqf_Sooner : PySem.W.findIn K (.ref C_Sooner) "__eq__" = some (some (.ref a_Rest_eq))
  eqi_Sooner : PySem.W.isFn K (.ref a_Rest_eq) = true
  nf_Sooner_str : PySem.W.notFirst K C_Sooner (.type "str") = true
  nf_Sooner_int : PySem.W.notFirst K C_Sooner (.type "int") = true
  nf_Sooner : PySem.W.notFirst K C_Sooner (.ref C_Sooner) = true
  nf_Sooner_NoneType : PySem.W.notFirst K C_Sooner (.type "NoneType") = true
  nf_Sooner_bool : PySem.W.notFirst K C_Sooner (.type "bool") = true
  nf_Sooner_list : PySem.W.notFirst K C_Sooner (.type "list") = true
  nf_Sooner_tuple : PySem.W.notFirst K C_Sooner (.type "tuple") = true
  nef_Sooner : PySem.W.findIn K (.ref C_Sooner) "__ne__" = some (some (.builtin "object.__ne__"))
  nem_Sooner : PySem.W.mroIn K C_Sooner (.type "object") = some true
  nf_Sooner_Window : PySem.W.notFirst K C_Sooner (.ref C_Window) = true
  nf_Sooner_Days : PySem.W.notFirst K C_Sooner (.ref C_Days) = true
  nf_Sooner_Later : PySem.W.notFirst K C_Sooner (.ref C_Later) = true
  nf_Sooner_Next : PySem.W.notFirst K C_Sooner (.ref C_Next) = true
  kb_int_Sooner : PySem.W.kitOne K (.type "int") (.ref C_Sooner) = some false
  kb_bool_Sooner : PySem.W.kitOne K (.type "bool") (.ref C_Sooner) = some false
  kb_str_Sooner : PySem.W.kitOne K (.type "str") (.ref C_Sooner) = some false
  kb_NoneType_Sooner : PySem.W.kitOne K (.type "NoneType") (.ref C_Sooner) = some false
  kb_list_Sooner : PySem.W.kitOne K (.type "list") (.ref C_Sooner) = some false
  kb_tuple_Sooner : PySem.W.kitOne K (.type "tuple") (.ref C_Sooner) = some false
  kb_dict_Sooner : PySem.W.kitOne K (.type "dict") (.ref C_Sooner) = some false
  cl_Next : Cls K C_Next
  mk_Next : Mk K C_Next a_Next_init
  ty_Next : ClsTy K C_Next
  kt_Next_Rest : PySem.W.kitOne K (.ref C_Next) (.ref C_Rest) = some true
  kt_Next_Window : PySem.W.kitOne K (.ref C_Next) (.ref C_Window) = some false
  kt_Next_Days : PySem.W.kitOne K (.ref C_Next) (.ref C_Days) = some false
  kt_Next_Later : PySem.W.kitOne K (.ref C_Next) (.ref C_Later) = some false
  kt_Next_Sooner : PySem.W.kitOne K (.ref C_Next) (.ref C_Sooner) = some false
  kt_Next_Next : PySem.W.kitOne K (.ref C_Next) (.ref C_Next) = some true
  su_Next : SupAt K C_Next C_Next a_Rest_init "__init__"
  no_Next_text : NoAttr K C_Next "_text"
  no_Next_forms : NoAttr K C_Next "_forms"
  no_Next_period : NoAttr K C_Next "_period"
  no_Next_bend : NoAttr K C_Next "_bend"
  no_Next_first : NoAttr K C_Next "first"
  no_Next_second : NoAttr K C_Next "second"
  me_Next_forms : Meth K C_Next "forms" a_Rest_forms
  me_Next_period : Meth K C_Next "period" a_Rest_period
  me_Next_bend : Meth K C_Next "bend" a_Rest_bend
  me_Next_written : Meth K C_Next "written" a_Rest_written
  strf_Next : PySem.W.findIn K (.ref C_Next) "__str__" = some (some (.ref a_Rest_str))
  stri_Next : PySem.W.isFn K (.ref a_Rest_str) = true
  reprf_Next : PySem.W.findIn K (.ref C_Next) "__repr__" = some (some (.ref a_Rest_repr))
  repri_Next : PySem.W.isFn K (.ref a_Rest_repr) = true
  eqf_Next : PySem.W.findIn K (.ref C_Next) "__eq__" = some (some (.ref a_Rest_eq))
  eqi_Next : PySem.W.isFn K (.ref a_Rest_eq) = true
  nf_Next_str : PySem.W.notFirst K C_Next (.type "str") = true
  nf_Next_int : PySem.W.notFirst K C_Next (.type "int") = true
  nf_Next : PySem.W.notFirst K C_Next (.ref C_Next) = true
  nf_Next_NoneType : PySem.W.notFirst K C_Next (.type "NoneType") = true
  nf_Next_bool : PySem.W.notFirst K C_Next (.type "bool") = true
  nf_Next_list : PySem.W.notFirst K C_Next (.type "list") = true
  nf_Next_tuple : PySem.W.notFirst K C_Next (.type "tuple") = true
  nef_Next : PySem.W.findIn K (.ref C_Next) "__ne__" = some (some (.builtin "object.__ne__"))
  nem_Next : PySem.W.mroIn K C_Next (.type "object") = some true
  nf_Next_Window : PySem.W.notFirst K C_Next (.ref C_Window) = true
  nf_Next_Days : PySem.W.notFirst K C_Next (.ref C_Days) = true
  nf_Next_Later : PySem.W.notFirst K C_Next (.ref C_Later) = true
  nf_Next_Sooner : PySem.W.notFirst K C_Next (.ref C_Sooner) = true
  kb_int_Next : PySem.W.kitOne K (.type "int") (.ref C_Next) = some false
  kb_bool_Next : PySem.W.kitOne K (.type "bool") (.ref C_Next) = some false
  kb_str_Next : PySem.W.kitOne K (.type "str") (.ref C_Next) = some false
  kb_NoneType_Next : PySem.W.kitOne K (.type "NoneType") (.ref C_Next) = some false
  kb_list_Next : PySem.W.kitOne K (.type "list") (.ref C_Next) = some false
  kb_tuple_Next : PySem.W.kitOne K (.type "tuple") (.ref C_Next) = some false
  kb_dict_Next : PySem.W.kitOne K (.type "dict") (.ref C_Next) = some false

/-! ### the bag -/
/-- what stands in a law's bag, the list l behind it -/
abbrev bagL (l : Addr) (i r s c : Int) : HO := .lst [.ref l, .int i, .int r, .int s, .int c]
structure Bag (K : PySem.W.Frag) (G0 G : Hp) (b : Addr) (β : HO) : Prop where
  nb : G b = none
  sm : Same G0 G
  ex : ∃ (l : Addr) (ns : List Int) (i r s c : Int), β = bagL l i r s c ∧ SqL K G0 l (ns.map V.int) ∧ 0 ≤ i ∧ 0 ≤ r ∧ 0 ≤ s ∧ s < 2147483647
theorem Bag.up0 {K : PySem.W.Frag} {G0 G G' : Hp} {b : Addr} {β : HO} (h : Bag K G0 G b β) (e : Same G0 G') (n : G' b = none) : Bag K G0 G' b β := ⟨n, e, h.ex⟩
theorem Bag.up {K : PySem.W.Frag} {G0 G G' : Hp} {b : Addr} {β : HO} (h : Bag K G0 G b β) (e : Same G G') (n : G' b = none) : Bag K G0 G' b β := h.up0 (h.sm.trans e) n
def spDraw (K : PySem.W.Frag) : Sp := fun vs H Q _ => ∃ (G0 G : Hp) (b : Addr) (β : HO) (n : Int), vs = [.ref b, .int n] ∧ H = upd G b β ∧ Bag K G0 G b β ∧ 0 < n ∧ n < 2 ^ 30 ∧
  ∀ d β', 0 ≤ d → d < n → Bag K G0 G b β' → Q (.int d) (upd G b β')
theorem mod_bd {x m : Int} (h : 0 < m) : 0 ≤ x % m ∧ x % m < m := ⟨Int.emod_nonneg _ (by omega), Int.emod_lt_of_pos _ h⟩
theorem ix_ints {ns : List Int} {i : Int} (h0 : 0 ≤ i) (h1 : i < ((ns.map V.int).length : Nat)) : ∃ z, atI (ns.map V.int) i = some (.int z) := by
  rw [List.length_map] at h1
  obtain ⟨j, rfl⟩ := Int.eq_ofNat_of_zero_le h0
  have hj : j < ns.length := by omega
  exact ⟨ns[j], atI_nat (by rw [List.getElem?_map, List.getElem?_eq_getElem hj]; rfl)⟩
theorem at_mem {α : Type} {xs : List α} {d : Int} (h0 : 0 ≤ d) (h1 : d < (xs.length : Nat)) : ∃ v, atI xs d = some v ∧ v ∈ xs := by
  obtain ⟨j, rfl⟩ := Int.eq_ofNat_of_zero_le h0
  have hj : j < xs.length := by omega
  exact ⟨xs[j], atI_nat (List.getElem?_eq_getElem hj), List.getElem_mem hj⟩
/-- one of some things by a draw -/
def spOf (K : PySem.W.Frag) : Sp := fun vs H Q _ => ∃ (G0 G : Hp) (b : Addr) (β : HO) (x : V), vs = [.ref b, x] ∧ H = upd G b β ∧ Bag K G0 G b β ∧
  match x with
  | .ref p => ∃ xs, SqL K G p xs ∧ 0 < xs.length ∧ xs.length < 2 ^ 30 ∧ ∀ v β', v ∈ xs → Bag K G0 G b β' → Q v (upd G b β')
  | .str z => 0 < z.length ∧ z.length ≤ 1000000 ∧ ∀ c β', c ∈ z.cps.toList → Bag K G0 G b β' → Q (.str ⟨#[c]⟩) (upd G b β')
  | _ => False
theorem k_draw {K : PySem.W.Frag} {G0 G : Hp} {b : Addr} {β : HO} {n : Int} {Q : VK} {E : XK} (hb : Bag K G0 G b β) (h0 : 0 < n) (h1 : n < 2 ^ 30) (k : ∀ d β', 0 ≤ d → d < n → Bag K G0 G b β' → Q (.int d) (upd G b β')) : spDraw K [.ref b, .int n] (upd G b β) Q E :=
  ⟨G0, G, b, β, n, rfl, rfl, hb, h0, h1, k⟩
theorem k_of {K : PySem.W.Frag} {G0 G : Hp} {b p : Addr} {β : HO} {xs : List V} {Q : VK} {E : XK} (hb : Bag K G0 G b β) (hx : SqL K G p xs) (h0 : 0 < xs.length) (h1 : xs.length < 2 ^ 30) (k : ∀ v β', v ∈ xs → Bag K G0 G b β' → Q v (upd G b β')) : spOf K [.ref b, .ref p] (upd G b β) Q E :=
  ⟨G0, G, b, β, .ref p, rfl, rfl, hb, xs, hx, h0, h1, k⟩
section
variable {w : World} {K : PySem.W.Frag} {mg : Str → Option Value} {base : Heap}
theorem ok_draw (T : Tx K mg) : FnOk P w K mg base CX0 1 T.a_draw T.fd_draw P_draw (spDraw K) := by
  refine T.F_draw.ok sc_draw (fun vs H Q E h => ?_) (fun cdv A outer s H vs Q E hr h => ?_)
  · obtain ⟨G0, G, b, β, n, rfl, _⟩ := h
    rfl
  · obtain ⟨G0, G, b, β, n, rfl, rfl, ⟨nb, sm0, l, ns, i, r, sd, c, rfl, hl, hi, hr0, hs0, hs1⟩, hn0, hn1, k⟩ := h
    have nd := sc_draw.nd
    refine ⟨_, (pss_cons (ps_asg (pe_op kop_add (pe_ix (kix K) (kv (i := 0) v_draw_law_bag_here) pe_int (fun _ _ => rfl)) pe_int) (pg_sub (kv (i := 0) v_draw_law_bag_here) pe_int set_list))
      (kss_meet (ps_if (PW.pt (pw_and (pt_cmpR op_eq (pe_ix (kix K) (kv (i := 0) v_draw_law_bag_here) pe_int (fun _ _ => rfl)) pe_int (nomark _)) (pw_and1 (pt_cmpR op_lt (pe_ix (kix K) (kv (i := 0) v_draw_law_bag_here) pe_int (fun _ _ => rfl)) (kcB b_len (by decide) (by decide) (kc_len K) g_draw_len T.n_len (pa_cons (pe_ix (kix K) (kv (i := 0) v_draw_law_bag_here) pe_int (fun _ _ => rfl)) pa_nil)) (nomark _))))) (pss_cons (ks_setL (i := 2) nd l_draw_law_item (pe_ix (kix K) (pe_ix (kix K) (kv (i := 0) v_draw_law_bag_here) pe_int (fun _ _ => rfl)) (pe_ix (kix K) (kv (i := 0) v_draw_law_bag_here) pe_int (fun _ _ => rfl)) (fun _ _ => rfl)))
      (pss_cons (ps_asg (pe_op kop_add (pe_ix (kix K) (kv (i := 0) v_draw_law_bag_here) pe_int (fun _ _ => rfl)) pe_int) (pg_sub (kv (i := 0) v_draw_law_bag_here) pe_int set_list))
      (pss_one (ps_if (pt_cmpR op_ge (kv (i := 2) v_draw_law_item) (pe_op op_pow pe_int pe_int) (nomark _)) (pss_one (ps_asg (kv (i := 2) v_draw_law_item) (pg_sub (kv (i := 0) v_draw_law_bag_here) pe_int set_list))) (pss_one (ps_asg (pe_op op_mod (kcT b_int (by decide) (by decide) kc_int g_draw_int T.n_int (pa_cons (pe_op kop_add (pe_op kop_add (pe_op op_mul (pe_ix (kix K) (kv (i := 0) v_draw_law_bag_here) pe_int (fun _ _ => rfl)) pe_int) (pe_op op_mul (pe_op op_mod (kcT b_int (by decide) (by decide) kc_int g_draw_int T.n_int (pa_cons (kv (i := 2) v_draw_law_item) pa_nil)) pe_int) pe_int)) pe_int) pa_nil)) pe_int) (pg_sub (kv (i := 0) v_draw_law_bag_here) pe_int set_list))))))) pss_nil)
      (pss_cons (ps_if (pt_cmpR op_gt (pe_ix (kix K) (kv (i := 0) v_draw_law_bag_here) pe_int (fun _ _ => rfl)) pe_int (nomark _)) (pss_cons (ks_setL (i := 3) nd l_draw_law_digit (pe_op op_mod (kcT b_int (by decide) (by decide) kc_int g_draw_int T.n_int (pa_cons (pe_ix (kix K) (kv (i := 0) v_draw_law_bag_here) pe_int (fun _ _ => rfl)) pa_nil)) (kv (i := 1) v_draw_law_limit)))
      (pss_cons (ps_asg (pe_op op_fdiv (pe_ix (kix K) (kv (i := 0) v_draw_law_bag_here) pe_int (fun _ _ => rfl)) (kv (i := 1) v_draw_law_limit)) (pg_sub (kv (i := 0) v_draw_law_bag_here) pe_int set_list))
      (pss_one (ps_ret (kv (i := 3) v_draw_law_digit))))) pss_nil)
      (pss_cons (ps_asg (pe_op op_mod (kcT b_int (by decide) (by decide) kc_int g_draw_int T.n_int (pa_cons (pe_op kop_add (pe_op kop_add (pe_op op_pow (pe_ix (kix K) (kv (i := 0) v_draw_law_bag_here) pe_int (fun _ _ => rfl)) pe_int) (pe_op op_mul (pe_ix (kix K) (kv (i := 0) v_draw_law_bag_here) pe_int (fun _ _ => rfl)) pe_int)) pe_int) pa_nil)) pe_int) (pg_sub (kv (i := 0) v_draw_law_bag_here) pe_int set_list))
      (pss_one (ps_ret (pe_op op_mod (kcT b_int (by decide) (by decide) kc_int g_draw_int T.n_int (pa_cons (pe_op kop_add (pe_op op_fdiv (pe_ix (kix K) (kv (i := 0) v_draw_law_bag_here) pe_int (fun _ _ => rfl)) pe_int) (pe_op op_mul (pe_op op_mod (kcT b_int (by decide) (by decide) kc_int g_draw_int T.n_int (pa_cons (pe_ix (kix K) (kv (i := 0) v_draw_law_bag_here) pe_int (fun _ _ => rfl)) pa_nil)) pe_int) pe_int)) pa_nil)) (kv (i := 1) v_draw_law_limit)))))))), ?_⟩
    walk_at "ss"
    refine k_meet (fun σ H => ∃ i r s v, σ = [some (.ref b), some (.int n), v, none] ∧ H = upd G b (bagL l i r s (c + 1)) ∧ 0 ≤ i ∧ 0 ≤ r ∧ 0 ≤ s ∧ s < 2147483647) ?_ ?_
    · have hl' : SqL K (upd G b (bagL l i r sd (c + 1))) l (ns.map V.int) := (up_same nb).seq (sm0.seq hl)
      walk_at "ss"
      refine k_d (fun h0 => ?_) (fun h0 => ?_)
      · walk_at "ss"
        refine k_d (fun h1 => ?_) (fun h1 => ?_)
        · obtain ⟨z, hz⟩ := ix_ints hi h1
          walk_at "ss"
          refine k_ixL hl' hz ?_
          walk_at "ss"
          refine k_d (fun h2 => ?_) (fun h2 => ?_)
          · walk_at "ss"
            have e18 : (10 : Int) ^ Int.toNat 18 = 1000000000000000000 := by decide
            rw [e18] at h2
            exact ⟨i + 1, z, sd, _, rfl, rfl, by omega, by omega, hs0, hs1⟩
          · walk_at "ss"
            exact ⟨i + 1, r, _, _, rfl, rfl, by omega, by omega, (mod_bd (by decide)).1, Int.lt_trans (mod_bd (by decide)).2 (by decide)⟩
        · walk_at "ss"
          exact ⟨i, r, sd, _, rfl, rfl, hi, hr0, hs0, hs1⟩
      · walk_at "ss"
        exact ⟨i, r, sd, _, rfl, rfl, hi, hr0, hs0, hs1⟩
    · rintro σ H ⟨i, r, sd, v, rfl, rfl, hi, hr0, hs0, hs1⟩
      walk_at "ss"
      refine k_d (fun h0 => ?_) (fun h0 => ?_)
      · walk_at "ss"
        have q := mod_bd (x := r) hn0
        exact k _ _ q.1 q.2 ⟨nb, sm0, l, ns, _, _, _, _, rfl, hl, hi, Int.ediv_nonneg hr0 (by omega), hs0, hs1⟩
      · walk_at "ss"
        exact k _ _ (mod_bd hn0).1 (mod_bd hn0).2 ⟨nb, sm0, l, ns, _, _, _, _, rfl, hl, hi, hr0, (mod_bd (by decide)).1, Int.lt_trans (mod_bd (by decide)).2 (by decide)⟩
theorem ok_of (T : Tx K mg) : FnOk P w K mg base CX0 2 T.a_of T.fd_of P_of (spOf K) := by
  refine T.F_of.ok sc_of (fun vs H Q E h => ?_) (fun cdv A outer s H vs Q E hr h => ?_)
  · obtain ⟨G0, G, b, β, x, rfl, _⟩ := h
    rfl
  · obtain ⟨G0, G, b, β, x, rfl, rfl, hb, h⟩ := h
    have nd := sc_of.nd
    refine ⟨_, (pss_one (ps_ret (pe_ix (kix K) (kv (i := 1) v_of_law_things) (pe_call (ok_draw T) (hr.mono (by first | decide | omega)) g_of_law_draw T.m_draw T.k_draw T.b_draw .nil pass0 (pa_cons (kv (i := 0) v_of_law_bag_here) (pa_cons (kcB b_len (by decide) (by decide) (kc_len K) g_of_len T.n_len (pa_cons (kv (i := 1) v_of_law_things) pa_nil)) pa_nil))) (fun _ _ => rfl)))), ?_⟩
    cases x with
    | ref p =>
      obtain ⟨xs, hx, hl0, hl1, k⟩ := h
      have hx' : ∀ β', SqL K (upd G b β') p xs := fun β' => (up_same hb.nb).seq hx
      have hx1 := hx' β
      walk_at "ss"
      refine k_draw hb (by omega) (by omega) fun d β' h0 h1 hb' => ?_
      obtain ⟨v, hv, hm⟩ := at_mem h0 h1
      refine k_ixL (hx' _) hv ?_
      exact k v β' hm hb'
    | str z =>
      obtain ⟨hl0, hl1, k⟩ := h
      walk_at "ss"
      refine k_lenS (small_size hl1) ?_
      walk_at "ss"
      refine k_draw hb (by omega) (by omega) fun d β' h0 h1 hb' => ?_
      obtain ⟨c, hc, hm⟩ := at_mem (xs := z.cps.toList) h0 (by rw [Array.length_toList]; exact h1)
      refine k_ixS (small_size hl1) hc ?_
      exact k c β' hm hb'
    | _ => exact h.elim
/-- the bag of a script -/
def spBag (K : PySem.W.Frag) : Sp := fun vs H Q _ => ∃ (a : Addr) (ns : List Int), vs = [.ref a] ∧ SqL K H a (ns.map V.int) ∧ ∀ b G β, Same H G → Bag K G G b β → Q (.ref b) (upd G b β)
theorem ok_bag (T : Tx K mg) : FnOk P w K mg base CX0 1 T.a_bag T.fd_bag P_bag (spBag K) := by
  refine T.F_bag.ok sc_bag (fun vs H Q E h => ?_) (fun cdv A outer s H vs Q E hr h => ?_)
  · obtain ⟨a, ns, rfl, _⟩ := h
    rfl
  · obtain ⟨a, ns, rfl, hl, k⟩ := h
    have nd := sc_bag.nd
    refine ⟨_, (pss_cons (ks_setL (i := 1) nd l_bag_law_seed pe_int)
      (pss_cons (ps_for PassesOwn.never rfl (kpi_list K (pe_slice (ksl_list K) (kv (i := 0) v_bag_law_script) po_none (po_some pe_int))) (kgL (i := 2) nd l_bag_law_item) (pss_one (ks_setL (i := 1) nd l_bag_law_seed (pe_op op_mod (kcT b_int (by decide) (by decide) kc_int g_bag_int T.n_int (pa_cons (pe_op kop_add (pe_op kop_add (pe_op op_mul (kv (i := 1) v_bag_law_seed) pe_int) (pe_op op_mod (kcT b_int (by decide) (by decide) kc_int g_bag_int T.n_int (pa_cons (kv (i := 2) v_bag_law_item) pa_nil)) pe_int)) pe_int) pa_nil)) pe_int))))
      (pss_one (ps_ret (pe_lst (pa_cons (kcT b_list (by decide) (by decide) (kc_list K) g_bag_list T.n_list (pa_cons (pe_slice (ksl_list K) (kv (i := 0) v_bag_law_script) po_none (po_some pe_int)) pa_nil)) (pa_cons pe_int (pa_cons pe_int (pa_cons (kv (i := 1) v_bag_law_seed) (pa_cons pe_int pa_nil)))))))))), ?_⟩
    walk_at "ss"
    refine k_slL hl ?_
    intro p np
    obtain ⟨ms, hms⟩ := cut_ints (ns := ns) (lo := none) (hi := some 63)
    rw [hms]
    have e1 := same_new (o := .lst (ms.map V.int)) np
    refine k_iL (SqL.of upd_same) ?_
    refine k_forList (ms.map V.int) (fun i σ H' => ∃ sd v, σ = [some (.ref a), some (.int sd), v] ∧ H' = upd H p (.lst (ms.map V.int)) ∧ 0 ≤ sd ∧ sd < 2147483647) ⟨_, _, rfl, rfl, by decide, by decide⟩ ?_ ?_ ?_
    · rintro i σ H' _ ⟨sd, v, rfl, rfl, _⟩
      exact SqL.of upd_same
    · rintro i x σ H' hx ⟨sd, v, rfl, rfl, h0, h1⟩
      obtain ⟨z, rfl⟩ : ∃ z, x = V.int z := by
        rw [List.getElem?_map] at hx
        cases e : ms[i]? with
        | none => rw [e] at hx; cases hx
        | some u => rw [e] at hx; exact ⟨u, (Option.some.inj hx).symm⟩
      walk_at "ss"
      exact ⟨_, _, rfl, rfl, (mod_bd (by decide)).1, Int.lt_trans (mod_bd (by decide)).2 (by decide)⟩
    · rintro σ H' ⟨sd, v, rfl, rfl, h0, h1⟩
      walk_at "ss"
      refine k_slL (e1.seq hl) ?_
      rw [hms]
      intro q nq
      have e2 := same_new (o := .lst (ms.map V.int)) nq
      walk_at "ss"
      refine k_listL (SqL.of upd_same) ?_
      intro l nl
      have e3 := same_new (o := .lst (ms.map V.int)) nl
      walk_at "ss"
      intro b nb
      exact k b _ _ ((e1.trans e2).trans e3) ⟨nb, Same.refl _, l, ms, 0, 0, sd, 0, rfl, SqL.of upd_same, by decide, by decide, h0, h1⟩
end

section
variable {X : Cx}
theorem kc_sorted (K : PySem.W.Frag) (hK : X.K = K := by rfl) : CallR X (.builtin "sorted") (rSorted K) := by subst hK; exact cr_sorted
theorem kc_maxL (K : PySem.W.Frag) (hc : X.calm = true) (hK : X.K = K := by rfl) : CallR X (.builtin "max") (L2.rMax K) := by subst hK; exact cr_max hc
theorem kc_minL (K : PySem.W.Frag) (hc : X.calm = true) (hK : X.K = K := by rfl) : CallR X (.builtin "min") (L2.rMin K) := by subst hK; exact cr_min hc
def rSortDI : List V → Hp → VK → Prop := fun xs H Q => ∃ (a : Addr) (kvs : List (Key × V)) (ks : List Int), xs = [.ref a] ∧ Rd H a (.dK kvs) ∧ kvs.map (·.1) = ks.map Sum.inl ∧ ks.length < 64 ∧
    ∀ (ys : List Int) (p : Addr), ys.Perm ks → ys.Pairwise (· ≤ ·) → H p = none → Q (.ref p) (upd H p (.lst (ys.map V.int)))
theorem kc_sortedDI (hc : X.calm = true) : CallR X (.builtin "sorted") rSortDI := call_sortedDI hc
/-- a list or a tuple that is walked -/
def iSeq (K : PySem.W.Frag) (tl : TE) : TI := fun σ H R => iList K tl σ H R ∨ iTup K tl σ H R
theorem kpi_seq (K : PySem.W.Frag) {tg l : Expr} {tl : TE} (hl : PE X l tl) (hK : X.K = K := by rfl) : PI X tg l (iSeq K tl) :=
  ⟨fun pins s σ H R I h => h.elim (fun h => (kpi_list K hl hK).run pins s σ H R I h) (fun h => (kpi_tup K hl hK).run pins s σ H R I h)⟩
end
section
variable {K : PySem.W.Frag} {σ : L2.St} {H : Hp} {D : Ends} {Q : VK}
theorem walk_zipT {a b : Addr} {xs ys : List V} {n : Nat} (hn : n = min xs.length ys.length) : Walk (RZ.ItzT K a b) n (fun H => SqT K H a xs ∧ SqT K H b ys) (YPair (fun i => xs[i]?) (fun i => ys[i]?)) := by
  subst hn
  refine ⟨fun i _ hi q => ?_, fun _ q => ⟨xs, ys, q.1, q.2, by omega⟩, fun i H v H' _ q y => ?_⟩
  · have h1 : i < xs.length := by omega
    have h2 : i < ys.length := by omega
    exact ⟨xs, ys, xs[i], ys[i], q.1, q.2, by simp [h1], by simp [h2]⟩
  · obtain ⟨T, x, z, h1, h2, h3, h4, h5⟩ := y
    exact ⟨T, x, z, h1, h2, h3, h4 xs q.1, h5 ys q.2⟩
theorem walk_zipL {a b : Addr} {xs ys : List V} {n : Nat} (hn : n = min xs.length ys.length) : Walk (Itz K a b) n (fun H => SqL K H a xs ∧ SqL K H b ys) (YPair (fun i => xs[i]?) (fun i => ys[i]?)) := walk_zip hn
theorem k_iStr {te : TE} {R : It → Hp → Prop} (h : te σ H fun v H1 => ∃ x, v = .str x ∧ R (Its x) H1) : iStr te σ H R := h
theorem zL {A B : Prop} (h : A) : A ∨ B := .inl h
theorem zT {A B : Prop} (h : B) : A ∨ B := .inr h
theorem walk_L {a : Addr} {xs : List V} : Walk (Itl K a) xs.length (fun H => SqL K H a xs) (YAt xs) := walk_list
theorem walk_T {a : Addr} {xs : List V} : Walk (Itt K a) xs.length (fun H => SqT K H a xs) (YAt xs) := walk_tup
theorem k_iZipA {ta : TA} {R : It → Hp → Prop} (h : ta σ H fun vs H1 => ∃ a b xs ys, vs = [.ref a, .ref b] ∧ ((SqL K H1 a xs ∧ SqL K H1 b ys ∧ R (Itz K a b) H1) ∨ (SqT K H1 a xs ∧ SqT K H1 b ys ∧ R (RZ.ItzT K a b) H1))) : RZ.iZipA K ta σ H R := h
theorem k_seqL {tl : TE} {R : It → Hp → Prop} (h : iList K tl σ H R) : iSeq K tl σ H R := .inl h
theorem k_seqT {tl : TE} {R : It → Hp → Prop} (h : iTup K tl σ H R) : iSeq K tl σ H R := .inr h
theorem k_dnew (h : ∀ p, H p = none → Q (.ref p) (upd H p (.dK []))) : tDNewK σ H Q := h
theorem k_dget2 {td ty tx : TE} (h : td σ H fun x H1 => ∃ a, x = .ref a ∧ IsD H1 a ∧ ty σ H1 fun y H2 => tx σ H2 fun z H3 => ∃ o, DGet H3 a y o ∧ Q (o.getD z) H3) : tDGet2 td ty tx σ H Q := h
theorem k_dget {td ty : TE} (h : td σ H fun x H1 => ty σ H1 fun y H2 => ∃ a v, x = .ref a ∧ DGet H2 a y (some v) ∧ Q v H2) : tDGet td ty σ H Q := h
theorem k_aug {i : Nat} {x : V} {te : TE} {ti : TIp} (hx : σ[i]? = some (some x)) (h : te σ H fun y H1 => ti x y H1 fun z H2 => D.nx (σ.set i (some z)) H2) : tAug i te ti D σ H := ⟨x, hx, h⟩
theorem k_asg2 {te : TE} {g1 g2 : TG} (h : te σ H fun x H1 => g1 x σ H1 fun σ1 H2 => g2 x σ1 H2 D.nx) : tAsg2 te g1 g2 D σ H := h
theorem k_ipI {f : Int → Int → Int} {i j : Int} (h : Q (.int (f i j)) H) : ipI f (.int i) (.int j) H Q := ⟨i, j, rfl, rfl, h⟩
theorem k_setD {a : Addr} {i v : V} {H' : Hp} {Q : Hp → Prop} (h : DPut H a i v H') (q : Q H') : rSetD (.ref a) i v H Q := ⟨a, H', rfl, h, q⟩
end

section
variable {w : World} {K : PySem.W.Frag} {mg : Str → Option Value} {base : Heap}
/-! ### values as data: their shape, and what lies within -/
inductive Gv (H : Hp) : V → Prop where
  | int (i : Int) : Gv H (.int i)
  | str (z : Str) (h : z.length ≤ 100) : Gv H (.str z)
  | bl (b : Bool) : Gv H (.bl b)
  | non : Gv H .non
  | lst {a : Addr} {xs : List V} (h : H a = some (.lst xs)) : Gv H (.ref a)
  | tup {a : Addr} {xs : List V} (h : H a = some (.tup xs)) : Gv H (.ref a)
  | dic {a : Addr} {kvs : List (Key × V)} (h : H a = some (.dK kvs)) : Gv H (.ref a)
theorem Gv.up {H H' : Hp} {v : V} (h : Gv H v) (e : Same H H') : Gv H' v := by
  cases h with
  | int i => exact .int i
  | str z h => exact .str z h
  | bl b => exact .bl b
  | non => exact .non
  | lst h => exact .lst (e _ _ h)
  | tup h => exact .tup (e _ _ h)
  | dic h => exact .dic (e _ _ h)
inductive ScB : V → Prop where
  | int (i : Int) : ScB (.int i)
  | str (z : Str) (h : z.length ≤ 100) : ScB (.str z)
  | bl (b : Bool) : ScB (.bl b)
  | non : ScB .non
/-- a dict that is equal to itself: no two keys -/
def OkD (ks : List (Key × V)) : Prop := ks = [] ∨ ∃ k v, ks = [(k, v)] ∧ (flatB v = true ∨ ∃ b, v = .ref b)
/-- data of depth d; none of its objects is one of F -/
def Gd (F : Addr → Prop) (H : Hp) : Nat → V → Prop
  | 0, v => ScB v
  | d + 1, v => ScB v ∨ (∃ (a : Addr) (xs : List V), v = .ref a ∧ ¬ F a ∧ (H a = some (.lst xs) ∨ H a = some (.tup xs)) ∧ xs.length ≤ 50 ∧ ∀ x ∈ xs, Gd F H d x) ∨ ∃ (a : Addr) (ks : List (Key × V)), v = .ref a ∧ ¬ F a ∧ H a = some (.dK ks) ∧ OkD ks
/-- all but the objects of F stay -/
def Keep (F : Addr → Prop) (H H' : Hp) : Prop := ∀ a o, ¬ F a → H a = some o → (∀ ps, o ≠ .tbl ps) → H' a = some o
theorem Keep.of {F : Addr → Prop} {H H' : Hp} (e : Same H H') : Keep F H H' := fun a o _ h _ => e a o h
theorem Keep.trans {F : Addr → Prop} {H H1 H2 : Hp} (a : Keep F H H1) (b : Keep F H1 H2) : Keep F H H2 := fun c o n h q => b c o n (a c o n h q) q
theorem Gd.keep {F : Addr → Prop} {H H' : Hp} (e : Keep F H H') : ∀ {d : Nat} {v : V}, Gd F H d v → Gd F H' d v
  | 0, _, h => h
  | d + 1, _, .inl h => .inl h
  | d + 1, _, .inr (.inl ⟨a, xs, e1, n, h, hl, k⟩) => .inr (.inl ⟨a, xs, e1, n, h.imp (fun h => e _ _ n h (fun ps z => by cases z)) (fun h => e _ _ n h (fun ps z => by cases z)), hl, fun x hx => (k x hx).keep e⟩)
  | d + 1, _, .inr (.inr ⟨a, ks, e1, n, h, k⟩) => .inr (.inr ⟨a, ks, e1, n, e _ _ n h (fun ps z => by cases z), k⟩)
theorem Gd.up {F : Addr → Prop} {H H' : Hp} {d : Nat} {v : V} (h : Gd F H d v) (e : Same H H') : Gd F H' d v := h.keep (.of e)
theorem Gd.sc {F : Addr → Prop} {H : Hp} {v : V} (h : ScB v) : ∀ d, Gd F H d v
  | 0 => h
  | _ + 1 => .inl h
theorem Gd.weak {F F' : Addr → Prop} {H : Hp} (hF : ∀ a, F' a → F a) : ∀ {d : Nat} {v : V}, Gd F H d v → Gd F' H d v
  | 0, _, h => h
  | d + 1, _, .inl h => .inl h
  | d + 1, _, .inr (.inl ⟨a, xs, e1, n, h, hl, k⟩) => .inr (.inl ⟨a, xs, e1, fun z => n (hF a z), h, hl, fun x hx => (k x hx).weak hF⟩)
  | d + 1, _, .inr (.inr ⟨a, ks, e1, n, h, k⟩) => .inr (.inr ⟨a, ks, e1, fun z => n (hF a z), h, k⟩)
theorem ScB.gv {H : Hp} {v : V} (h : ScB v) : Gv H v := by
  cases h with
  | int i => exact .int i
  | str z h => exact .str z h
  | bl b => exact .bl b
  | non => exact .non
theorem Gd.gv {F : Addr → Prop} {H : Hp} {d : Nat} {v : V} (h : Gd F H d v) : Gv H v := by
  cases d with
  | zero => exact ScB.gv h
  | succ d =>
    rcases h with h | ⟨a, xs, rfl, _, h | h, _⟩ | ⟨a, ks, rfl, _, h, _⟩
    · exact ScB.gv h
    · exact .lst h
    · exact .tup h
    · exact .dic h
def isInt : V → Bool
  | .int _ => true
  | .bl _ => true
  | _ => false
def isBl : V → Bool
  | .bl _ => true
  | _ => false
def isStr : V → Bool
  | .str _ => true
  | _ => false
theorem k_gInt {H : Hp} {v : V} {Q : VK} (h : Gv H v) (k : Q (.bl (isInt v)) H) : rIsi K [v, .ty "int"] H Q := by
  cases h with
  | int i => exact k_isi (TyX.base (.int _)) kb_int_int k
  | str z h => exact k_isi (TyX.base (.str _)) kb_str_int k
  | bl b => exact k_isi (TyX.base (.bl _)) kb_bool_int k
  | non => exact k_isi (TyX.base .non) kb_NoneType_int k
  | lst h => exact k_isi (TyX.base (.lst h)) kb_list_int k
  | tup h => exact k_isi (TyX.base (.tup h)) kb_tuple_int k
  | dic h => exact k_isi (TyX.base (.dK h)) kb_dict_int k
theorem k_gBl {H : Hp} {v : V} {Q : VK} (h : Gv H v) (k : Q (.bl (isBl v)) H) : rIsi K [v, .ty "bool"] H Q := by
  cases h with
  | int i => exact k_isi (TyX.base (.int _)) kb_int_bool k
  | str z h => exact k_isi (TyX.base (.str _)) kb_str_bool k
  | bl b => exact k_isi (TyX.base (.bl _)) kb_bool_bool k
  | non => exact k_isi (TyX.base .non) kb_NoneType_bool k
  | lst h => exact k_isi (TyX.base (.lst h)) kb_list_bool k
  | tup h => exact k_isi (TyX.base (.tup h)) kb_tuple_bool k
  | dic h => exact k_isi (TyX.base (.dK h)) kb_dict_bool k
theorem k_gStr {H : Hp} {v : V} {Q : VK} (h : Gv H v) (k : Q (.bl (isStr v)) H) : rIsi K [v, .ty "str"] H Q := by
  cases h with
  | int i => exact k_isi (TyX.base (.int _)) kb_int_str k
  | str z h => exact k_isi (TyX.base (.str _)) kb_str_str k
  | bl b => exact k_isi (TyX.base (.bl _)) kb_bool_str k
  | non => exact k_isi (TyX.base .non) kb_NoneType_str k
  | lst h => exact k_isi (TyX.base (.lst h)) kb_list_str k
  | tup h => exact k_isi (TyX.base (.tup h)) kb_tuple_str k
  | dic h => exact k_isi (TyX.base (.dK h)) kb_dict_str k
def numV (v : V) (lo hi : Int) : Bool := match v with
  | .int i => decide (lo ≤ i) && decide (i ≤ hi)
  | _ => false
def spNumG : Sp := fun vs H Q _ => ∃ (v : V) (lo hi : Int), vs = [v, .int lo, .int hi] ∧ Gv H v ∧ Q (.bl (numV v lo hi)) H
theorem ok_is_number (T : Tx K mg) : FnOk P w K mg base CX0 1 T.a_is_number T.fd_is_number P_is_number spNumG := by
  refine T.F_is_number.ok sc_is_number (fun vs H Q E h => ?_) (fun cdv A outer s H vs Q E hr h => ?_)
  · obtain ⟨v, lo, hi, rfl, _⟩ := h
    rfl
  · obtain ⟨v, lo, hi, rfl, hv, k⟩ := h
    have nd := sc_is_number.nd
    refine ⟨_, (pss_one (ps_ret (pe_and (kcB b_isinstance (by decide) (by decide) (kc_isi K) g_is_number_isinstance T.n_isinstance (pa_cons (kv (i := 0) v_is_number_value) (pa_cons (kty_int g_is_number_int T.n_int) pa_nil))) (pe_and (pe_not (kcB b_isinstance (by decide) (by decide) (kc_isi K) g_is_number_isinstance T.n_isinstance (pa_cons (kv (i := 0) v_is_number_value) (pa_cons (kty_bool g_is_number_bool T.n_bool) pa_nil)))) (pe_one (pe_chain op_le op_le (kv (i := 1) v_is_number_least) (kv (i := 0) v_is_number_value) (kv (i := 2) v_is_number_most))))))), ?_⟩
    walk_at "ss"
    refine k_gInt hv ?_
    refine ⟨_, rfl, ?_⟩
    cases hv with
    | int i =>
      refine k_t ?_
      walk_at "ss"
      refine k_d (fun h1 => ?_) (fun h1 => ?_)
      · walk_at "ss"
        have e : numV (.int i) lo hi = decide (i ≤ hi) := by
          show (decide (lo ≤ i) && decide (i ≤ hi)) = _
          rw [decide_eq_true h1, Bool.true_and]
        rw [← e]
        exact k
      · walk_at "ss"
        have e : numV (.int i) lo hi = false := by
          show (decide (lo ≤ i) && decide (i ≤ hi)) = _
          rw [decide_eq_false h1, Bool.false_and]
        rw [e] at k
        exact k
    | bl b =>
      refine k_t ?_
      walk_at "ss"
      exact k
    | _ => exact k_f k
/-- a promise that asks more -/
theorem fn_weak {P : Program} {CX : CXT} {k : Nat} {f : Addr} {fd : FuncData} {ps : List Str} {sp sp' : Sp} (F : FnOk P w K mg base CX k f fd ps sp) (h : ∀ vs H Q E, sp' vs H Q E → sp vs H Q E) : FnOk P w K mg base CX k f fd ps sp' :=
  ⟨fun vs H Q E q => F.len _ _ _ _ (h _ _ _ _ q), fun A outer s H args us vs Q E hr e0 hb r q => F.run A outer s H args us vs Q E hr e0 hb r (h _ _ _ _ q)⟩
def spNum : Sp := fun vs H Q _ => ∃ v lo hi : Int, vs = [.int v, .int lo, .int hi] ∧ lo ≤ v ∧ v ≤ hi ∧ Q (.bl true) H
theorem numV_t {v lo hi : Int} (h0 : lo ≤ v) (h1 : v ≤ hi) : numV (.int v) lo hi = true := by
  show (decide (lo ≤ v) && decide (v ≤ hi)) = true
  rw [decide_eq_true h0, decide_eq_true h1]; rfl
theorem numV_i {v : V} {lo hi : Int} (h : numV v lo hi = true) : ∃ i, v = .int i ∧ lo ≤ i ∧ i ≤ hi := by
  cases v with
  | int i =>
    have h : (decide (lo ≤ i) && decide (i ≤ hi)) = true := h
    rw [Bool.and_eq_true, decide_eq_true_eq, decide_eq_true_eq] at h
    exact ⟨i, rfl, h.1, h.2⟩
  | _ => cases h
theorem ok_is_number0 (T : Tx K mg) : FnOk P w K mg base CX0 1 T.a_is_number T.fd_is_number P_is_number spNum := fn_weak (ok_is_number T) fun vs H Q E ⟨v, lo, hi, e, h0, h1, q⟩ => ⟨.int v, lo, hi, e, .int v, by rw [numV_t h0 h1]; exact q⟩
end

section
variable {w : World} {K : PySem.W.Frag} {mg : Str → Option Value} {base : Heap}
/-! ### the errors -/
theorem same_put {G G' : Hp} {L : Addr} {o : HO} (h : Same G G') (n : G L = none) : Same G (upd G' L o) := fun a u e => by
  rw [upd_ne (ne_of_none e n)]
  exact h _ _ e
theorem new_facts {G G' : Hp} {b t : Addr} {o β : HO} (hb : G b = none) (n : upd G b β t = none) (e : upd G t o = G') : G' b = none ∧ Same G G' ∧ G' t = some o ∧ t ≠ b ∧ G t = none := by
  obtain ⟨h1, h2⟩ := up_none n
  subst e
  exact ⟨by rw [upd_ne (Ne.symm h2)]; exact hb, same_new h1, upd_same, h2, h1⟩
theorem k_bm {K : PySem.W.Frag} {T : String} {r : V → List V → Hp → VK → Prop} {to : TE} {t : TA} {σ : L2.St} {H : Hp} {Q : VK} (h : to σ H fun x H1 => tyV K T x H1 ∧ t σ H1 fun xs H2 => r x xs H2 Q) : tBM K T r to t σ H Q := h
theorem k_app {l : Addr} {xs : List V} {y : V} {H : Hp} {Q : VK} (h : H l = some (.lst xs)) (hz : xs.length < 1000) (k : Q .non (upd H l (.lst (xs ++ [y])))) : rAppend (.ref l) [y] H Q := ⟨l, xs, y, rfl, rfl, h, small_lt (by omega), k⟩
theorem g_none {G0 G : Hp} {t : Addr} (sm : Same G0 G) (n : G t = none) : G0 t = none := by
  cases hz : G0 t with
  | none => rfl
  | some o => exact absurd (sm _ _ hz) (by rw [n]; intro z; cases z)
theorem k_mkO {C : Addr} {sp : Sp} {dvs : List V} {ta : TA} {σ : L2.St} {H : Hp} {Q : XK} (h : ta σ H fun vs H1 => vs.length ≤ 1000 ∧ ∀ a, H1 a = none → sp (.ref a :: (vs ++ dvs)) (upd H1 a (exo a C none))
  (fun v H2 => v = .non ∧ ∃ (d : Addr) (fs : List (Str × V)), H2 a = some (exo a C (some d)) ∧ H2 d = some (exd d fs) ∧ H1 d = none ∧ Q (.ref C) (some d) (upd (del H2 a) d (.xd fs))) (fun _ _ _ => False)) : tMkO C sp dvs ta σ H Q := h
def spInvalidNumberI (T : Tx K mg) : Sp := fun vs H Q _ => ∃ (a : Addr) (x : V), vs = [.ref a, x] ∧ H a = some (exo a T.C_InvalidNumber none) ∧ ∀ (H' : Hp) (d : Addr), H d = none → d ≠ a → SameBut a H H' → H' a = some (exo a T.C_InvalidNumber (some d)) → H' d = some (exd d [("code", .str "InvalidNumber"), ("value", x)]) → Q .non H'
theorem ok_InvalidNumber_init (T : Tx K mg) : FnOk P w K mg base CX0 1 T.a_InvalidNumber_init T.fd_InvalidNumber_init P_InvalidNumber_init (spInvalidNumberI T) := by
  obtain ⟨cl, cld, csl, hce⟩ := T.ce_InvalidNumber_init
  refine T.F_InvalidNumber_init.ok sc_InvalidNumber_init hce T.b_InvalidNumber_init (fun vs H Q E h => ?_) (fun A outer s H vs Q E hr h => ?_)
  · obtain ⟨a, x, rfl, _⟩ := h
    rfl
  · obtain ⟨a, x, rfl, ha, k⟩ := h
    have nd := sc_InvalidNumber_init.nd
    refine ⟨_, (psa_cons (pst_supE T.sd_InvalidNumber_init rfl rfl g_InvalidNumber_init_super fr_InvalidNumber_init cc_look rfl (locB_ok l_InvalidNumber_init_self) (pa_cons pe_str pa_nil))
      (psa_cons (pst_of (ps_ost (kv (i := 0) v_InvalidNumber_init_self) (kv (i := 1) v_InvalidNumber_init_value)))
      (psa_one (pst_of (ps_ost (kv (i := 0) v_InvalidNumber_init_self) pe_str))))), ?_⟩
    refine k_supE (a := a) (C := T.C_InvalidNumber) rfl ha T.se_InvalidNumber fun q nq => ?_
    have naq : a ≠ q := ne_of_none ha nq
    walk_at "ss"
    refine ⟨by decide, upd_same, (upd_ne naq).trans ha, ?_⟩
    walk_at "ss"
    refine k_ost ?_
    walk_at "ss"
    refine ⟨a, _, rfl, T.oex_InvalidNumber, T.no_InvalidNumber_value, .inl ⟨(upd_ne naq).trans ha, fun d nd1 nda => ?_⟩⟩
    have ndH : H d = none := (up_none nd1).1
    walk_at "ss"
    dsimp only
    refine k_ost ?_
    walk_at "ss"
    refine ⟨a, _, rfl, T.oex_InvalidNumber, T.no_InvalidNumber_code, .inr ⟨d, _, upd_same, (upd_ne nda).trans upd_same, by simp, ?_⟩⟩
    refine k _ d ndH nda ?_ ((upd_ne (Ne.symm nda)).trans upd_same) upd_same
    intro b o nb hb
    have nbd : b ≠ d := ne_of_none hb ndH
    have nbq : b ≠ q := ne_of_none hb nq
    rw [upd_ne nbd, upd_ne nb, upd_ne nbd, upd_ne nbq]
    exact hb
theorem raise_InvalidNumber (T : Tx K mg) {H : Hp} {v : V} {Q : XK} (h : ∀ (H' : Hp) (d : Addr), Same H H' → H' d = some (.xd [("code", .str "InvalidNumber"), ("value", v)]) → Q (.ref T.C_InvalidNumber) (some d) H') : [v].length ≤ 1000 ∧ ∀ a, H a = none → spInvalidNumberI T (.ref a :: ([v] ++ [])) (upd H a (exo a T.C_InvalidNumber none))
    (fun v2 H2 => v2 = .non ∧ ∃ (d : Addr) (fs : List (Str × V)), H2 a = some (exo a T.C_InvalidNumber (some d)) ∧ H2 d = some (exd d fs) ∧ H d = none ∧ Q (.ref T.C_InvalidNumber) (some d) (upd (del H2 a) d (.xd fs))) (fun _ _ _ => False) := by
  refine ⟨by simp, fun x nx => ⟨x, v, rfl, upd_same, fun H' d nd1 ndx sb hx hd => ⟨rfl, d, _, hx, hd, (up_none nd1).1, ?_⟩⟩⟩
  refine h _ d ?_ upd_same
  intro z o hz
  have nzx : z ≠ x := ne_of_none hz nx
  have nzd : z ≠ d := ne_of_none hz (up_none nd1).1
  rw [upd_ne nzd, del_ne nzx]
  exact sb _ _ nzx ((upd_ne nzx).trans hz)
def spInvalidRestI (T : Tx K mg) : Sp := fun vs H Q _ => ∃ (a : Addr) (x : V), vs = [.ref a, x] ∧ H a = some (exo a T.C_InvalidRest none) ∧ ∀ (H' : Hp) (d : Addr), H d = none → d ≠ a → SameBut a H H' → H' a = some (exo a T.C_InvalidRest (some d)) → H' d = some (exd d [("code", .str "InvalidRest"), ("value", x)]) → Q .non H'
theorem ok_InvalidRest_init (T : Tx K mg) : FnOk P w K mg base CX0 1 T.a_InvalidRest_init T.fd_InvalidRest_init P_InvalidRest_init (spInvalidRestI T) := by
  obtain ⟨cl, cld, csl, hce⟩ := T.ce_InvalidRest_init
  refine T.F_InvalidRest_init.ok sc_InvalidRest_init hce T.b_InvalidRest_init (fun vs H Q E h => ?_) (fun A outer s H vs Q E hr h => ?_)
  · obtain ⟨a, x, rfl, _⟩ := h
    rfl
  · obtain ⟨a, x, rfl, ha, k⟩ := h
    have nd := sc_InvalidRest_init.nd
    refine ⟨_, (psa_cons (pst_supE T.sd_InvalidRest_init rfl rfl g_InvalidRest_init_super fr_InvalidRest_init cc_look rfl (locB_ok l_InvalidRest_init_self) (pa_cons pe_str pa_nil))
      (psa_cons (pst_of (ps_ost (kv (i := 0) v_InvalidRest_init_self) (kv (i := 1) v_InvalidRest_init_value)))
      (psa_one (pst_of (ps_ost (kv (i := 0) v_InvalidRest_init_self) pe_str))))), ?_⟩
    refine k_supE (a := a) (C := T.C_InvalidRest) rfl ha T.se_InvalidRest fun q nq => ?_
    have naq : a ≠ q := ne_of_none ha nq
    walk_at "ss"
    refine ⟨by decide, upd_same, (upd_ne naq).trans ha, ?_⟩
    walk_at "ss"
    refine k_ost ?_
    walk_at "ss"
    refine ⟨a, _, rfl, T.oex_InvalidRest, T.no_InvalidRest_value, .inl ⟨(upd_ne naq).trans ha, fun d nd1 nda => ?_⟩⟩
    have ndH : H d = none := (up_none nd1).1
    walk_at "ss"
    dsimp only
    refine k_ost ?_
    walk_at "ss"
    refine ⟨a, _, rfl, T.oex_InvalidRest, T.no_InvalidRest_code, .inr ⟨d, _, upd_same, (upd_ne nda).trans upd_same, by simp, ?_⟩⟩
    refine k _ d ndH nda ?_ ((upd_ne (Ne.symm nda)).trans upd_same) upd_same
    intro b o nb hb
    have nbd : b ≠ d := ne_of_none hb ndH
    have nbq : b ≠ q := ne_of_none hb nq
    rw [upd_ne nbd, upd_ne nb, upd_ne nbd, upd_ne nbq]
    exact hb
theorem raise_InvalidRest (T : Tx K mg) {H : Hp} {v : V} {Q : XK} (h : ∀ (H' : Hp) (d : Addr), Same H H' → H' d = some (.xd [("code", .str "InvalidRest"), ("value", v)]) → Q (.ref T.C_InvalidRest) (some d) H') : [v].length ≤ 1000 ∧ ∀ a, H a = none → spInvalidRestI T (.ref a :: ([v] ++ [])) (upd H a (exo a T.C_InvalidRest none))
    (fun v2 H2 => v2 = .non ∧ ∃ (d : Addr) (fs : List (Str × V)), H2 a = some (exo a T.C_InvalidRest (some d)) ∧ H2 d = some (exd d fs) ∧ H d = none ∧ Q (.ref T.C_InvalidRest) (some d) (upd (del H2 a) d (.xd fs))) (fun _ _ _ => False) := by
  refine ⟨by simp, fun x nx => ⟨x, v, rfl, upd_same, fun H' d nd1 ndx sb hx hd => ⟨rfl, d, _, hx, hd, (up_none nd1).1, ?_⟩⟩⟩
  refine h _ d ?_ upd_same
  intro z o hz
  have nzx : z ≠ x := ne_of_none hz nx
  have nzd : z ≠ d := ne_of_none hz (up_none nd1).1
  rw [upd_ne nzd, del_ne nzx]
  exact sb _ _ nzx ((upd_ne nzx).trans hz)
def spInvalidBordersI (T : Tx K mg) : Sp := fun vs H Q _ => ∃ (a : Addr) (x : V), vs = [.ref a, x] ∧ H a = some (exo a T.C_InvalidBorders none) ∧ ∀ (H' : Hp) (d : Addr), H d = none → d ≠ a → SameBut a H H' → H' a = some (exo a T.C_InvalidBorders (some d)) → H' d = some (exd d [("code", .str "InvalidBorders"), ("at", x)]) → Q .non H'
theorem ok_InvalidBorders_init (T : Tx K mg) : FnOk P w K mg base CX0 1 T.a_InvalidBorders_init T.fd_InvalidBorders_init P_InvalidBorders_init (spInvalidBordersI T) := by
  obtain ⟨cl, cld, csl, hce⟩ := T.ce_InvalidBorders_init
  refine T.F_InvalidBorders_init.ok sc_InvalidBorders_init hce T.b_InvalidBorders_init (fun vs H Q E h => ?_) (fun A outer s H vs Q E hr h => ?_)
  · obtain ⟨a, x, rfl, _⟩ := h
    rfl
  · obtain ⟨a, x, rfl, ha, k⟩ := h
    have nd := sc_InvalidBorders_init.nd
    refine ⟨_, (psa_cons (pst_supE T.sd_InvalidBorders_init rfl rfl g_InvalidBorders_init_super fr_InvalidBorders_init cc_look rfl (locB_ok l_InvalidBorders_init_self) (pa_cons pe_str pa_nil))
      (psa_cons (pst_of (ps_ost (kv (i := 0) v_InvalidBorders_init_self) (kv (i := 1) v_InvalidBorders_init_at)))
      (psa_one (pst_of (ps_ost (kv (i := 0) v_InvalidBorders_init_self) pe_str))))), ?_⟩
    refine k_supE (a := a) (C := T.C_InvalidBorders) rfl ha T.se_InvalidBorders fun q nq => ?_
    have naq : a ≠ q := ne_of_none ha nq
    walk_at "ss"
    refine ⟨by decide, upd_same, (upd_ne naq).trans ha, ?_⟩
    walk_at "ss"
    refine k_ost ?_
    walk_at "ss"
    refine ⟨a, _, rfl, T.oex_InvalidBorders, T.no_InvalidBorders_at, .inl ⟨(upd_ne naq).trans ha, fun d nd1 nda => ?_⟩⟩
    have ndH : H d = none := (up_none nd1).1
    walk_at "ss"
    dsimp only
    refine k_ost ?_
    walk_at "ss"
    refine ⟨a, _, rfl, T.oex_InvalidBorders, T.no_InvalidBorders_code, .inr ⟨d, _, upd_same, (upd_ne nda).trans upd_same, by simp, ?_⟩⟩
    refine k _ d ndH nda ?_ ((upd_ne (Ne.symm nda)).trans upd_same) upd_same
    intro b o nb hb
    have nbd : b ≠ d := ne_of_none hb ndH
    have nbq : b ≠ q := ne_of_none hb nq
    rw [upd_ne nbd, upd_ne nb, upd_ne nbd, upd_ne nbq]
    exact hb
theorem raise_InvalidBorders (T : Tx K mg) {H : Hp} {v : V} {Q : XK} (h : ∀ (H' : Hp) (d : Addr), Same H H' → H' d = some (.xd [("code", .str "InvalidBorders"), ("at", v)]) → Q (.ref T.C_InvalidBorders) (some d) H') : [v].length ≤ 1000 ∧ ∀ a, H a = none → spInvalidBordersI T (.ref a :: ([v] ++ [])) (upd H a (exo a T.C_InvalidBorders none))
    (fun v2 H2 => v2 = .non ∧ ∃ (d : Addr) (fs : List (Str × V)), H2 a = some (exo a T.C_InvalidBorders (some d)) ∧ H2 d = some (exd d fs) ∧ H d = none ∧ Q (.ref T.C_InvalidBorders) (some d) (upd (del H2 a) d (.xd fs))) (fun _ _ _ => False) := by
  refine ⟨by simp, fun x nx => ⟨x, v, rfl, upd_same, fun H' d nd1 ndx sb hx hd => ⟨rfl, d, _, hx, hd, (up_none nd1).1, ?_⟩⟩⟩
  refine h _ d ?_ upd_same
  intro z o hz
  have nzx : z ≠ x := ne_of_none hz nx
  have nzd : z ≠ d := ne_of_none hz (up_none nd1).1
  rw [upd_ne nzd, del_ne nzx]
  exact sb _ _ nzx ((upd_ne nzx).trans hz)
def spTooI (T : Tx K mg) : Sp := fun vs H Q _ => ∃ (a : Addr) (x y : V), vs = [.ref a, x, y] ∧ H a = some (exo a T.C_TooMany none) ∧ ∀ (H' : Hp) (d : Addr), H d = none → d ≠ a → SameBut a H H' → H' a = some (exo a T.C_TooMany (some d)) → H' d = some (exd d [("code", .str "TooMany"), ("count", y), ("what", x)]) → Q .non H'
theorem ok_TooMany_init (T : Tx K mg) : FnOk P w K mg base CX0 1 T.a_TooMany_init T.fd_TooMany_init P_TooMany_init (spTooI T) := by
  obtain ⟨cl, cld, csl, hce⟩ := T.ce_TooMany_init
  refine T.F_TooMany_init.ok sc_TooMany_init hce T.b_TooMany_init (fun vs H Q E h => ?_) (fun A outer s H vs Q E hr h => ?_)
  · obtain ⟨a, x, y, rfl, _⟩ := h
    rfl
  · obtain ⟨a, x, y, rfl, ha, k⟩ := h
    have nd := sc_TooMany_init.nd
    refine ⟨_, (psa_cons (pst_supE T.sd_TooMany_init rfl rfl g_TooMany_init_super fr_TooMany_init cc_look rfl (locB_ok l_TooMany_init_self) (pa_cons pe_str pa_nil))
      (psa_cons (pst_of (ps_ost (kv (i := 0) v_TooMany_init_self) (kv (i := 1) v_TooMany_init_what)))
      (psa_cons (pst_of (ps_ost (kv (i := 0) v_TooMany_init_self) (kv (i := 2) v_TooMany_init_count)))
      (psa_one (pst_of (ps_ost (kv (i := 0) v_TooMany_init_self) pe_str)))))), ?_⟩
    refine k_supE (a := a) (C := T.C_TooMany) rfl ha T.se_TooMany fun q nq => ?_
    have naq : a ≠ q := ne_of_none ha nq
    walk_at "ss"
    refine ⟨by decide, upd_same, (upd_ne naq).trans ha, ?_⟩
    walk_at "ss"
    refine k_ost ?_
    walk_at "ss"
    refine ⟨a, _, rfl, T.oex_TooMany, T.no_TooMany_what, .inl ⟨(upd_ne naq).trans ha, fun d nd1 nda => ?_⟩⟩
    have ndH : H d = none := (up_none nd1).1
    walk_at "ss"
    dsimp only
    refine k_ost ?_
    walk_at "ss"
    refine ⟨a, _, rfl, T.oex_TooMany, T.no_TooMany_count, .inr ⟨d, _, upd_same, (upd_ne nda).trans upd_same, by simp, ?_⟩⟩
    walk_at "ss"
    dsimp only
    refine k_ost ?_
    walk_at "ss"
    refine ⟨a, _, rfl, T.oex_TooMany, T.no_TooMany_code, .inr ⟨d, _, (upd_ne (Ne.symm nda)).trans upd_same, upd_same, by simp, ?_⟩⟩
    refine k _ d ndH nda ?_ ((upd_ne (Ne.symm nda)).trans ((upd_ne (Ne.symm nda)).trans upd_same)) upd_same
    intro b o nb hb
    have nbd : b ≠ d := ne_of_none hb ndH
    have nbq : b ≠ q := ne_of_none hb nq
    rw [upd_ne nbd, upd_ne nbd, upd_ne nb, upd_ne nbd, upd_ne nbq]
    exact hb
theorem raise_TooMany (T : Tx K mg) {H : Hp} {x y : V} {Q : XK} (h : ∀ (H' : Hp) (d : Addr), Same H H' → H' d = some (.xd [("code", .str "TooMany"), ("count", y), ("what", x)]) → Q (.ref T.C_TooMany) (some d) H') : [x, y].length ≤ 1000 ∧ ∀ a, H a = none → spTooI T (.ref a :: ([x, y] ++ [])) (upd H a (exo a T.C_TooMany none))
    (fun v2 H2 => v2 = .non ∧ ∃ (d : Addr) (fs : List (Str × V)), H2 a = some (exo a T.C_TooMany (some d)) ∧ H2 d = some (exd d fs) ∧ H d = none ∧ Q (.ref T.C_TooMany) (some d) (upd (del H2 a) d (.xd fs))) (fun _ _ _ => False) := by
  refine ⟨by simp, fun e ne => ⟨e, x, y, rfl, upd_same, fun H' d nd1 nde sb hx hd => ⟨rfl, d, _, hx, hd, (up_none nd1).1, ?_⟩⟩⟩
  refine h _ d ?_ upd_same
  intro z o hz
  have nze : z ≠ e := ne_of_none hz ne
  have nzd : z ≠ d := ne_of_none hz (up_none nd1).1
  rw [upd_ne nzd, del_ne nze]
  exact sb _ _ nze ((upd_ne nze).trans hz)
/-- an error with its values -/
inductive Ev where | num (v : V) | rest (v : V) | bord (v : V) | many (z : Str) (n : Int)
def Ev.C (T : Tx K mg) : Ev → Addr
  | .num _ => T.C_InvalidNumber
  | .rest _ => T.C_InvalidRest
  | .bord _ => T.C_InvalidBorders
  | .many _ _ => T.C_TooMany
def Ev.fs : Ev → List (Str × V)
  | .num v => [("code", .str "InvalidNumber"), ("value", v)]
  | .rest v => [("code", .str "InvalidRest"), ("value", v)]
  | .bord v => [("code", .str "InvalidBorders"), ("at", v)]
  | .many z n => [("code", .str "TooMany"), ("count", .int n), ("what", .str z)]
/-- the row in which the law keeps it -/
def Ev.row : Ev → List V
  | .num v => [.str "InvalidNumber", v]
  | .rest v => [.str "InvalidRest", v]
  | .bord v => [.str "InvalidBorders", v]
  | .many z n => [.str "TooMany", .str z, .int n]
/-- the error e leaves, all else as it was -/
def Goes (T : Tx K mg) (H : Hp) (E : XK) (e : Ev) : Prop := ∀ (H' : Hp) (d : Addr), Same H H' → H' d = some (.xd e.fs) → E (.ref (e.C T)) (some d) H'
theorem Goes.up {T : Tx K mg} {H H' : Hp} {E : XK} {e : Ev} (h : Goes T H E e) (q : Same H H') : Goes T H' E e := fun H2 d s hd => h H2 d (q.trans s) hd
end

/-! ### rests as data -/
inductive Op where | later | sooner | next
inductive Plan where | win (w : Int) | days (bs : List Int) (p : Int) | op (o : Op) (a b : Plan)
def baseOf (bs : List Int) : Int := bs.getLast?.getD 0
def dayAt (bs : List Int) (p t : Int) : Int := match bs.find? (fun b => decide (t < b)) with
  | some b => b
  | none => baseOf bs + ((t - baseOf bs) / p + 1) * p
def mx (i j : Int) : Int := if j > i then j else i
def mn (i j : Int) : Int := if j < i then j else i
def lcmI (a b : Int) : Int := ((Nat.lcm a.natAbs b.natAbs : Nat) : Int)
def Plan.at : Plan → Int → Int
  | .win w, t => t + w
  | .days bs p, t => dayAt bs p t
  | .op .later a b, t => mx (a.at t) (b.at t)
  | .op .sooner a b, t => mn (a.at t) (b.at t)
  | .op .next a b, t => b.at (a.at t)
def Plan.forms : Plan → Nat
  | .win _ => 1
  | .days _ _ => 1
  | .op _ a b => 1 + a.forms + b.forms
def Plan.period : Plan → Int
  | .win _ => 1
  | .days _ p => p
  | .op _ a b => lcmI a.period b.period
def Plan.bend : Plan → Int
  | .win _ => 0
  | .days bs _ => baseOf bs
  | .op _ a b => mx a.bend b.bend
def Asc : Int → List Int → Prop
  | _, [] => True
  | l, b :: r => l < b ∧ Asc b r
def Plan.Ok : Plan → Prop
  | .win w => 1 ≤ w ∧ w ≤ 1000
  | .days bs p => Asc 0 bs ∧ (∀ b ∈ bs, b ≤ 1000) ∧ bs.length ≤ 12 ∧ 1 ≤ p ∧ p ≤ 2000
  | .op o a b => a.Ok ∧ b.Ok ∧ (Plan.op o a b).forms ≤ 6 ∧ (Plan.op o a b).period ≤ 2000
theorem Plan.forms_pos (p : Plan) : 0 < p.forms := by cases p <;> simp [Plan.forms] <;> omega
theorem lcmI_nn (a b : Int) : 0 ≤ lcmI a b := Int.natCast_nonneg _
theorem period_pos : ∀ {p : Plan}, p.Ok → 0 < p.period ∧ p.period ≤ 2000
  | .win _, _ => ⟨by show (0 : Int) < 1; decide, by show (1 : Int) ≤ 2000; decide⟩
  | .days bs p, h => by
    obtain ⟨_, _, _, h1, h2⟩ := h
    exact ⟨by show 0 < p; omega, h2⟩
  | .op o a b, h => by
    obtain ⟨ha, hb, _, h2⟩ := h
    have q1 := (period_pos ha).1
    have q2 := (period_pos hb).1
    refine ⟨?_, h2⟩
    show 0 < lcmI a.period b.period
    have : 0 < Nat.lcm a.period.natAbs b.period.natAbs := Nat.lcm_pos (by omega) (by omega)
    unfold lcmI
    omega
/-! ### the texts -/
def opS : Op → Str
  | .later => "later"
  | .sooner => "sooner"
  | .next => "next"
def daysW (ys : List Str) (p : Int) : List Str := [("days" : Str)] ++ ys ++ [("then" : Str), Str.ofString (toString p)]
def Plan.tx : Plan → Str
  | .win w => Str.empty ++ ("window " : Str) ++ Str.ofString (toString w)
  | .days bs p => Txt.join " " (daysW (bs.map fun b => Str.ofString (toString b)) p)
  | .op o a b => Str.empty ++ opS o ++ ("(" : Str) ++ a.tx ++ (", " : Str) ++ b.tx ++ (")" : Str)
theorem asc_lt : ∀ {l : Int} {bs : List Int}, Asc l bs → ∀ b ∈ bs, l < b
  | _, [], _, b, hb => by cases hb
  | l, c :: r, h, b, hb => by
    obtain ⟨h1, h2⟩ := h
    rcases List.mem_cons.mp hb with rfl | hb
    · exact h1
    · exact Int.lt_trans h1 (asc_lt h2 b hb)
theorem txtJoin_len (a : Str) (ys : List Str) : (Txt.join a ys).length ≤ (ys.map (·.length)).sum + ys.length * a.length := by
  show (Builtin.Str.glued a ys).length ≤ _
  rw [StrLaws.glued_eq_join]
  exact StrLaws.join_length_le a ys
theorem sum_le {B : Nat} : ∀ {ys : List Str}, (∀ y ∈ ys, y.length ≤ B) → (ys.map (·.length)).sum ≤ ys.length * B
  | [], _ => Nat.zero_le _
  | y :: r, h => by
    have h1 := h y (List.mem_cons_self ..)
    have h2 := sum_le (ys := r) fun z hz => h z (List.mem_cons_of_mem _ hz)
    simp only [List.map_cons, List.sum_cons, List.length_cons, Nat.add_mul, Nat.one_mul]
    omega
theorem days_len {bs : List Int} {p : Int} (h : (Plan.days bs p).Ok) : (∀ y ∈ daysW (bs.map fun b => Str.ofString (toString b)) p, y.length ≤ 5) ∧ (daysW (bs.map fun b => Str.ofString (toString b)) p).length ≤ 15 := by
  obtain ⟨ha, hle, hl, hp1, hp2⟩ := h
  refine ⟨fun y hy => ?_, ?_⟩
  · unfold daysW at hy
    simp only [List.mem_append, List.mem_cons, List.not_mem_nil, or_false] at hy
    have l1 : ("days" : Str).length = 4 := by decide +kernel
    have l2 : ("then" : Str).length = 4 := by decide +kernel
    rcases hy with (rfl | hy) | rfl | rfl
    · omega
    · obtain ⟨b, hb, rfl⟩ := List.mem_map.mp hy
      have := hle b hb
      have := asc_lt ha b hb
      exact len_text (k := 4) (by decide) (by omega)
    · omega
    · exact len_text (k := 4) (by decide) (by omega)
  · unfold daysW
    simp only [List.length_append, List.length_cons, List.length_nil, List.length_map]
    omega
theorem opS_len (o : Op) : (opS o).length ≤ 6 := by cases o <;> decide +kernel
theorem tx_len : ∀ {p : Plan}, p.Ok → p.tx.length ≤ 100 * p.forms
  | .win n, h => by
    have l1 : ("window " : Str).length = 7 := by decide +kernel
    have l2 : (Str.ofString (toString n)).length ≤ 5 := len_text (k := 4) (by decide) (by have := h.1; have := h.2; omega)
    show (Str.empty ++ ("window " : Str) ++ Str.ofString (toString n)).length ≤ 100 * 1
    simp only [PySem.Str.length_append, len_empty, l1]
    omega
  | .days bs p, h => by
    obtain ⟨h1, h2⟩ := days_len h
    have lsum := sum_le h1
    have lj := txtJoin_len " " (daysW (bs.map fun b => Str.ofString (toString b)) p)
    have l3 : (" " : Str).length = 1 := by decide +kernel
    rw [l3] at lj
    show (Txt.join " " (daysW (bs.map fun b => Str.ofString (toString b)) p)).length ≤ 100 * 1
    omega
  | .op o a b, h => by
    have ha := tx_len h.1
    have hb := tx_len h.2.1
    have l0 := opS_len o
    have l1 : ("(" : Str).length = 1 := by decide +kernel
    have l2 : (", " : Str).length = 2 := by decide +kernel
    have l3 : (")" : Str).length = 1 := by decide +kernel
    show (Str.empty ++ opS o ++ ("(" : Str) ++ a.tx ++ (", " : Str) ++ b.tx ++ (")" : Str)).length ≤ 100 * (1 + a.forms + b.forms)
    simp only [PySem.Str.length_append, len_empty, l1, l2, l3]
    omega
/-! ### rests as objects -/
section
variable {K : PySem.W.Frag} {mg : Str → Option Value}
def cOp (T : Tx K mg) : Op → Addr
  | .later => T.C_Later
  | .sooner => T.C_Sooner
  | .next => T.C_Next
abbrev nW1 : List Str := ["width"]
abbrev nD1 : List Str := ["every", "_borders"]
abbrev nO1 : List Str := ["first", "second"]
abbrev n4 : List Str := ["_text", "_forms", "_period", "_bend"]
abbrev nWin : List Str := ["_text", "_forms", "_period", "_bend", "width"]
abbrev nDays : List Str := ["_text", "_forms", "_period", "_bend", "every", "_borders"]
abbrev nOp : List Str := ["_text", "_forms", "_period", "_bend", "first", "second"]
inductive RestAt (T : Tx K mg) (F : Addr → Prop) (H : Hp) : Addr → Plan → Prop where
  | win {a dx : Addr} {w : Int} (h : H a = some (.ins T.C_Window dx (FL nWin [.str (Plan.win w).tx, .int 1, .int 1, .int 0, .int w]))) : RestAt T F H a (.win w)
  | days {a dx l : Addr} {bs : List Int} {p : Int} (h : H a = some (.ins T.C_Days dx (FL nDays [.str (Plan.days bs p).tx, .int 1, .int p, .int (baseOf bs), .int p, .ref l]))) (hl : H l = some (.lst (bs.map V.int))) (hF : ¬ F l) : RestAt T F H a (.days bs p)
  | op {a dx a1 a2 : Addr} {o : Op} {p q : Plan} (h : H a = some (.ins (cOp T o) dx (FL nOp [.str (Plan.op o p q).tx, .int ((Plan.op o p q).forms : Nat), .int (Plan.op o p q).period, .int (Plan.op o p q).bend, .ref a1, .ref a2])))
      (h1 : RestAt T F H a1 p) (h2 : RestAt T F H a2 q) : RestAt T F H a (.op o p q)
/-- all but the objects of F stay -/
theorem RestAt.keep {T : Tx K mg} {F : Addr → Prop} {H H' : Hp} (hF : ∀ a, F a → ∀ C dx fs, H a ≠ some (.ins C dx fs)) (e : Keep F H H') : ∀ {a : Addr} {p : Plan}, RestAt T F H a p → RestAt T F H' a p := by
  intro a p h
  have ki : ∀ {a C dx : Addr} {fs : List (Str × V)}, H a = some (.ins C dx fs) → H' a = some (.ins C dx fs) := fun {a C dx fs} h => e _ _ (fun z => hF _ z _ _ _ h) h (fun ps z => by cases z)
  induction h with
  | win h => exact .win (ki h)
  | days h hl hF2 => exact .days (ki h) (e _ _ hF2 hl (fun ps z => by cases z)) hF2
  | op h h1 h2 i1 i2 => exact .op (ki h) i1 i2
theorem RestAt.weak {T : Tx K mg} {F F' : Addr → Prop} {H : Hp} (hF : ∀ a, F' a → F a) : ∀ {a : Addr} {p : Plan}, RestAt T F H a p → RestAt T F' H a p := by
  intro a p h
  induction h with
  | win h => exact .win h
  | days h hl hF2 => exact .days h hl (fun z => hF2 (hF _ z))
  | op h h1 h2 i1 i2 => exact .op h i1 i2
theorem RestAt.ext {T : Tx K mg} {F : Addr → Prop} {H H' : Hp} (e : LamX.ExtN H H') : ∀ {a : Addr} {p : Plan}, RestAt T F H a p → RestAt T F H' a p := by
  intro a p h
  induction h with
  | win h => exact .win (e _ _ h (fun ps z => by cases z))
  | days h hl hF => exact .days (e _ _ h (fun ps z => by cases z)) (e _ _ hl (fun ps z => by cases z)) hF
  | op h h1 h2 i1 i2 => exact .op (e _ _ h (fun ps z => by cases z)) i1 i2
theorem RestAt.up {T : Tx K mg} {F : Addr → Prop} {H H' : Hp} (e : Same H H') : ∀ {a : Addr} {p : Plan}, RestAt T F H a p → RestAt T F H' a p := by
  intro a p h
  induction h with
  | win h => exact .win (e _ _ h)
  | days h hl hF => exact .days (e _ _ h) (e _ _ hl) hF
  | op h h1 h2 i1 i2 => exact .op (e _ _ h) i1 i2
theorem RestAt.upBut {T : Tx K mg} {F : Addr → Prop} {H H' : Hp} {z C dx : Addr} (hz : H z = some (.ins C dx [])) (e : SameBut z H H') : ∀ {a : Addr} {p : Plan}, RestAt T F H a p → RestAt T F H' a p := by
  intro a p h
  induction h with
  | win h => exact .win (e _ _ (ne_of h hz (by intro q; cases q)) h)
  | days h hl hF => exact .days (e _ _ (ne_of h hz (by intro q; cases q)) h) (e _ _ (ne_of hl hz (by intro q; cases q)) hl) hF
  | op h h1 h2 i1 i2 => exact .op (e _ _ (ne_of h hz (by intro q; cases q)) h) i1 i2
/-- its class, among the five -/
inductive IsC (T : Tx K mg) : Addr → Prop where
  | win : IsC T T.C_Window
  | days : IsC T T.C_Days
  | op (o : Op) : IsC T (cOp T o)
theorem RestAt.four {T : Tx K mg} {F : Addr → Prop} {H : Hp} {a : Addr} {p : Plan} (h : RestAt T F H a p) : ∃ (C dx : Addr) (ns : List Str) (vs : List V), IsC T C ∧ (ns = nW1 ∨ ns = nD1 ∨ ns = nO1) ∧
    H a = some (.ins C dx (FL (n4 ++ ns) ([V.str p.tx, .int (p.forms : Nat), .int p.period, .int p.bend] ++ vs))) := by
  cases h with
  | win h => exact ⟨_, _, _, _, .win, .inl rfl, h⟩
  | days h hl hF => exact ⟨_, _, _, _, .days, .inr (.inl rfl), h⟩
  | op h h1 h2 => exact ⟨_, _, _, _, .op _, .inr (.inr rfl), h⟩
theorem IsC.cl {T : Tx K mg} {C : Addr} (h : IsC T C) : Cls K C := by
  cases h with
  | win => exact T.cl_Window
  | days => exact T.cl_Days
  | op o => cases o <;> first | exact T.cl_Later | exact T.cl_Sooner | exact T.cl_Next
theorem IsC.ty {T : Tx K mg} {C : Addr} (h : IsC T C) : ClsTy K C := by
  cases h with
  | win => exact T.ty_Window
  | days => exact T.ty_Days
  | op o => cases o <;> first | exact T.ty_Later | exact T.ty_Sooner | exact T.ty_Next
theorem IsC.kt {T : Tx K mg} {C : Addr} (h : IsC T C) : PySem.W.kitOne K (.ref C) (.ref T.C_Rest) = some true := by
  cases h with
  | win => exact T.kt_Window_Rest
  | days => exact T.kt_Days_Rest
  | op o => cases o <;> first | exact T.kt_Later_Rest | exact T.kt_Sooner_Rest | exact T.kt_Next_Rest
theorem IsC.noText {T : Tx K mg} {C : Addr} (h : IsC T C) : NoAttr K C "_text" := by
  cases h with
  | win => exact T.no_Window_text
  | days => exact T.no_Days_text
  | op o => cases o <;> first | exact T.no_Later_text | exact T.no_Sooner_text | exact T.no_Next_text
theorem IsC.noForms {T : Tx K mg} {C : Addr} (h : IsC T C) : NoAttr K C "_forms" := by
  cases h with
  | win => exact T.no_Window_forms
  | days => exact T.no_Days_forms
  | op o => cases o <;> first | exact T.no_Later_forms | exact T.no_Sooner_forms | exact T.no_Next_forms
theorem IsC.noPeriod {T : Tx K mg} {C : Addr} (h : IsC T C) : NoAttr K C "_period" := by
  cases h with
  | win => exact T.no_Window_period
  | days => exact T.no_Days_period
  | op o => cases o <;> first | exact T.no_Later_period | exact T.no_Sooner_period | exact T.no_Next_period
theorem IsC.noBend {T : Tx K mg} {C : Addr} (h : IsC T C) : NoAttr K C "_bend" := by
  cases h with
  | win => exact T.no_Window_bend
  | days => exact T.no_Days_bend
  | op o => cases o <;> first | exact T.no_Later_bend | exact T.no_Sooner_bend | exact T.no_Next_bend
end
section
variable {w : World} {K : PySem.W.Frag} {mg : Str → Option Value} {base : Heap}
def spRestInit (T : Tx K mg) : Sp := fun vs H Q _ => ∃ (a C dx : Addr) (tx : Str) (f p b : Int), vs = [.ref a, .str tx, .int f, .int p, .int b] ∧ IsC T C ∧ H a = some (.ins C dx []) ∧ Q .non (upd H a (.ins C dx (FL n4 [.str tx, .int f, .int p, .int b])))
theorem ok_Rest_init (T : Tx K mg) : FnOk P w K mg base CX0 1 T.a_Rest_init T.fd_Rest_init P_Rest_init (spRestInit T) := by
  refine T.F_Rest_init.ok sc_Rest_init (fun vs H Q E h => ?_) (fun cdv A outer s H vs Q E hr h => ?_)
  · obtain ⟨a, C, dx, tx, f, p, b, rfl, _⟩ := h
    rfl
  · obtain ⟨a, C, dx, tx, f, p, b, rfl, hC, ha, k⟩ := h
    have nd := sc_Rest_init.nd
    refine ⟨_, (pss_cons (kps_fld K (kv (i := 0) v_Rest_init_self) (kv (i := 1) v_Rest_init_text))
      (pss_cons (kps_fld K (kv (i := 0) v_Rest_init_self) (kv (i := 2) v_Rest_init_forms))
      (pss_cons (kps_fld K (kv (i := 0) v_Rest_init_self) (kv (i := 3) v_Rest_init_period))
      (pss_one (kps_fld K (kv (i := 0) v_Rest_init_self) (kv (i := 4) v_Rest_init_bend)))))), ?_⟩
    walk_at "ss"
    refine k_putAt (ns := []) (vs := []) ha hC.cl hC.noText rfl (by decide +kernel) (by decide) ?_
    walk_at "ss"
    refine k_putTop hC.cl hC.noForms rfl (by decide +kernel) (by decide) ?_
    walk_at "ss"
    refine k_putTop hC.cl hC.noPeriod rfl (by decide +kernel) (by decide) ?_
    walk_at "ss"
    refine k_putTop hC.cl hC.noBend rfl (by decide +kernel) (by decide) ?_
    exact k
def spForms (T : Tx K mg) : Sp := fun vs H Q _ => ∃ F a p, vs = [.ref a] ∧ RestAt T F H a p ∧ Q (.int (p.forms : Nat)) H
def spPeriod (T : Tx K mg) : Sp := fun vs H Q _ => ∃ F a p, vs = [.ref a] ∧ RestAt T F H a p ∧ Q (.int p.period) H
def spBend (T : Tx K mg) : Sp := fun vs H Q _ => ∃ F a p, vs = [.ref a] ∧ RestAt T F H a p ∧ Q (.int p.bend) H
def spWritten (T : Tx K mg) : Sp := fun vs H Q _ => ∃ F a p, vs = [.ref a] ∧ RestAt T F H a p ∧ Q (.str p.tx) H
theorem pos4 {x : Str} {ns : List Str} {i : Nat} (h : pos? x n4 = some i) : pos? x (n4 ++ ns) = some i := by
  have key : ∀ (l : List Str) (i : Nat), pos? x l = some i → pos? x (l ++ ns) = some i := by
    intro l
    induction l with
    | nil => intro i h; cases h
    | cons n r ih =>
      intro i h
      unfold pos? at h
      show pos? x (n :: (r ++ ns)) = some i
      unfold pos?
      by_cases e : n == x
      · rw [if_pos e] at h ⊢
        exact h
      · rw [if_neg e] at h ⊢
        cases hp : pos? x r with
        | none => rw [hp] at h; cases h
        | some j =>
          rw [hp] at h
          rw [ih j hp]
          exact h
  exact key _ _ h
theorem ok_Rest_forms (T : Tx K mg) : FnOk P w K mg base CX0 1 T.a_Rest_forms T.fd_Rest_forms P_Rest_forms (spForms T) := by
  refine T.F_Rest_forms.ok sc_Rest_forms (fun vs H Q E h => ?_) (fun cdv A outer s H vs Q E hr h => ?_)
  · obtain ⟨F, a, p, rfl, _⟩ := h
    rfl
  · obtain ⟨F, a, p, rfl, ha, k⟩ := h
    obtain ⟨C, dx, ns, vs, hC, _, he⟩ := ha.four
    refine ⟨_, (pss_one (ps_ret (kpe_fld K (kv (i := 0) v_Rest_forms_self)))), ?_⟩
    walk_at "ss"
    exact k_fldAt he hC.cl hC.noForms (pos4 (x := "_forms") (i := 1) (by decide +kernel)) rfl k
theorem ok_Rest_period (T : Tx K mg) : FnOk P w K mg base CX0 1 T.a_Rest_period T.fd_Rest_period P_Rest_period (spPeriod T) := by
  refine T.F_Rest_period.ok sc_Rest_period (fun vs H Q E h => ?_) (fun cdv A outer s H vs Q E hr h => ?_)
  · obtain ⟨F, a, p, rfl, _⟩ := h
    rfl
  · obtain ⟨F, a, p, rfl, ha, k⟩ := h
    obtain ⟨C, dx, ns, vs, hC, _, he⟩ := ha.four
    refine ⟨_, (pss_one (ps_ret (kpe_fld K (kv (i := 0) v_Rest_period_self)))), ?_⟩
    walk_at "ss"
    exact k_fldAt he hC.cl hC.noPeriod (pos4 (x := "_period") (i := 2) (by decide +kernel)) rfl k
theorem ok_Rest_bend (T : Tx K mg) : FnOk P w K mg base CX0 1 T.a_Rest_bend T.fd_Rest_bend P_Rest_bend (spBend T) := by
  refine T.F_Rest_bend.ok sc_Rest_bend (fun vs H Q E h => ?_) (fun cdv A outer s H vs Q E hr h => ?_)
  · obtain ⟨F, a, p, rfl, _⟩ := h
    rfl
  · obtain ⟨F, a, p, rfl, ha, k⟩ := h
    obtain ⟨C, dx, ns, vs, hC, _, he⟩ := ha.four
    refine ⟨_, (pss_one (ps_ret (kpe_fld K (kv (i := 0) v_Rest_bend_self)))), ?_⟩
    walk_at "ss"
    exact k_fldAt he hC.cl hC.noBend (pos4 (x := "_bend") (i := 3) (by decide +kernel)) rfl k
theorem ok_Rest_written (T : Tx K mg) : FnOk P w K mg base CX0 1 T.a_Rest_written T.fd_Rest_written P_Rest_written (spWritten T) := by
  refine T.F_Rest_written.ok sc_Rest_written (fun vs H Q E h => ?_) (fun cdv A outer s H vs Q E hr h => ?_)
  · obtain ⟨F, a, p, rfl, _⟩ := h
    rfl
  · obtain ⟨F, a, p, rfl, ha, k⟩ := h
    obtain ⟨C, dx, ns, vs, hC, _, he⟩ := ha.four
    refine ⟨_, (pss_one (ps_ret (kpe_fld K (kv (i := 0) v_Rest_written_self)))), ?_⟩
    walk_at "ss"
    exact k_fldAt he hC.cl hC.noText (pos4 (x := "_text") (i := 0) (by decide +kernel)) rfl k
abbrev OneSp (T : Tx K mg) (sp0 : Sp) : Addr → Sp → Prop := fun C sp => IsC T C ∧ sp = sp0
theorem disp_forms (T : Tx K mg) : ∀ C sp, OneSp T (spForms T) C sp → ∃ g fd ps, Cls K C ∧ Meth K C "forms" g ∧ FnOk P w K mg base CX0 1 g fd ps sp ∧ Binds K fd ps [] := by
  rintro C sp ⟨hC, rfl⟩
  refine ⟨_, _, _, hC.cl, ?_, ok_Rest_forms T, T.b_Rest_forms⟩
  cases hC with
  | win => exact T.me_Window_forms
  | days => exact T.me_Days_forms
  | op o => cases o <;> first | exact T.me_Later_forms | exact T.me_Sooner_forms | exact T.me_Next_forms
theorem disp_period (T : Tx K mg) : ∀ C sp, OneSp T (spPeriod T) C sp → ∃ g fd ps, Cls K C ∧ Meth K C "period" g ∧ FnOk P w K mg base CX0 1 g fd ps sp ∧ Binds K fd ps [] := by
  rintro C sp ⟨hC, rfl⟩
  refine ⟨_, _, _, hC.cl, ?_, ok_Rest_period T, T.b_Rest_period⟩
  cases hC with
  | win => exact T.me_Window_period
  | days => exact T.me_Days_period
  | op o => cases o <;> first | exact T.me_Later_period | exact T.me_Sooner_period | exact T.me_Next_period
theorem disp_bend (T : Tx K mg) : ∀ C sp, OneSp T (spBend T) C sp → ∃ g fd ps, Cls K C ∧ Meth K C "bend" g ∧ FnOk P w K mg base CX0 1 g fd ps sp ∧ Binds K fd ps [] := by
  rintro C sp ⟨hC, rfl⟩
  refine ⟨_, _, _, hC.cl, ?_, ok_Rest_bend T, T.b_Rest_bend⟩
  cases hC with
  | win => exact T.me_Window_bend
  | days => exact T.me_Days_bend
  | op o => cases o <;> first | exact T.me_Later_bend | exact T.me_Sooner_bend | exact T.me_Next_bend
theorem disp_written (T : Tx K mg) : ∀ C sp, OneSp T (spWritten T) C sp → ∃ g fd ps, Cls K C ∧ Meth K C "written" g ∧ FnOk P w K mg base CX0 1 g fd ps sp ∧ Binds K fd ps [] := by
  rintro C sp ⟨hC, rfl⟩
  refine ⟨_, _, _, hC.cl, ?_, ok_Rest_written T, T.b_Rest_written⟩
  cases hC with
  | win => exact T.me_Window_written
  | days => exact T.me_Days_written
  | op o => cases o <;> first | exact T.me_Later_written | exact T.me_Sooner_written | exact T.me_Next_written
end

section
variable {w : World} {K : PySem.W.Frag} {mg : Str → Option Value} {base : Heap}
/-- a method that no rest has in its own dict -/
theorem no_meth {m : Str} {ns : List Str} {vs : List V} (h : nin m n4 = true) (h1 : nin m ["width", "every", "_borders", "first", "second"] = true) (hn : ns = nW1 ∨ ns = nD1 ∨ ns = nO1) : (FL (n4 ++ ns) vs).lookup m = none := by
  refine fl_no ?_
  unfold nin at h1
  simp only [nin, Bool.and_eq_true] at h h1 ⊢
  rcases hn with rfl | rfl | rfl <;> simp [nin, h, h1]
theorem k_rest {T : Tx K mg} {F : Addr → Prop} {H : Hp} {a : Addr} {p : Plan} {m : Str} {E : XK} {sp0 : Sp} {σ : L2.St} {Q : VK} {ta : TE} (ha : RestAt T F H a p) (h : nin m n4 = true) (h1 : nin m ["width", "every", "_borders", "first", "second"] = true)
    (hσ : ∀ Q : VK, Q (.ref a) H → ta σ H Q) (k : sp0 [.ref a] H Q E) : tMethP (OneSp T sp0) m E ta tNil σ H Q := by
  obtain ⟨C, dx, ns, vs, hC, hn, he⟩ := ha.four
  refine hσ _ ?_
  exact ⟨a, C, dx, _, sp0, rfl, he, ⟨hC, rfl⟩, no_meth h h1 hn, k⟩
theorem k_gRest {T : Tx K mg} {H : Hp} {v : V} {Q : VK} (h : Gv H v) (k : Q (.bl false) H) : rIsi K [v, .ref T.C_Rest] H Q := by
  cases h with
  | int i => exact k_isiO (TyX.base (.int _)) T.kb_int_Rest k
  | str z h => exact k_isiO (TyX.base (.str _)) T.kb_str_Rest k
  | bl b => exact k_isiO (TyX.base (.bl _)) T.kb_bool_Rest k
  | non => exact k_isiO (TyX.base .non) T.kb_NoneType_Rest k
  | lst h => exact k_isiO (TyX.base (.lst h)) T.kb_list_Rest k
  | tup h => exact k_isiO (TyX.base (.tup h)) T.kb_tuple_Rest k
  | dic h => exact k_isiO (TyX.base (.dK h)) T.kb_dict_Rest k
theorem RestAt.noG {T : Tx K mg} {F : Addr → Prop} {H : Hp} {a : Addr} {p : Plan} (h : RestAt T F H a p) (g : Gv H (.ref a)) : False := by
  obtain ⟨C, dx, ns, vs, hC, hn, he⟩ := h.four
  cases g with
  | lst h => rw [he] at h; cases h
  | tup h => rw [he] at h; cases h
  | dic h => rw [he] at h; cases h
def spRestStr (T : Tx K mg) : Sp := fun vs H Q _ => ∃ F a p, vs = [.ref a] ∧ RestAt T F H a p ∧ Q (.str p.tx) H
theorem ok_Rest_str (T : Tx K mg) : FnOk P w K mg base CX0 1 T.a_Rest_str T.fd_Rest_str P_Rest_str (spRestStr T) := by
  refine T.F_Rest_str.ok sc_Rest_str (fun vs H Q E h => ?_) (fun cdv A outer s H vs Q E hr h => ?_)
  · obtain ⟨F, a, p, rfl, _⟩ := h
    rfl
  · obtain ⟨F, a, p, rfl, ha, k⟩ := h
    obtain ⟨C, dx, ns, vs, hC, _, he⟩ := ha.four
    refine ⟨_, (pss_one (ps_ret (kcT b_str (by decide) (by decide) SkE.call_str_str g_Rest_str_str T.n_str (pa_cons (kpe_fld K (kv (i := 0) v_Rest_str_self)) pa_nil)))), ?_⟩
    walk_at "ss"
    refine k_fldAt he hC.cl hC.noText (pos4 (x := "_text") (i := 0) (by decide +kernel)) rfl ?_
    exact ⟨_, rfl, k⟩
def reprTx (p : Plan) : Str := Str.empty ++ ("Rest(" : Str) ++ p.tx ++ (")" : Str)
def spRestRepr (T : Tx K mg) : Sp := fun vs H Q _ => ∃ F a p, vs = [.ref a] ∧ RestAt T F H a p ∧ p.tx.length ≤ 1000 ∧ Q (.str (reprTx p)) H
theorem ok_Rest_repr (T : Tx K mg) : FnOk P w K mg base CX0 1 T.a_Rest_repr T.fd_Rest_repr P_Rest_repr (spRestRepr T) := by
  refine T.F_Rest_repr.ok sc_Rest_repr (fun vs H Q E h => ?_) (fun cdv A outer s H vs Q E hr h => ?_)
  · obtain ⟨F, a, p, rfl, _⟩ := h
    rfl
  · obtain ⟨F, a, p, rfl, ha, hl, k⟩ := h
    obtain ⟨C, dx, ns, vs, hC, _, he⟩ := ha.four
    have l1 : ("Rest(" : Str).length = 5 := by decide +kernel
    have l2 : (")" : Str).length = 1 := by decide +kernel
    refine ⟨_, (pss_one (ps_ret (pe_joined (.cons pe_str (.cons (pe_fmt (kpe_fld K (kv (i := 0) v_Rest_repr_self))) (.cons pe_str .nil)))))), ?_⟩
    walk_at "ss"
    refine k_jsV (by simp only [PySem.Str.length_append, len_empty, l1]; omega) ?_
    walk_at "ss"
    refine k_fldAt he hC.cl hC.noText (pos4 (x := "_text") (i := 0) (by decide +kernel)) rfl ?_
    refine k_fmtS (by omega) ?_
    refine k_jsV (by simp only [PySem.Str.length_append, len_empty, l1]; omega) ?_
    walk_at "ss"
    refine k_jsV (by simp only [PySem.Str.length_append, len_empty, l1, l2]; omega) ?_
    walk_at "ss"
    exact k
/-- data, or a text of any length -/
def Gx (H : Hp) (y : V) : Prop := Gv H y ∨ ∃ z : Str, y = .str z
theorem k_gxRest {T : Tx K mg} {H : Hp} {v : V} {Q : VK} (h : Gx H v) (k : Q (.bl false) H) : rIsi K [v, .ref T.C_Rest] H Q := by
  rcases h with h | ⟨z, rfl⟩
  · exact k_gRest h k
  · exact k_isiO (TyX.base (.str _)) T.kb_str_Rest k
def spRestEq (T : Tx K mg) : Sp := fun vs H Q _ => ∃ (F : Addr → Prop) (a : Addr) (p : Plan) (y : V), vs = [.ref a, y] ∧ RestAt T F H a p ∧ ((Gx H y ∧ Q (.bl false) H) ∨ ∃ (F2 : Addr → Prop) (b : Addr) (q : Plan), y = .ref b ∧ RestAt T F2 H b q ∧ Q (.bl (decide (p.tx = q.tx))) H)
theorem ok_Rest_eq (T : Tx K mg) : FnOk P w K mg base CX0 1 T.a_Rest_eq T.fd_Rest_eq P_Rest_eq (spRestEq T) := by
  refine T.F_Rest_eq.ok sc_Rest_eq (fun vs H Q E h => ?_) (fun cdv A outer s H vs Q E hr h => ?_)
  · obtain ⟨F, a, p, y, rfl, _⟩ := h
    rfl
  · obtain ⟨F, a, p, y, rfl, ha, hy⟩ := h
    obtain ⟨C, dx, ns, vs, hC, hn, he⟩ := ha.four
    refine ⟨_, (pss_one (ps_ret (pe_and (kcB b_isinstance (by decide) (by decide) (kc_isi K) g_Rest_eq_isinstance T.n_isinstance (pa_cons (kv (i := 1) v_Rest_eq_other) (pa_cons (kcls g_Rest_eq_Rest T.m_Rest) pa_nil))) (pe_one (pe_cmpR op_eq (kpe_fld K (kv (i := 0) v_Rest_eq_self)) (kpe_fld K (kv (i := 1) v_Rest_eq_other)) (nomark _)))))), ?_⟩
    walk_at "ss"
    rcases hy with ⟨g, k⟩ | ⟨F2, b, q, rfl, hb, k⟩
    · refine k_gxRest g ?_
      walk_at "ss"
      exact k
    · obtain ⟨C2, dx2, ns2, vs2, hC2, hn2, he2⟩ := hb.four
      refine k_isiO (ty_own hC2.ty he2) hC2.kt ?_
      walk_at "ss"
      refine k_fldAt he hC.cl hC.noText (pos4 (x := "_text") (i := 0) (by decide +kernel)) rfl ?_
      walk_at "ss"
      refine k_fldAt he2 hC2.cl hC2.noText (pos4 (x := "_text") (i := 0) (by decide +kernel)) rfl ?_
      refine k_eq rfl ?_
      have e : decide (V.str p.tx = V.str q.tx) = decide (p.tx = q.tx) := by simp
      rw [e]
      exact k
/-! ### the arguments of a rest of two -/
inductive ArgAt (T : Tx K mg) (F : Addr → Prop) (H : Hp) : V → Option Plan → Prop where
  | dat {v : V} (g : Gv H v) : ArgAt T F H v none
  | rest {a : Addr} {p : Plan} (h : RestAt T F H a p) (ok : p.Ok) : ArgAt T F H (.ref a) (some p)
theorem Gv.ext {H H' : Hp} {v : V} (h : Gv H v) (e : LamX.ExtN H H') : Gv H' v := by
  cases h with
  | int i => exact .int i
  | str z h => exact .str z h
  | bl b => exact .bl b
  | non => exact .non
  | lst h => exact .lst (e _ _ h (fun ps z => by cases z))
  | tup h => exact .tup (e _ _ h (fun ps z => by cases z))
  | dic h => exact .dic (e _ _ h (fun ps z => by cases z))
theorem ArgAt.up {T : Tx K mg} {F : Addr → Prop} {H H' : Hp} {v : V} {o : Option Plan} (h : ArgAt T F H v o) (e : Same H H') : ArgAt T F H' v o := by
  cases h with
  | dat g => exact .dat (g.up e)
  | rest h ok => exact .rest (h.up e) ok
theorem ArgAt.ext {T : Tx K mg} {F : Addr → Prop} {H H' : Hp} {v : V} {o : Option Plan} (h : ArgAt T F H v o) (e : LamX.ExtN H H') : ArgAt T F H' v o := by
  cases h with
  | dat g => exact .dat (g.ext e)
  | rest h ok => exact .rest (h.ext e) ok
def pairBad (x : V) (px : Option Plan) (y : V) (py : Option Plan) : Option Ev := match px, py with
  | none, _ => some (.rest x)
  | some _, none => some (.rest y)
  | some p, some q => if 6 < 1 + p.forms + q.forms then some (.many "forms" ((1 + p.forms + q.forms : Nat) : Int)) else if 2000 < lcmI p.period q.period then some (.many "period" (lcmI p.period q.period)) else none
theorem pairBad_none {x y : V} {px py : Option Plan} (h : pairBad x px y py = none) : ∃ p q, px = some p ∧ py = some q ∧ 1 + p.forms + q.forms ≤ 6 ∧ lcmI p.period q.period ≤ 2000 := by
  cases px with
  | none => cases h
  | some p =>
    cases py with
    | none => cases h
    | some q =>
      refine ⟨p, q, rfl, rfl, ?_⟩
      unfold pairBad at h
      by_cases h1 : 6 < 1 + p.forms + q.forms
      · simp [h1] at h
      · by_cases h2 : 2000 < lcmI p.period q.period
        · simp [h1, h2] at h
        · omega
def spJoined (T : Tx K mg) : Sp := fun vs H Q E => ∃ (F : Addr → Prop) (o : Op) (x y : V) (px py : Option Plan), vs = [.str (opS o), x, y] ∧ ArgAt T F H x px ∧ ArgAt T F H y py ∧ (∀ e, pairBad x px y py = some e → Goes T H E e) ∧
  (pairBad x px y py = none → ∀ p q, px = some p → py = some q → ∀ (t : Addr) (H' : Hp), Same H H' → H' t = some (.tup [.str (Plan.op o p q).tx, .int ((Plan.op o p q).forms : Nat), .int (Plan.op o p q).period, .int (Plan.op o p q).bend]) → Q (.ref t) H')
theorem ok_joined (T : Tx K mg) : FnOk P w K mg base (L2.CX P w) 3 T.a_joined T.fd_joined P_joined (spJoined T) := by
  refine T.F_joined.okX sc_joined (fun vs H Q E h => ?_) (fun cdv A outer s H vs Q E hr h => ?_)
  · obtain ⟨F, o, x, y, px, py, rfl, _⟩ := h
    rfl
  · obtain ⟨F, o, x, y, px, py, rfl, hx, hy, kb, k⟩ := h
    have nd := sc_joined.nd
    refine ⟨_, (pss_cons (ps_for (passes_of rfl) rfl (kpi_tup K (pe_tup (pa_cons (kv (i := 1) v_joined_first) (pa_cons (kv (i := 2) v_joined_second) pa_nil)))) (kgL (i := 3) nd l_joined_value) (pss_one (ps_if (pt_not (pt_val (kcB b_isinstance (by decide) (by decide) (kc_isi K) g_joined_isinstance T.n_isinstance (pa_cons (kv (i := 3) v_joined_value) (pa_cons (kcls g_joined_Rest T.m_Rest) pa_nil))))) (pss_one (ps_raise rfl (takes_of rfl rfl rfl rfl) (pmk_oex T.oex_InvalidRest T.ii_InvalidRest T.ti_InvalidRest (ok_InvalidRest_init T) (hr.mono (by first | decide | omega)) T.b_InvalidRest_init .nil pass0 g_joined_InvalidRest T.m_InvalidRest (pa_cons (kv (i := 3) v_joined_value) pa_nil)))) pss_nil)))
      (pss_cons (ks_setL (i := 4) nd l_joined_forms (pe_op kop_add (pe_op kop_add pe_int (kpe_methP0 (disp_forms T) (hr.mono (by decide)) pass0 (kv (i := 1) v_joined_first))) (kpe_methP0 (disp_forms T) (hr.mono (by decide)) pass0 (kv (i := 2) v_joined_second))))
      (pss_cons (ps_if (pt_cmpR op_gt (kv (i := 4) v_joined_forms) (pe_glob g_joined_FORMS T.m_FORMS T.r_FORMS) (nomark _)) (pss_one (ps_raise rfl (takes_of rfl rfl rfl rfl) (pmk_oex T.oex_TooMany T.ii_TooMany T.ti_TooMany (ok_TooMany_init T) (hr.mono (by first | decide | omega)) T.b_TooMany_init .nil pass0 g_joined_TooMany T.m_TooMany (pa_cons pe_str (pa_cons (kv (i := 4) v_joined_forms) pa_nil))))) pss_nil)
      (pss_cons (ks_setL (i := 5) nd l_joined_period (pe_callBfun kcr_lcm g_joined_lcm T.m_lcm (pa_cons (kpe_methP0 (disp_period T) (hr.mono (by decide)) pass0 (kv (i := 1) v_joined_first)) (pa_cons (kpe_methP0 (disp_period T) (hr.mono (by decide)) pass0 (kv (i := 2) v_joined_second)) pa_nil))))
      (pss_cons (ps_if (pt_cmpR op_gt (kv (i := 5) v_joined_period) (pe_glob g_joined_PERIOD T.m_PERIOD T.r_PERIOD) (nomark _)) (pss_one (ps_raise rfl (takes_of rfl rfl rfl rfl) (pmk_oex T.oex_TooMany T.ii_TooMany T.ti_TooMany (ok_TooMany_init T) (hr.mono (by first | decide | omega)) T.b_TooMany_init .nil pass0 g_joined_TooMany T.m_TooMany (pa_cons pe_str (pa_cons (kv (i := 5) v_joined_period) pa_nil))))) pss_nil)
      (pss_cons (ks_setL (i := 6) nd l_joined_bend (kcB b_max (by decide) (by decide) (kc_max2 rfl) g_joined_max T.n_max (pa_cons (kpe_methP0 (disp_bend T) (hr.mono (by decide)) pass0 (kv (i := 1) v_joined_first)) (pa_cons (kpe_methP0 (disp_bend T) (hr.mono (by decide)) pass0 (kv (i := 2) v_joined_second)) pa_nil))))
      (pss_one (ps_ret (pe_tup (pa_cons (pe_joined (.cons (pe_fmt (kv (i := 0) v_joined_word)) (.cons pe_str (.cons (pe_fmt (kpe_methP0 (disp_written T) (hr.mono (by decide)) pass0 (kv (i := 1) v_joined_first))) (.cons pe_str (.cons (pe_fmt (kpe_methP0 (disp_written T) (hr.mono (by decide)) pass0 (kv (i := 2) v_joined_second))) (.cons pe_str .nil))))))) (pa_cons (kv (i := 4) v_joined_forms) (pa_cons (kv (i := 5) v_joined_period) (pa_cons (kv (i := 6) v_joined_bend) pa_nil))))))))))))), ?_⟩
    walk_at "ss"
    intro tp np
    generalize eH : upd H tp _ = H1
    have e1 := upd_sm eH np
    have htp := upd_at eH
    clear eH
    have hx1 := hx.up e1
    have hy1 := hy.up e1
    refine k_iT (SqT.of htp) ?_
    refine k_forTup [x, y] (fun i σ H' => H1 = H' ∧ (∃ v, σ = [some (.str (opS o)), some x, some y, v, none, none, none]) ∧ (1 ≤ i → px.isSome = true) ∧ (2 ≤ i → py.isSome = true)) ⟨rfl, ⟨none, rfl⟩, fun h => absurd h (by decide), fun h => absurd h (by decide)⟩ ?_ ?_ ?_
    · rintro i σ H' _ ⟨rfl, _⟩
      exact SqT.of htp
    · rintro i z σ H' hi ⟨rfl, ⟨v, rfl⟩, n1, n2⟩
      have hz : (i = 0 ∧ z = x) ∨ (i = 1 ∧ z = y) := by
        match i, hi with
        | 0, hi => exact .inl ⟨rfl, (Option.some.inj hi).symm⟩
        | 1, hi => exact .inr ⟨rfl, (Option.some.inj hi).symm⟩
        | i + 2, hi => cases hi
      have hzA : ∃ pz, ArgAt T F H1 z pz ∧ (pz = none → Goes T H1 E (.rest z)) ∧ (pz.isSome = true → (1 ≤ i + 1 → px.isSome = true) ∧ (2 ≤ i + 1 → py.isSome = true)) := by
        rcases hz with ⟨rfl, rfl⟩ | ⟨rfl, rfl⟩
        · exact ⟨px, hx1, fun h => (kb _ (by unfold pairBad; rw [h])).up e1, fun h => ⟨fun _ => h, fun z => absurd z (by decide)⟩⟩
        · refine ⟨py, hy1, fun h => (kb _ ?_).up e1, fun h => ⟨fun _ => n1 (by decide), fun _ => h⟩⟩
          obtain ⟨p, hp⟩ := Option.isSome_iff_exists.mp (n1 (by decide))
          unfold pairBad
          rw [hp, h]
      obtain ⟨pz, hA, hbad, hgo⟩ := hzA
      walk_at "ss"
      cases hA with
      | dat g =>
        refine k_gRest g ?_
        walk_at "ss"
        show tMkO _ _ _ _ _ _ _
        refine k_mkO ?_
        walk_at "ss"
        exact raise_InvalidRest T (hbad rfl)
      | rest hc ok =>
        obtain ⟨C, dx, ns, vs, hC, hn, he⟩ := hc.four
        refine k_isiO (ty_own hC.ty he) hC.kt ?_
        walk_at "ss"
        exact ⟨rfl, ⟨_, rfl⟩, hgo rfl⟩
    · rintro σ H' ⟨rfl, ⟨v, rfl⟩, n1, n2⟩
      obtain ⟨p, rfl⟩ := Option.isSome_iff_exists.mp (n1 (by simp))
      obtain ⟨q, rfl⟩ := Option.isSome_iff_exists.mp (n2 (by simp))
      cases hx1 with
      | @rest a _ ha1 op =>
      cases hy1 with
      | @rest b _ hb1 oq =>
      have hbd : pairBad (.ref a) (some p) (.ref b) (some q) = if 6 < 1 + p.forms + q.forms then some (.many "forms" ((1 + p.forms + q.forms : Nat) : Int)) else if 2000 < lcmI p.period q.period then some (.many "period" (lcmI p.period q.period)) else none := rfl
      walk_at "ss"
      refine k_rest ha1 (by decide +kernel) (by decide +kernel) (fun Q q => ⟨_, rfl, q⟩) ⟨F, a, p, rfl, ha1, ?_⟩
      walk_at "ss"
      refine k_rest hb1 (by decide +kernel) (by decide +kernel) (fun Q q => ⟨_, rfl, q⟩) ⟨F, b, q, rfl, hb1, ?_⟩
      walk_at "ss"
      have ef : (1 : Int) + (p.forms : Nat) + (q.forms : Nat) = ((1 + p.forms + q.forms : Nat) : Int) := by omega
      rw [ef]
      refine k_d (fun hf => ?_) (fun hf => ?_)
      · walk_at "ss"
        show tMkO _ _ _ _ _ _ _
        refine k_mkO ?_
        walk_at "ss"
        exact raise_TooMany T (Goes.up (kb (.many "forms" _) (by rw [hbd, if_pos (by omega)])) e1)
      · walk_at "ss"
        refine k_rest ha1 (by decide +kernel) (by decide +kernel) (fun Q q => ⟨_, rfl, q⟩) ⟨F, a, p, rfl, ha1, ?_⟩
        walk_at "ss"
        refine k_rest hb1 (by decide +kernel) (by decide +kernel) (fun Q q => ⟨_, rfl, q⟩) ⟨F, b, q, rfl, hb1, ?_⟩
        walk_at "ss"
        have pp := period_pos op
        have pq := period_pos oq
        refine ⟨p.period, q.period, rfl, by omega, by omega, by omega, by omega, ?_⟩
        walk_at "ss"
        show if decide (2000 < lcmI p.period q.period) = true then _ else _
        refine k_d (fun hp => ?_) (fun hp => ?_)
        · walk_at "ss"
          show tMkO _ _ _ _ _ _ _
          refine k_mkO ?_
          walk_at "ss"
          exact raise_TooMany T (Goes.up (kb (.many "period" (lcmI p.period q.period)) (by rw [hbd, if_neg (by omega), if_pos hp])) e1)
        · walk_at "ss"
          refine k_rest ha1 (by decide +kernel) (by decide +kernel) (fun Q q => ⟨_, rfl, q⟩) ⟨F, a, p, rfl, ha1, ?_⟩
          walk_at "ss"
          refine k_rest hb1 (by decide +kernel) (by decide +kernel) (fun Q q => ⟨_, rfl, q⟩) ⟨F, b, q, rfl, hb1, ?_⟩
          walk_at "ss"
          have t0 := opS_len o
          have t1 := tx_len op
          have t2 := tx_len oq
          have l1 : ("(" : Str).length = 1 := by decide +kernel
          have l2 : (", " : Str).length = 2 := by decide +kernel
          have l3 : (")" : Str).length = 1 := by decide +kernel
          refine k_fmtS (by omega) ?_
          refine k_jsV (by simp only [PySem.Str.length_append, len_empty]; omega) ?_
          walk_at "ss"
          refine k_jsV (by simp only [PySem.Str.length_append, len_empty, l1]; omega) ?_
          walk_at "ss"
          refine k_rest ha1 (by decide +kernel) (by decide +kernel) (fun Q q => ⟨_, rfl, q⟩) ⟨F, a, p, rfl, ha1, ?_⟩
          refine k_fmtS (by omega) ?_
          refine k_jsV (by simp only [PySem.Str.length_append, len_empty, l1]; omega) ?_
          walk_at "ss"
          refine k_jsV (by simp only [PySem.Str.length_append, len_empty, l1, l2]; omega) ?_
          walk_at "ss"
          refine k_rest hb1 (by decide +kernel) (by decide +kernel) (fun Q q => ⟨_, rfl, q⟩) ⟨F, b, q, rfl, hb1, ?_⟩
          refine k_fmtS (by omega) ?_
          refine k_jsV (by simp only [PySem.Str.length_append, len_empty, l1, l2]; omega) ?_
          walk_at "ss"
          refine k_jsV (by simp only [PySem.Str.length_append, len_empty, l1, l2, l3]; omega) ?_
          walk_at "ss"
          intro t nt
          exact k (by rw [hbd, if_neg (by omega), if_neg hp]) p q rfl rfl t _ (e1.trans (same_new nt)) upd_same
end

section
variable {w : World} {K : PySem.W.Frag} {mg : Str → Option Value} {base : Heap}
def spWinInit (T : Tx K mg) : Sp := fun vs H Q E => ∃ (F : Addr → Prop) (a dx : Addr) (v : V), vs = [.ref a, v] ∧ Gv H v ∧ H a = some (.ins T.C_Window dx []) ∧ (numV v 1 1000 = false → Goes T H E (.num v)) ∧ (∀ n, v = .int n → 1 ≤ n → n ≤ 1000 → ∀ H', SameBut a H H' → RestAt T F H' a (.win n) → Q .non H')
theorem ok_Window_init (T : Tx K mg) : FnOk P w K mg base (L2.CX P w) 3 T.a_Window_init T.fd_Window_init P_Window_init (spWinInit T) := by
  obtain ⟨cl, cld, csl, hce⟩ := T.ce_Window_init
  refine funS_okX T.F_Window_init sc_Window_init hce (fun vs H Q E h => ?_) (fun A outer s H vs Q E hr h => ?_)
  · obtain ⟨F, a, dx, v, rfl, _⟩ := h
    rfl
  · obtain ⟨F, a, dx, v, rfl, hv, ha, kb, k⟩ := h
    have nd := sc_Window_init.nd
    refine ⟨_, (psa_cons (pst_of (ps_if (pt_not (pt_val (pe_call (ok_is_number T) (hr.mono (by first | decide | omega)) g_Window_init_is_number T.m_is_number T.k_is_number T.b_is_number .nil pass0 (pa_cons (kv (i := 1) v_Window_init_width) (pa_cons pe_int (pa_cons pe_int pa_nil)))))) (pss_one (ps_raise rfl (takes_of rfl rfl rfl rfl) (pmk_oex T.oex_InvalidNumber T.ii_InvalidNumber T.ti_InvalidNumber (ok_InvalidNumber_init T) (hr.mono (by first | decide | omega)) T.b_InvalidNumber_init .nil pass0 g_Window_init_InvalidNumber T.m_InvalidNumber (pa_cons (kv (i := 1) v_Window_init_width) pa_nil)))) pss_nil))
      (psa_cons (kpst_super K T.sd_Window_init rfl rfl g_Window_init_super fr_Window_init cc_look rfl (locB_ok l_Window_init_self) (by decide) (ok_Rest_init T) (hr.mono (by decide)) T.b_Rest_init .nil pass0 (pa_cons (pe_joined (.cons pe_str (.cons (pe_fmt (kv (i := 1) v_Window_init_width)) .nil))) (pa_cons pe_int (pa_cons pe_int (pa_cons pe_int pa_nil)))))
      (psa_one (pst_of (kps_fld K (kv (i := 0) v_Window_init_self) (kv (i := 1) v_Window_init_width)))))), ?_⟩
    walk_at "ss"
    refine ⟨v, 1, 1000, rfl, hv, ?_⟩
    cases e : numV v 1 1000 with
    | false =>
      walk_at "ss"
      show tMkO _ _ _ _ _ _ _
      refine k_mkO ?_
      walk_at "ss"
      exact raise_InvalidNumber T (kb e)
    | true =>
      obtain ⟨n, rfl, h0, h1⟩ := numV_i e
      walk_at "ss"
      refine k_sup rfl ha T.su_Window fun q H1 nq e1 s1 hq => ?_
      walk_at "ss"
      have l1 : ("window " : Str).length = 7 := by decide +kernel
      have l2 : (Str.ofString (toString n)).length ≤ 5 := len_text (k := 4) (by decide) (by omega)
      refine k_jsV (by simp only [PySem.Str.length_append, len_empty, l1]; omega) ?_
      walk_at "ss"
      refine k_fmtI (by omega) ?_
      refine k_jsV (by simp only [PySem.Str.length_append, len_empty, l1]; omega) ?_
      walk_at "ss"
      refine ⟨hq, ?_⟩
      refine ⟨a, _, dx, _, 1, 1, 0, rfl, .win, s1 _ _ ha, ?_⟩
      walk_at "ss"
      refine k_putTop T.cl_Window T.no_Window_width rfl (by decide +kernel) (by decide) ?_
      exact k n rfl h0 h1 _ ((SameBut.of s1).put) (.win upd_same)
/-! ### days -/
theorem k_gSeq {H : Hp} {v : V} {p : Addr} {Q : VK} (h : Gv H v) (hp : H p = some (.tup [.ty "list", .ty "tuple"])) (kt : ∀ a xs, v = .ref a → SqAt H a xs → Q (.bl true) H) (kf : (∀ a xs, v = .ref a → ¬ SqAt H a xs) → Q (.bl false) H) : rIsiT K [v, .ref p] H Q := by
  have no : ∀ a, v = .ref a → (∀ xs, H a ≠ some (.lst xs)) → (∀ xs, H a ≠ some (.tup xs)) → ∀ b xs, v = .ref b → ¬ SqAt H b xs := fun a e n1 n2 b xs e2 q => by
    rw [e] at e2
    cases e2
    exact q.elim (n1 xs) (n2 xs)
  cases h with
  | int i => exact k_isiT hp (TyX.base (.int _)) kb_int_list kb_int_tuple (kf fun a xs e => by cases e)
  | str z h => exact k_isiT hp (TyX.base (.str _)) kb_str_list kb_str_tuple (kf fun a xs e => by cases e)
  | bl b => exact k_isiT hp (TyX.base (.bl _)) kb_bool_list kb_bool_tuple (kf fun a xs e => by cases e)
  | non => exact k_isiT hp (TyX.base .non) kb_NoneType_list kb_NoneType_tuple (kf fun a xs e => by cases e)
  | lst h => exact k_isiT hp (TyX.base (.lst h)) kb_list_list kb_list_tuple (kt _ _ rfl (.inl h))
  | tup h => exact k_isiT hp (TyX.base (.tup h)) kb_tuple_list kb_tuple_tuple (kt _ _ rfl (.inr h))
  | dic h => exact k_isiT hp (TyX.base (.dK h)) kb_dict_list kb_dict_tuple (kf (no _ rfl (fun xs z => by rw [h] at z; cases z) (fun xs z => by rw [h] at z; cases z)))
def vInt : V → Int
  | .int i => i
  | _ => 0
def bordBad : Int → Nat → List V → Option Nat
  | _, _, [] => none
  | lo, i, x :: r => if numV x lo 1000 = true then bordBad (vInt x + 1) (i + 1) r else some i
theorem bordBad_cons (lo : Int) (i : Nat) (x : V) (r : List V) : bordBad lo i (x :: r) = if numV x lo 1000 = true then bordBad (vInt x + 1) (i + 1) r else some i := rfl
def dayBad (xs : List V) (g : V) : Option Ev := if 12 < xs.length then some (.many "borders" (xs.length : Nat)) else match bordBad 1 0 xs with
  | some i => some (.bord (.int (i : Nat)))
  | none => if numV g 1 2000 = true then none else some (.num g)
theorem asc_snoc : ∀ {l c : Int} {bs : List Int}, Asc l bs → bs.getLast?.getD l < c → Asc l (bs ++ [c])
  | _, _, [], _, h => ⟨h, trivial⟩
  | l, c, [x], h, hc => ⟨h.1, hc, trivial⟩
  | l, c, x :: y :: r, h, hc => ⟨h.1, asc_snoc h.2 (by
      rw [List.getLast?_cons_cons] at hc
      cases hz : (y :: r).getLast? with
      | none => simp at hz
      | some z => rw [hz] at hc; exact hc)⟩
theorem baseOf_snoc (l : List Int) (b : Int) : baseOf (l ++ [b]) = b := by simp [baseOf]
/-- the borders judged so far -/
structure Done (xs : List V) (dn : List Int) (rs : List V) : Prop where
  eq : xs = dn.map V.int ++ rs
  asc : Asc 0 dn
  le : ∀ b ∈ dn, b ≤ 1000
  bad : bordBad 1 0 xs = bordBad (baseOf dn + 1) dn.length rs
theorem Done.nil (xs : List V) : Done xs [] xs := ⟨rfl, trivial, fun b hb => (by cases hb), rfl⟩
theorem Done.step {xs : List V} {dn : List Int} {c : Int} {rs : List V} (h : Done xs dn (.int c :: rs)) (h0 : baseOf dn + 1 ≤ c) (h1 : c ≤ 1000) : Done xs (dn ++ [c]) rs := by
  refine ⟨by rw [h.eq]; simp, asc_snoc h.asc (by unfold baseOf at h0; omega), fun b hb => ?_, ?_⟩
  · rcases List.mem_append.mp hb with hb | hb
    · exact h.le b hb
    · rw [List.mem_singleton.mp hb]; exact h1
  · rw [h.bad, baseOf_snoc, List.length_append, bordBad_cons, if_pos (numV_t h0 h1)]
    rfl
theorem Done.stop {xs : List V} {dn : List Int} {x : V} {rs : List V} (h : Done xs dn (x :: rs)) (h0 : numV x (baseOf dn + 1) 1000 = false) : bordBad 1 0 xs = some dn.length := by
  rw [h.bad, bordBad_cons, if_neg (by rw [h0]; decide)]
theorem Done.next {xs : List V} {dn : List Int} {rs : List V} {x : V} {i : Nat} (h : Done xs dn rs) (hi : dn.length = i) (hx : xs[i]? = some x) : ∃ r, rs = x :: r := by
  cases rs with
  | nil =>
    have hl := (List.getElem?_eq_some_iff.mp hx).1
    rw [h.eq, List.append_nil, List.length_map] at hl
    omega
  | cons c r =>
    rw [h.eq, List.getElem?_append_right (by simp [hi]), List.length_map, hi] at hx
    simp at hx
    exact ⟨r, by rw [hx]⟩
theorem Done.all {xs : List V} {dn : List Int} {rs : List V} (h : Done xs dn rs) (hl : dn.length = xs.length) : xs = dn.map V.int ∧ bordBad 1 0 xs = none := by
  have e : rs = [] := by
    have := congrArg List.length h.eq
    rw [List.length_append, List.length_map] at this
    exact List.length_eq_zero_iff.mp (by omega)
  subst e
  exact ⟨by rw [h.eq, List.append_nil], by rw [h.bad]; rfl⟩
theorem dayBad_many {xs : List V} {g : V} (h : 12 < xs.length) : dayBad xs g = some (.many "borders" (xs.length : Nat)) := by unfold dayBad; rw [if_pos h]
theorem dayBad_bord {xs : List V} {g : V} {i : Nat} (h : ¬ 12 < xs.length) (e : bordBad 1 0 xs = some i) : dayBad xs g = some (.bord (.int (i : Nat))) := by unfold dayBad; rw [if_neg h, e]
theorem dayBad_num {xs : List V} {g : V} (h : ¬ 12 < xs.length) (e : bordBad 1 0 xs = none) (n : numV g 1 2000 = false) : dayBad xs g = some (.num g) := by unfold dayBad; rw [if_neg h, e]; dsimp only; rw [if_neg (by rw [n]; decide)]
theorem dayBad_none {xs : List V} {g : V} (h : ¬ 12 < xs.length) (e : bordBad 1 0 xs = none) (n : numV g 1 2000 = true) : dayBad xs g = none := by unfold dayBad; rw [if_neg h, e]; dsimp only; rw [if_pos n]
def spDaysInit (T : Tx K mg) : Sp := fun vs H Q E => ∃ (F : Addr → Prop) (a dx : Addr) (vb vg : V), (∀ x, F x → H x ≠ none) ∧ vs = [.ref a, vb, vg] ∧ H a = some (.ins T.C_Days dx []) ∧ Gv H vb ∧ Gv H vg ∧ ((∀ l xs, vb = .ref l → ¬ SqAt H l xs) → Goes T H E (.bord (.int (-1)))) ∧
  ∀ l xs, vb = .ref l → SqAt H l xs → xs.length ≤ 50 ∧ (∀ x ∈ xs, Gv H x) ∧ (∀ e, dayBad xs vg = some e → Goes T H E e) ∧ (dayBad xs vg = none → ∀ bs p, xs = bs.map V.int → vg = .int p → (Plan.days bs p).Ok → ∀ H', SameBut a H H' → RestAt T F H' a (.days bs p) → Q .non H')
theorem ok_Days_init (T : Tx K mg) : FnOk P w K mg base (L2.CX P w) 3 T.a_Days_init T.fd_Days_init P_Days_init (spDaysInit T) := by
  obtain ⟨cl, cld, csl, hce⟩ := T.ce_Days_init
  refine funS_okX T.F_Days_init sc_Days_init hce (fun vs H Q E h => ?_) (fun A outer s H vs Q E hr h => ?_)
  · obtain ⟨F, a, dx, vb, vg, _, rfl, _⟩ := h
    rfl
  · obtain ⟨F, a, dx, vb, vg, hFH, rfl, ha, gb, gg, k0, k1⟩ := h
    have nd := sc_Days_init.nd
    refine ⟨_, (psa_cons (pst_of (ps_if (pt_not (pt_val (kcB b_isinstance (by decide) (by decide) (kc_isiT K) g_Days_init_isinstance T.n_isinstance (pa_cons (kv (i := 1) v_Days_init_borders) (pa_cons (pe_tup (pa_cons (kty_list g_Days_init_list T.n_list) (pa_cons (kty_tuple g_Days_init_tuple T.n_tuple) pa_nil))) pa_nil))))) (pss_one (ps_raise rfl (takes_of rfl rfl rfl rfl) (pmk_oex T.oex_InvalidBorders T.ii_InvalidBorders T.ti_InvalidBorders (ok_InvalidBorders_init T) (hr.mono (by first | decide | omega)) T.b_InvalidBorders_init .nil pass0 g_Days_init_InvalidBorders T.m_InvalidBorders (pa_cons (pe_un un_neg pe_int) pa_nil)))) pss_nil))
      (psa_cons (pst_of (ps_if (pt_cmpR op_gt (kcB b_len (by decide) (by decide) (kc_len K) g_Days_init_len T.n_len (pa_cons (kv (i := 1) v_Days_init_borders) pa_nil)) (pe_glob g_Days_init_BORDERS T.m_BORDERS T.r_BORDERS) (nomark _)) (pss_one (ps_raise rfl (takes_of rfl rfl rfl rfl) (pmk_oex T.oex_TooMany T.ii_TooMany T.ti_TooMany (ok_TooMany_init T) (hr.mono (by first | decide | omega)) T.b_TooMany_init .nil pass0 g_Days_init_TooMany T.m_TooMany (pa_cons pe_str (pa_cons (kcB b_len (by decide) (by decide) (kc_len K) g_Days_init_len T.n_len (pa_cons (kv (i := 1) v_Days_init_borders) pa_nil)) pa_nil))))) pss_nil))
      (psa_cons (pst_of (ks_setL (i := 4) nd l_Days_init_last pe_int))
      (psa_cons (pst_of (ps_for (passes_of rfl) rfl (pi_ELT K g_Days_init_enumerate T.n_enumerate (pa_cons (kv (i := 1) v_Days_init_borders) pa_nil)) (kpg_tup K 2 rfl (pgs_cons (kgL (i := 5) nd l_Days_init_at) (pgs_cons (kgL (i := 6) nd l_Days_init_border) pgs_nil))) (pss_cons (ps_if (pt_not (pt_val (pe_call (ok_is_number T) (hr.mono (by first | decide | omega)) g_Days_init_is_number T.m_is_number T.k_is_number T.b_is_number .nil pass0 (pa_cons (kv (i := 6) v_Days_init_border) (pa_cons (pe_op kop_add (kv (i := 4) v_Days_init_last) pe_int) (pa_cons pe_int pa_nil)))))) (pss_one (ps_raise rfl (takes_of rfl rfl rfl rfl) (pmk_oex T.oex_InvalidBorders T.ii_InvalidBorders T.ti_InvalidBorders (ok_InvalidBorders_init T) (hr.mono (by first | decide | omega)) T.b_InvalidBorders_init .nil pass0 g_Days_init_InvalidBorders T.m_InvalidBorders (pa_cons (kv (i := 5) v_Days_init_at) pa_nil)))) pss_nil)
      (pss_one (ks_setL (i := 4) nd l_Days_init_last (kv (i := 6) v_Days_init_border))))))
      (psa_cons (pst_of (ps_if (pt_not (pt_val (pe_call (ok_is_number T) (hr.mono (by first | decide | omega)) g_Days_init_is_number T.m_is_number T.k_is_number T.b_is_number .nil pass0 (pa_cons (kv (i := 2) v_Days_init_every) (pa_cons pe_int (pa_cons pe_int pa_nil)))))) (pss_one (ps_raise rfl (takes_of rfl rfl rfl rfl) (pmk_oex T.oex_InvalidNumber T.ii_InvalidNumber T.ti_InvalidNumber (ok_InvalidNumber_init T) (hr.mono (by first | decide | omega)) T.b_InvalidNumber_init .nil pass0 g_Days_init_InvalidNumber T.m_InvalidNumber (pa_cons (kv (i := 2) v_Days_init_every) pa_nil)))) pss_nil))
      (psa_cons (pst_of (ks_setL (i := 7) nd l_Days_init_words (pe_op kop_add (pe_op kop_add (pe_lst (pa_cons pe_str pa_nil)) (pe_lc (own := [("border", 6)]) rfl nd (pi_LT K (kv (i := 1) v_Days_init_borders)) ok_cs_Days_init_1 (fun _ _ _ _ _ => (kgL (i := 6) nd l_Days_init_1_border)) (fun _ _ _ _ _ => pts_nil) (fun _ _ _ _ _ => (kcT b_str (by decide) (by decide) kc_str g_Days_init_1_str T.n_str (pa_cons (kv (i := 6) v_Days_init_1_border) pa_nil))))) (pe_lst (pa_cons pe_str (pa_cons (kcT b_str (by decide) (by decide) kc_str g_Days_init_str T.n_str (pa_cons (kv (i := 2) v_Days_init_every) pa_nil)) pa_nil))))))
      (psa_cons (kpst_super K T.sd_Days_init rfl rfl g_Days_init_super fr_Days_init cc_look rfl (locB_ok l_Days_init_self) (by decide) (ok_Rest_init T) (hr.mono (by decide)) T.b_Rest_init .nil pass0 (pa_cons (kpe_join K pe_str (kv (i := 7) v_Days_init_words)) (pa_cons pe_int (pa_cons (kv (i := 2) v_Days_init_every) (pa_cons (kv (i := 4) v_Days_init_last) pa_nil)))))
      (psa_cons (pst_of (kps_fld K (kv (i := 0) v_Days_init_self) (kv (i := 2) v_Days_init_every)))
      (psa_one (pst_of (kps_fld K (kv (i := 0) v_Days_init_self) (kcT b_list (by decide) (by decide) (kc_list K) g_Days_init_list T.n_list (pa_cons (kv (i := 1) v_Days_init_borders) pa_nil))))))))))))), ?_⟩
    walk_at "ss"
    intro t1 n1
    generalize e1 : upd H t1 _ = H1
    have s1 := upd_sm e1 n1
    have h1 := upd_at e1
    have ha1 := s1 _ _ ha
    clear e1
    walk_at "ss"
    refine k_gSeq (gb.up s1) h1 (fun l xs el hl => ?_) (fun hno => ?_)
    · subst el
      have hl0 : SqAt H l xs := by
        cases gb with
        | lst h =>
          have := SqAt.inj (.inl (s1 _ _ h)) hl
          subst this
          exact .inl h
        | tup h =>
          have := SqAt.inj (.inr (s1 _ _ h)) hl
          subst this
          exact .inr h
        | dic h =>
          have h := s1 _ _ h
          rcases hl with hl | hl <;> rw [hl] at h <;> cases h
      obtain ⟨l50, gx, kb, k⟩ := k1 l xs rfl hl0
      walk_at "ss"
      refine k_lenLT hl ?_
      walk_at "ss"
      refine k_d (fun h12 => ?_) (fun h12 => ?_)
      · walk_at "ss"
        show tMkO _ _ _ _ _ _ _
        refine k_mkO ?_
        walk_at "ss"
        refine k_lenLT hl ?_
        walk_at "ss"
        exact raise_TooMany T ((kb _ (dayBad_many (by omega))).up s1)
      · walk_at "ss"
        refine k_ELT hl (fun Q q => by walk_at "ss"; exact q) fun J G wk hG => ?_
        refine k_forIt wk (fun i σ H' => ∃ dn rs v5 v6, Done xs dn rs ∧ dn.length = i ∧ σ = [some (V.ref a), some (V.ref l), some vg, some (V.ref T.C_Days), some (V.int (baseOf dn)), v5, v6, none] ∧ Same H1 H') ⟨[], xs, none, none, Done.nil xs, rfl, rfl, Same.refl _⟩ ?_ ?_ ?_
        · rintro i σ H' _ ⟨dn, rs, v5, v6, _, _, _, sm⟩
          exact hG _ (hl.stay sm)
        · rintro i x σ H' H'' hi ⟨dn, rs, v5, v6, hD, ei, rfl, sm⟩ ⟨tp, y1, y2, rfl, nt, rfl, ey1, ey2⟩
          obtain rfl : V.int (i : Nat) = y1 := Option.some.inj ey1
          have ey2 : xs[i]? = some y2 := ey2
          obtain ⟨r, rfl⟩ := hD.next ei ey2
          have gy := ((gx y2 (List.mem_of_getElem? ey2)).up (s1.trans sm)).up (same_new (o := .tup [V.int (i : Nat), y2]) nt)
          walk_at "ss"
          refine ⟨y2, baseOf dn + 1, 1000, rfl, gy, ?_⟩
          cases e : numV y2 (baseOf dn + 1) 1000 with
          | false =>
            walk_at "ss"
            show tMkO _ _ _ _ _ _ _
            refine k_mkO ?_
            walk_at "ss"
            subst ei
            exact raise_InvalidBorders T ((kb _ (dayBad_bord (by omega) (hD.stop e))).up ((s1.trans sm).trans (same_new nt)))
          | true =>
            obtain ⟨c, rfl, hc0, hc1⟩ := numV_i e
            walk_at "ss"
            exact ⟨dn ++ [c], r, _, _, hD.step hc0 hc1, by simp [ei], by rw [baseOf_snoc]; rfl, sm.trans (same_new nt)⟩
        · rintro σ H2 ⟨dn, rs, v5, v6, hD, ei, rfl, sm⟩
          obtain ⟨ex, enone⟩ := hD.all ei
          have hl2 := hl.up sm
          have ha2 := sm _ _ ha1
          have gg2 := (gg.up s1).up sm
          walk_at "ss"
          refine ⟨vg, 1, 2000, rfl, gg2, ?_⟩
          cases eg : numV vg 1 2000 with
          | false =>
            walk_at "ss"
            show tMkO _ _ _ _ _ _ _
            refine k_mkO ?_
            walk_at "ss"
            exact raise_InvalidNumber T ((kb _ (dayBad_num (by omega) enone eg)).up (s1.trans sm))
          | true =>
            obtain ⟨p, rfl, hp1, hp2⟩ := numV_i eg
            have hok : (Plan.days dn p).Ok := ⟨hD.asc, hD.le, by rw [ex, List.length_map] at h12; omega, hp1, hp2⟩
            have kk := k (dayBad_none (by omega) enone eg) dn p ex rfl hok
            obtain ⟨hasc, hle, hlen, _, _⟩ := id hok
            subst ex
            walk_at "ss"
            intro t3 n3
            generalize e3 : upd H2 t3 _ = H3
            have s3 := upd_sm e3 n3
            have h3 := upd_at e3
            clear e3
            walk_at "ss"
            have hl3 := hl2.up s3
            refine k_LT hl3 (fun Q q => by walk_at "ss"; exact q) fun J2 G2 wk2 hG2 => ?_
            intro D nD
            refine k_lcIt wk2 (fun i H' => H' D = some (.lst (((dn.take i).map fun b => Str.ofString (toString b)).map V.str)) ∧ SameBut D H3 H') ⟨upd_same, (SameBut.refl _ _).put⟩ ?_ ?_ ?_
            · rintro i H' _ ⟨hD', sm'⟩
              refine hG2 _ ?_
              rcases hl3 with h | h
              · rw [sm' _ _ (ne_of_none h nD) h, h]
              · rw [sm' _ _ (ne_of_none h nD) h, h]
            · rintro i x H' H'' hi ⟨hD', sm'⟩ ⟨rfl, hx⟩
              obtain ⟨z, hz, rfl⟩ : ∃ z, dn[i]? = some z ∧ x = V.int z := by
                rw [List.getElem?_map] at hx
                cases hq : dn[i]? with
                | none => rw [hq] at hx; cases hx
                | some c => rw [hq] at hx; exact ⟨c, rfl, (Option.some.inj hx).symm⟩
              have hm := List.mem_of_getElem? hz
              have hz1 := hle z hm
              have hz0 := asc_lt hasc z hm
              have hi2 : i < dn.length := (List.getElem?_eq_some_iff.mp hz).1
              refine k_gName ?_
              refine ⟨rfl, ?_⟩
              walk_at "ss"
              refine k_str1 (by omega) ?_
              refine ⟨_, hD', small_lt (by simp; omega), ?_, sm'.put⟩
              rw [upd_same, List.take_add_one, hz]
              simp
            · rintro H4 ⟨hD', sm'⟩
              rw [List.length_map, List.take_length] at hD'
              have h34 := sm' _ _ (ne_of_none h3 nD) h3
              have ha4 := sm' _ _ (ne_of_none (s3 _ _ ha2) nD) (s3 _ _ ha2)
              have s34 : Same H3 H4 := fun b o h => sm' b o (ne_of_none h nD) h
              have hl4 := hl3.up s34
              have sH4 : Same H H4 := ((s1.trans sm).trans s3).trans s34
              refine k_addL h34 hD' (by simp; omega) ?_
              intro t5 n5
              generalize e5 : upd H4 t5 _ = H5
              have s5 := upd_sm e5 n5
              have h5 := upd_at e5
              clear e5
              walk_at "ss"
              refine k_str1 (by omega) ?_
              walk_at "ss"
              intro t6 n6
              generalize e6 : upd H5 t6 _ = H6
              have s6 := upd_sm e6 n6
              have h6 := upd_at e6
              clear e6
              refine k_addL (s6 _ _ h5) h6 (by simp; omega) ?_
              intro t7 n7
              generalize e7 : upd H6 t7 _ = H7
              have s7 := upd_sm e7 n7
              have h7 := upd_at e7
              clear e7
              have s47 := (s5.trans s6).trans s7
              walk_at "ss"
              refine k_sup rfl (s47 _ _ ha4) T.su_Days fun q H8 nq e8 s8 hq => ?_
              walk_at "ss"
              have q7 : H8 t7 = some (.lst ((daysW (dn.map fun b => Str.ofString (toString b)) p).map V.str)) := by
                rw [s8 _ _ h7]
                unfold daysW
                simp only [List.map_append, List.map_cons, List.map_nil]
              obtain ⟨lz, ll⟩ := days_len hok
              have lsum := sum_le lz
              have l3 : (" " : Str).length = 1 := by decide +kernel
              refine k_joinL (SqL.of q7) (by rw [l3]; omega) fun out eo => ?_
              walk_at "ss"
              refine ⟨hq, ?_⟩
              refine ⟨a, _, dx, _, 1, p, baseOf dn, rfl, .days, s8 _ _ (s47 _ _ ha4), ?_⟩
              walk_at "ss"
              refine k_putTop T.cl_Days T.no_Days_every rfl (by decide +kernel) (by decide) ?_
              walk_at "ss"
              have hl8 := hl4.up (s47.trans s8)
              have ha8 := s8 _ _ (s47 _ _ ha4)
              have nla : l ≠ a := by
                rcases hl8 with h | h
                · exact ne_of h ha8 (by intro z; cases z)
                · exact ne_of h ha8 (by intro z; cases z)
              refine k_listLT (hl8.imp (fun h => (upd_ne nla).trans h) (fun h => (upd_ne nla).trans h)) ?_
              intro l2 n9
              have na9 : a ≠ l2 := fun z => by rw [← z, upd_same] at n9; cases n9
              walk_at "ss"
              refine k_putAt ((upd_ne na9).trans upd_same) T.cl_Days T.no_Days_borders rfl (by decide +kernel) (by decide) ?_
              subst eo
              refine kk _ ?_ (.days upd_same ((upd_ne (Ne.symm na9)).trans upd_same) (fun z => ?_))
              · refine SameBut.put ?_
                intro b o nb hb
                rw [upd_ne, upd_ne nb]
                · exact s8 _ _ (s47 _ _ (sH4 _ _ hb))
                · intro z
                  rw [← z, upd_ne nb, s8 _ _ (s47 _ _ (sH4 _ _ hb))] at n9
                  cases n9
              · cases hb : H l2 with
                | none => exact hFH _ z hb
                | some o =>
                  rw [upd_ne (Ne.symm na9), s8 _ _ (s47 _ _ (sH4 _ _ hb))] at n9
                  cases n9
    · walk_at "ss"
      show tMkO _ _ _ _ _ _ _
      refine k_mkO ?_
      walk_at "ss"
      refine raise_InvalidBorders T ((k0 fun l xs e q => hno l xs e (q.up s1)).up s1)
end

section
variable {w : World} {K : PySem.W.Frag} {mg : Str → Option Value} {base : Heap}
def spOpInit (T : Tx K mg) (o : Op) : Sp := fun vs H Q E => ∃ (F : Addr → Prop) (a dx : Addr) (x y : V) (px py : Option Plan), vs = [.ref a, x, y] ∧ H a = some (.ins (cOp T o) dx []) ∧ ArgAt T F H x px ∧ ArgAt T F H y py ∧ (∀ e, pairBad x px y py = some e → Goes T H E e) ∧
  (pairBad x px y py = none → ∀ p q, px = some p → py = some q → (Plan.op o p q).Ok → ∀ H', SameBut a H H' → RestAt T F H' a (.op o p q) → Q .non H')
theorem ok_Later_init (T : Tx K mg) : FnOk P w K mg base (L2.CX P w) 4 T.a_Later_init T.fd_Later_init P_Later_init (spOpInit T .later) := by
  obtain ⟨cl, cld, csl, hce⟩ := T.ce_Later_init
  refine funS_okX T.F_Later_init sc_Later_init hce (fun vs H Q E h => ?_) (fun A outer s H vs Q E hr h => ?_)
  · obtain ⟨F, a, dx, x, y, px, py, rfl, _⟩ := h
    rfl
  · obtain ⟨F, a, dx, x, y, px, py, rfl, ha, hx, hy, kb, k⟩ := h
    have nd := sc_Later_init.nd
    have ha : H a = some (.ins T.C_Later dx []) := ha
    refine ⟨_, (psa_cons (pst_of (ps_asg (pe_call (ok_joined T) (hr.mono (by first | decide | omega)) g_Later_init_joined T.m_joined T.k_joined T.b_joined .nil (passes_call (takes_of rfl rfl rfl rfl) (fun _ _ _ _ h => h)) (pa_cons pe_str (pa_cons (kv (i := 1) v_Later_init_first) (pa_cons (kv (i := 2) v_Later_init_second) pa_nil)))) (kpg_tup K 4 rfl (pgs_cons (kgL (i := 4) nd l_Later_init_text) (pgs_cons (kgL (i := 5) nd l_Later_init_forms) (pgs_cons (kgL (i := 6) nd l_Later_init_period) (pgs_cons (kgL (i := 7) nd l_Later_init_bend) pgs_nil)))))))
      (psa_cons (kpst_super K T.sd_Later_init rfl rfl g_Later_init_super fr_Later_init cc_look rfl (locB_ok l_Later_init_self) (by decide) (ok_Rest_init T) (hr.mono (by decide)) T.b_Rest_init .nil pass0 (pa_cons (kv (i := 4) v_Later_init_text) (pa_cons (kv (i := 5) v_Later_init_forms) (pa_cons (kv (i := 6) v_Later_init_period) (pa_cons (kv (i := 7) v_Later_init_bend) pa_nil)))))
      (psa_cons (pst_of (kps_fld K (kv (i := 0) v_Later_init_self) (kv (i := 1) v_Later_init_first)))
      (psa_one (pst_of (kps_fld K (kv (i := 0) v_Later_init_self) (kv (i := 2) v_Later_init_second))))))), ?_⟩
    walk_at "ss"
    refine ⟨F, .later, x, y, px, py, rfl, hx, hy, kb, fun hn p q ep eq t H1 s1 ht => ?_⟩
    subst ep eq
    obtain ⟨p', q', e1, e2, hf, hp⟩ := pairBad_none hn
    cases e1
    cases e2
    cases hx with
    | @rest a1 _ h1 op =>
    cases hy with
    | @rest a2 _ h2 oq =>
    have hok : (Plan.op .later p q).Ok := ⟨op, oq, hf, hp⟩
    have kk := k hn p q rfl rfl hok
    walk_at "ss"
    refine k_sup rfl (s1 _ _ ha) T.su_Later fun qq H2 nq e2 s2 hq => ?_
    walk_at "ss"
    refine ⟨hq, ?_⟩
    refine ⟨a, _, dx, _, _, _, _, rfl, .op .later, s2 _ _ (s1 _ _ ha), ?_⟩
    walk_at "ss"
    refine k_putTop T.cl_Later T.no_Later_first rfl (by decide +kernel) (by decide) ?_
    walk_at "ss"
    refine k_putTop T.cl_Later T.no_Later_second rfl (by decide +kernel) (by decide) ?_
    have sb : SameBut a H (upd H2 a (.ins T.C_Later dx (FL (n4 ++ [("first" : Str)] ++ [("second" : Str)]) ([V.str (Plan.op .later p q).tx, .int ((Plan.op .later p q).forms : Nat), .int (Plan.op .later p q).period, .int (Plan.op .later p q).bend] ++ [V.ref a1] ++ [V.ref a2])))) := (SameBut.of (s1.trans s2)).put
    exact kk _ sb (.op upd_same (h1.upBut ha sb) (h2.upBut ha sb))
theorem ok_Sooner_init (T : Tx K mg) : FnOk P w K mg base (L2.CX P w) 4 T.a_Sooner_init T.fd_Sooner_init P_Sooner_init (spOpInit T .sooner) := by
  obtain ⟨cl, cld, csl, hce⟩ := T.ce_Sooner_init
  refine funS_okX T.F_Sooner_init sc_Sooner_init hce (fun vs H Q E h => ?_) (fun A outer s H vs Q E hr h => ?_)
  · obtain ⟨F, a, dx, x, y, px, py, rfl, _⟩ := h
    rfl
  · obtain ⟨F, a, dx, x, y, px, py, rfl, ha, hx, hy, kb, k⟩ := h
    have nd := sc_Sooner_init.nd
    have ha : H a = some (.ins T.C_Sooner dx []) := ha
    refine ⟨_, (psa_cons (pst_of (ps_asg (pe_call (ok_joined T) (hr.mono (by first | decide | omega)) g_Sooner_init_joined T.m_joined T.k_joined T.b_joined .nil (passes_call (takes_of rfl rfl rfl rfl) (fun _ _ _ _ h => h)) (pa_cons pe_str (pa_cons (kv (i := 1) v_Sooner_init_first) (pa_cons (kv (i := 2) v_Sooner_init_second) pa_nil)))) (kpg_tup K 4 rfl (pgs_cons (kgL (i := 4) nd l_Sooner_init_text) (pgs_cons (kgL (i := 5) nd l_Sooner_init_forms) (pgs_cons (kgL (i := 6) nd l_Sooner_init_period) (pgs_cons (kgL (i := 7) nd l_Sooner_init_bend) pgs_nil)))))))
      (psa_cons (kpst_super K T.sd_Sooner_init rfl rfl g_Sooner_init_super fr_Sooner_init cc_look rfl (locB_ok l_Sooner_init_self) (by decide) (ok_Rest_init T) (hr.mono (by decide)) T.b_Rest_init .nil pass0 (pa_cons (kv (i := 4) v_Sooner_init_text) (pa_cons (kv (i := 5) v_Sooner_init_forms) (pa_cons (kv (i := 6) v_Sooner_init_period) (pa_cons (kv (i := 7) v_Sooner_init_bend) pa_nil)))))
      (psa_cons (pst_of (kps_fld K (kv (i := 0) v_Sooner_init_self) (kv (i := 1) v_Sooner_init_first)))
      (psa_one (pst_of (kps_fld K (kv (i := 0) v_Sooner_init_self) (kv (i := 2) v_Sooner_init_second))))))), ?_⟩
    walk_at "ss"
    refine ⟨F, .sooner, x, y, px, py, rfl, hx, hy, kb, fun hn p q ep eq t H1 s1 ht => ?_⟩
    subst ep eq
    obtain ⟨p', q', e1, e2, hf, hp⟩ := pairBad_none hn
    cases e1
    cases e2
    cases hx with
    | @rest a1 _ h1 op =>
    cases hy with
    | @rest a2 _ h2 oq =>
    have hok : (Plan.op .sooner p q).Ok := ⟨op, oq, hf, hp⟩
    have kk := k hn p q rfl rfl hok
    walk_at "ss"
    refine k_sup rfl (s1 _ _ ha) T.su_Sooner fun qq H2 nq e2 s2 hq => ?_
    walk_at "ss"
    refine ⟨hq, ?_⟩
    refine ⟨a, _, dx, _, _, _, _, rfl, .op .sooner, s2 _ _ (s1 _ _ ha), ?_⟩
    walk_at "ss"
    refine k_putTop T.cl_Sooner T.no_Sooner_first rfl (by decide +kernel) (by decide) ?_
    walk_at "ss"
    refine k_putTop T.cl_Sooner T.no_Sooner_second rfl (by decide +kernel) (by decide) ?_
    have sb : SameBut a H (upd H2 a (.ins T.C_Sooner dx (FL (n4 ++ [("first" : Str)] ++ [("second" : Str)]) ([V.str (Plan.op .sooner p q).tx, .int ((Plan.op .sooner p q).forms : Nat), .int (Plan.op .sooner p q).period, .int (Plan.op .sooner p q).bend] ++ [V.ref a1] ++ [V.ref a2])))) := (SameBut.of (s1.trans s2)).put
    exact kk _ sb (.op upd_same (h1.upBut ha sb) (h2.upBut ha sb))
theorem ok_Next_init (T : Tx K mg) : FnOk P w K mg base (L2.CX P w) 4 T.a_Next_init T.fd_Next_init P_Next_init (spOpInit T .next) := by
  obtain ⟨cl, cld, csl, hce⟩ := T.ce_Next_init
  refine funS_okX T.F_Next_init sc_Next_init hce (fun vs H Q E h => ?_) (fun A outer s H vs Q E hr h => ?_)
  · obtain ⟨F, a, dx, x, y, px, py, rfl, _⟩ := h
    rfl
  · obtain ⟨F, a, dx, x, y, px, py, rfl, ha, hx, hy, kb, k⟩ := h
    have nd := sc_Next_init.nd
    have ha : H a = some (.ins T.C_Next dx []) := ha
    refine ⟨_, (psa_cons (pst_of (ps_asg (pe_call (ok_joined T) (hr.mono (by first | decide | omega)) g_Next_init_joined T.m_joined T.k_joined T.b_joined .nil (passes_call (takes_of rfl rfl rfl rfl) (fun _ _ _ _ h => h)) (pa_cons pe_str (pa_cons (kv (i := 1) v_Next_init_first) (pa_cons (kv (i := 2) v_Next_init_second) pa_nil)))) (kpg_tup K 4 rfl (pgs_cons (kgL (i := 4) nd l_Next_init_text) (pgs_cons (kgL (i := 5) nd l_Next_init_forms) (pgs_cons (kgL (i := 6) nd l_Next_init_period) (pgs_cons (kgL (i := 7) nd l_Next_init_bend) pgs_nil)))))))
      (psa_cons (kpst_super K T.sd_Next_init rfl rfl g_Next_init_super fr_Next_init cc_look rfl (locB_ok l_Next_init_self) (by decide) (ok_Rest_init T) (hr.mono (by decide)) T.b_Rest_init .nil pass0 (pa_cons (kv (i := 4) v_Next_init_text) (pa_cons (kv (i := 5) v_Next_init_forms) (pa_cons (kv (i := 6) v_Next_init_period) (pa_cons (kv (i := 7) v_Next_init_bend) pa_nil)))))
      (psa_cons (pst_of (kps_fld K (kv (i := 0) v_Next_init_self) (kv (i := 1) v_Next_init_first)))
      (psa_one (pst_of (kps_fld K (kv (i := 0) v_Next_init_self) (kv (i := 2) v_Next_init_second))))))), ?_⟩
    walk_at "ss"
    refine ⟨F, .next, x, y, px, py, rfl, hx, hy, kb, fun hn p q ep eq t H1 s1 ht => ?_⟩
    subst ep eq
    obtain ⟨p', q', e1, e2, hf, hp⟩ := pairBad_none hn
    cases e1
    cases e2
    cases hx with
    | @rest a1 _ h1 op =>
    cases hy with
    | @rest a2 _ h2 oq =>
    have hok : (Plan.op .next p q).Ok := ⟨op, oq, hf, hp⟩
    have kk := k hn p q rfl rfl hok
    walk_at "ss"
    refine k_sup rfl (s1 _ _ ha) T.su_Next fun qq H2 nq e2 s2 hq => ?_
    walk_at "ss"
    refine ⟨hq, ?_⟩
    refine ⟨a, _, dx, _, _, _, _, rfl, .op .next, s2 _ _ (s1 _ _ ha), ?_⟩
    walk_at "ss"
    refine k_putTop T.cl_Next T.no_Next_first rfl (by decide +kernel) (by decide) ?_
    walk_at "ss"
    refine k_putTop T.cl_Next T.no_Next_second rfl (by decide +kernel) (by decide) ?_
    have sb : SameBut a H (upd H2 a (.ins T.C_Next dx (FL (n4 ++ [("first" : Str)] ++ [("second" : Str)]) ([V.str (Plan.op .next p q).tx, .int ((Plan.op .next p q).forms : Nat), .int (Plan.op .next p q).period, .int (Plan.op .next p q).bend] ++ [V.ref a1] ++ [V.ref a2])))) := (SameBut.of (s1.trans s2)).put
    exact kk _ sb (.op upd_same (h1.upBut ha sb) (h2.upBut ha sb))
/-! ### ==, !=, str, repr of a rest -/
theorem IsC.eqf {T : Tx K mg} {C : Addr} (h : IsC T C) : PySem.W.findIn K (.ref C) "__eq__" = some (some (.ref T.a_Rest_eq)) := by
  cases h with
  | win => exact T.eqf_Window
  | days => exact T.eqf_Days
  | op o => cases o <;> first | exact T.eqf_Later | exact T.eqf_Sooner | exact T.eqf_Next
theorem IsC.nef {T : Tx K mg} {C : Addr} (h : IsC T C) : PySem.W.findIn K (.ref C) "__ne__" = some (some (.builtin "object.__ne__")) := by
  cases h with
  | win => exact T.nef_Window
  | days => exact T.nef_Days
  | op o => cases o <;> first | exact T.nef_Later | exact T.nef_Sooner | exact T.nef_Next
theorem IsC.nem {T : Tx K mg} {C : Addr} (h : IsC T C) : PySem.W.mroIn K C (.type "object") = some true := by
  cases h with
  | win => exact T.nem_Window
  | days => exact T.nem_Days
  | op o => cases o <;> first | exact T.nem_Later | exact T.nem_Sooner | exact T.nem_Next
theorem IsC.strf {T : Tx K mg} {C : Addr} (h : IsC T C) : PySem.W.findIn K (.ref C) "__str__" = some (some (.ref T.a_Rest_str)) := by
  cases h with
  | win => exact T.strf_Window
  | days => exact T.strf_Days
  | op o => cases o <;> first | exact T.strf_Later | exact T.strf_Sooner | exact T.strf_Next
theorem IsC.reprf {T : Tx K mg} {C : Addr} (h : IsC T C) : PySem.W.findIn K (.ref C) "__repr__" = some (some (.ref T.a_Rest_repr)) := by
  cases h with
  | win => exact T.reprf_Window
  | days => exact T.reprf_Days
  | op o => cases o <;> first | exact T.reprf_Later | exact T.reprf_Sooner | exact T.reprf_Next
theorem IsC.nft {T : Tx K mg} {C : Addr} (h : IsC T C) : PySem.W.notFirst K C (.type "str") = true ∧ PySem.W.notFirst K C (.type "int") = true ∧ PySem.W.notFirst K C (.type "bool") = true ∧ PySem.W.notFirst K C (.type "NoneType") = true ∧ PySem.W.notFirst K C (.type "list") = true ∧ PySem.W.notFirst K C (.type "tuple") = true := by
  cases h with
  | win => exact ⟨T.nf_Window_str, T.nf_Window_int, T.nf_Window_bool, T.nf_Window_NoneType, T.nf_Window_list, T.nf_Window_tuple⟩
  | days => exact ⟨T.nf_Days_str, T.nf_Days_int, T.nf_Days_bool, T.nf_Days_NoneType, T.nf_Days_list, T.nf_Days_tuple⟩
  | op o =>
    cases o with
    | later => exact ⟨T.nf_Later_str, T.nf_Later_int, T.nf_Later_bool, T.nf_Later_NoneType, T.nf_Later_list, T.nf_Later_tuple⟩
    | sooner => exact ⟨T.nf_Sooner_str, T.nf_Sooner_int, T.nf_Sooner_bool, T.nf_Sooner_NoneType, T.nf_Sooner_list, T.nf_Sooner_tuple⟩
    | next => exact ⟨T.nf_Next_str, T.nf_Next_int, T.nf_Next_bool, T.nf_Next_NoneType, T.nf_Next_list, T.nf_Next_tuple⟩
theorem IsC.nfc {T : Tx K mg} {C D : Addr} (h : IsC T C) (g : IsC T D) : PySem.W.notFirst K C (.ref D) = true := by
  cases h with
  | win => cases g with
    | win => exact T.nf_Window
    | days => exact T.nf_Window_Days
    | op o => cases o <;> first | exact T.nf_Window_Later | exact T.nf_Window_Sooner | exact T.nf_Window_Next
  | days => cases g with
    | win => exact T.nf_Days_Window
    | days => exact T.nf_Days
    | op o => cases o <;> first | exact T.nf_Days_Later | exact T.nf_Days_Sooner | exact T.nf_Days_Next
  | op o =>
    cases o with
    | later => cases g with
      | win => exact T.nf_Later_Window
      | days => exact T.nf_Later_Days
      | op o => cases o <;> first | exact T.nf_Later | exact T.nf_Later_Sooner | exact T.nf_Later_Next
    | sooner => cases g with
      | win => exact T.nf_Sooner_Window
      | days => exact T.nf_Sooner_Days
      | op o => cases o <;> first | exact T.nf_Sooner | exact T.nf_Sooner_Later | exact T.nf_Sooner_Next
    | next => cases g with
      | win => exact T.nf_Next_Window
      | days => exact T.nf_Next_Days
      | op o => cases o <;> first | exact T.nf_Next | exact T.nf_Next_Later | exact T.nf_Next_Sooner
theorem Yw.ofG {T : Tx K mg} {C : Addr} (h : IsC T C) {H : Hp} {v : V} (g : Gx H v) (nd : ∀ a ks, v = .ref a → H a ≠ some (.dK ks)) : Yw K C H v := by
  obtain ⟨h1, h2, h3, h4, h5, h6⟩ := h.nft
  rcases g with g | ⟨z, rfl⟩
  case inr => exact .str z h1
  cases g with
  | int i => exact .int i h2
  | str z h => exact .str z h1
  | bl b => exact .bl b h3
  | non => exact .non h4
  | lst h => exact .lst h h5
  | tup h => exact .tup h h6
  | dic h => exact (nd _ _ rfl h).elim
/-- == of a rest and another rest, or a value that is no dict -/
def rEqR (T : Tx K mg) : R2 := fun x y H Q => ∃ (F : Addr → Prop) (a : Addr) (p : Plan), x = .ref a ∧ RestAt T F H a p ∧ ((Gx H y ∧ (∀ b ks, y = .ref b → H b ≠ some (.dK ks)) ∧ Q (.bl false) H) ∨ ∃ (F2 : Addr → Prop) (b : Addr) (q : Plan), y = .ref b ∧ RestAt T F2 H b q ∧ Q (.bl (decide (p.tx = q.tx))) H)
theorem kop_eqR {X : Cx} (T : Tx K mg) (Fn : FnOk X.prog X.w K X.mg X.base CX0 1 T.a_Rest_eq T.fd_Rest_eq P_Rest_eq (spRestEq T)) (room : Room 1 X.A) (hK : X.K = K := by rfl) : OpR X (compareOp .Eq) (rEqR T) := by
  subst hK
  intro pins s σ H x y v u Q I rx ry hh
  obtain ⟨F, a, p, rfl, ha, hy⟩ := hh
  obtain ⟨C, dx, ns, vs, hC, hn, he⟩ := id ha.four
  have yw : Yw X.K C H y := by
    rcases hy with ⟨g, nd, _⟩ | ⟨F2, b, q, rfl, hb, _⟩
    · exact Yw.ofG hC g nd
    · obtain ⟨C2, dx2, ns2, vs2, hC2, _, he2⟩ := hb.four
      exact .ins he2 (hC.nfc hC2)
  exact op_eqW hC.eqf T.eqi_Window Fn room T.b_Rest_eq pass0 pins s σ H _ _ v u Q I rx ry ⟨a, dx, _, rfl, he, yw, F, a, p, y, rfl, ha, hy.imp (fun h => ⟨h.1, h.2.2⟩) id⟩
def rNeR (T : Tx K mg) : R2 := fun x y H Q => ∃ (F : Addr → Prop) (a : Addr) (p : Plan), x = .ref a ∧ RestAt T F H a p ∧ Gx H y ∧ (∀ b ks, y = .ref b → H b ≠ some (.dK ks)) ∧ Q (.bl true) H
theorem kop_neR {X : Cx} (T : Tx K mg) (Fn : FnOk X.prog X.w K X.mg X.base CX0 1 T.a_Rest_eq T.fd_Rest_eq P_Rest_eq (spRestEq T)) (room : Room 2 X.A) (hK : X.K = K := by rfl) : OpR X (compareOp .NotEq) (rNeR T) := by
  subst hK
  intro pins s σ H x y v u Q I rx ry hh
  obtain ⟨F, a, p, rfl, ha, g, nd, k⟩ := hh
  obtain ⟨C, dx, ns, vs, hC, hn, he⟩ := id ha.four
  exact op_neW hC.eqf T.eqi_Window hC.nef hC.nem Fn room T.b_Rest_eq pass0 pins s σ H _ _ v u Q I rx ry ⟨a, dx, _, rfl, he, Yw.ofG hC g nd, F, a, p, y, rfl, ha, .inl ⟨g, false, rfl, k⟩⟩
def rStrR (T : Tx K mg) : List V → Hp → VK → Prop := fun vs H Q => ∃ (F : Addr → Prop) (a : Addr) (p : Plan), vs = [.ref a] ∧ RestAt T F H a p ∧ Q (.str p.tx) H
theorem kc_strR {X : Cx} (T : Tx K mg) (Fn : FnOk X.prog X.w K X.mg X.base CX0 1 T.a_Rest_str T.fd_Rest_str P_Rest_str (spRestStr T)) (room : Room 3 X.A) (hK : X.K = K := by rfl) : CallR X (.type "str") (rStrR T) := by
  subst hK
  intro pins st σ H xs us Q I rs hh
  obtain ⟨F, a, p, rfl, ha, k⟩ := hh
  obtain ⟨C, dx, ns, vs, hC, hn, he⟩ := id ha.four
  exact cr_strO hC.strf T.stri_Window Fn room T.b_Rest_str pass0 pins st σ H _ us Q I rs ⟨a, dx, _, rfl, he, F, a, p, rfl, ha, p.tx, rfl, k⟩
def rReprR (T : Tx K mg) : List V → Hp → VK → Prop := fun vs H Q => ∃ (F : Addr → Prop) (a : Addr) (p : Plan), vs = [.ref a] ∧ RestAt T F H a p ∧ p.tx.length ≤ 1000 ∧ Q (.str (reprTx p)) H
theorem kc_reprR {X : Cx} (T : Tx K mg) (Fn : FnOk X.prog X.w K X.mg X.base CX0 1 T.a_Rest_repr T.fd_Rest_repr P_Rest_repr (spRestRepr T)) (room : Room 2 X.A) (hK : X.K = K := by rfl) : CallR X (.builtin "repr") (rReprR T) := by
  subst hK
  intro pins st σ H xs us Q I rs hh
  obtain ⟨F, a, p, rfl, ha, hl, k⟩ := hh
  obtain ⟨C, dx, ns, vs, hC, hn, he⟩ := id ha.four
  exact cr_reprO hC.reprf T.repri_Window Fn room T.b_Rest_repr pass0 pins st σ H _ us Q I rs ⟨a, dx, _, rfl, he, F, a, p, rfl, ha, hl, reprTx p, rfl, k⟩
/-! ### the borders of days -/
def spBorders (T : Tx K mg) : Sp := fun vs H Q _ => ∃ (F : Addr → Prop) (a : Addr) (bs : List Int) (p : Int), vs = [.ref a] ∧ RestAt T F H a (.days bs p) ∧ ∀ l, H l = none → Q (.ref l) (upd H l (.lst (bs.map V.int)))
theorem ok_Days_borders (T : Tx K mg) : FnOk P w K mg base CX0 1 T.a_Days_borders T.fd_Days_borders P_Days_borders (spBorders T) := by
  refine T.F_Days_borders.ok sc_Days_borders (fun vs H Q E h => ?_) (fun cdv A outer s H vs Q E hr h => ?_)
  · obtain ⟨F, a, bs, p, rfl, _⟩ := h
    rfl
  · obtain ⟨F, a, bs, p, rfl, ha, k⟩ := h
    refine ⟨_, (pss_one (ps_ret (kcT b_list (by decide) (by decide) (kc_list K) g_Days_borders_list T.n_list (pa_cons (kpe_fld K (kv (i := 0) v_Days_borders_self)) pa_nil)))), ?_⟩
    cases ha with
    | @days _ dx l _ _ h hl hF =>
      walk_at "ss"
      refine k_fldAt h T.cl_Days T.no_Days_borders (i := 5) (by decide +kernel) rfl ?_
      refine k_listL (SqL.of hl) ?_
      exact k
end

section
variable {w : World} {K : PySem.W.Frag} {mg : Str → Option Value} {base : Heap}
/-! ### the law's own common multiple -/
def spLcm : Sp := fun vs H Q _ => ∃ a b : Int, vs = [.int a, .int b] ∧ 0 < a ∧ 0 < b ∧ a < 2 ^ 40 ∧ b < 2 ^ 40 ∧ (a < 2 ^ 29 ∨ b < 2 ^ 29) ∧ Q (.int (lcmI a b)) H
theorem ok_llcm (T : Tx K mg) : FnOk P w K mg base CX0 1 T.a_llcm T.fd_llcm P_llcm spLcm := by
  refine T.F_llcm.ok sc_llcm (fun vs H Q E h => ?_) (fun cdv A outer s H vs Q E hr h => ?_)
  · obtain ⟨i, j, rfl, _⟩ := h
    rfl
  · obtain ⟨a, b, rfl, ha, hb, ha1, hb1, hab, k⟩ := h
    have nd := sc_llcm.nd
    refine ⟨_, (pss_cons (ps_par (i := 2) (j := 3) rfl nd rfl rfl (by decide) (locB_ok l_llcm_law_one) (locB_ok l_llcm_law_two) (pa_cons (kv (i := 0) v_llcm_law_a) (pa_cons (kv (i := 1) v_llcm_law_b) pa_nil)) (by rfl))
      (pss_cons (ps_while PassesOwn.never (pt_cmpR op_gt (kv (i := 3) v_llcm_law_two) pe_int (nomark _)) (pss_one (ps_par (i := 2) (j := 3) rfl nd rfl rfl (by decide) (locB_ok l_llcm_law_one) (locB_ok l_llcm_law_two) (pa_cons (kv (i := 3) v_llcm_law_two) (pa_cons (pe_op op_mod (kcT b_int (by decide) (by decide) kc_int g_llcm_int T.n_int (pa_cons (kv (i := 2) v_llcm_law_one) pa_nil)) (kv (i := 3) v_llcm_law_two)) pa_nil)) (by rfl))))
      (pss_one (ps_ret (pe_op op_mul (pe_op op_fdiv (kv (i := 0) v_llcm_law_a) (kv (i := 2) v_llcm_law_one)) (kv (i := 1) v_llcm_law_b)))))), ?_⟩
    walk_at "ss"
    refine k_while (fun m σ H' => H' = H ∧ ∃ x y : Int, σ = [some (.int a), some (.int b), some (.int x), some (.int y)] ∧ 0 < x ∧ 0 ≤ y ∧ Nat.gcd x.natAbs y.natAbs = Nat.gcd a.natAbs b.natAbs ∧ m = y.toNat) b.toNat ⟨rfl, a, b, rfl, ha, by omega, rfl, rfl⟩ ?_
    rintro m σ H1 ⟨rfl, x, y, rfl, hx, hy, hg, rfl⟩
    walk_at "ss"
    refine k_d (fun h0 => ?_) (fun h0 => ?_)
    · refine ⟨fun σ' H' => H' = H1 ∧ σ' = [some (.int a), some (.int b), some (.int y), some (.int (x % y))], ?_, ?_⟩
      · rintro σ' H' ⟨rfl, rfl⟩
        have q := mod_bd (x := x) h0
        refine ⟨(x % y).toNat, by omega, rfl, y, x % y, rfl, h0, q.1, ?_, rfl⟩
        rw [← hg]
        obtain ⟨n, rfl⟩ := Int.eq_ofNat_of_zero_le (Int.le_of_lt hx)
        obtain ⟨j, rfl⟩ := Int.eq_ofNat_of_zero_le hy
        rw [← Int.natCast_emod, Int.natAbs_natCast, Int.natAbs_natCast, Int.natAbs_natCast, Nat.gcd_comm j, ← Nat.gcd_rec, Nat.gcd_comm]
      · refine k_par ?_
        walk_at "ss"
        exact ⟨rfl, rfl⟩
    · obtain rfl : y = 0 := by omega
      have hxl : x ≤ a ∧ x ≤ b := by
        have e1 : x.natAbs = Nat.gcd a.natAbs b.natAbs := by simpa using hg
        have e2 : x.natAbs ≤ a.natAbs := by rw [e1]; exact Nat.gcd_le_left _ (by omega)
        have e3 : x.natAbs ≤ b.natAbs := by rw [e1]; exact Nat.gcd_le_right _ (by omega)
        omega
      have hx2 : x < 1073741824 := by omega
      walk_at "ss"
      have e : a / x * b = lcmI a b := by
        obtain ⟨n, rfl⟩ := Int.eq_ofNat_of_zero_le (Int.le_of_lt ha)
        obtain ⟨j, rfl⟩ := Int.eq_ofNat_of_zero_le (Int.le_of_lt hb)
        obtain ⟨g, rfl⟩ := Int.eq_ofNat_of_zero_le (Int.le_of_lt hx)
        have hg' : g = Nat.gcd n j := by simpa using hg
        unfold lcmI
        rw [Int.natAbs_natCast, Int.natAbs_natCast, hg', ← Int.natCast_ediv, ← Int.natCast_mul]
        congr 1
        rw [Nat.lcm, Nat.div_mul_right_comm (Nat.gcd_dvd_left n j)]
      show Q (V.int (a / x * b)) H1
      rw [e]
      exact k
end

/-! ### plans on the heap -/
inductive PlanAt (H : Hp) : Addr → Plan → Prop where
  | win {a : Addr} {w : Int} (h : H a = some (.tup [.str "window", .int w])) : PlanAt H a (.win w)
  | days {a e : Addr} {bs : List Int} {p : Int} (h : H a = some (.tup [.str "days", .ref e, .int p])) (he : H e = some (.tup (bs.map V.int))) : PlanAt H a (.days bs p)
  | op {a a1 a2 : Addr} {o : Op} {p q : Plan} (h : H a = some (.tup [.str (opS o), .ref a1, .ref a2])) (h1 : PlanAt H a1 p) (h2 : PlanAt H a2 q) : PlanAt H a (.op o p q)
theorem PlanAt.tups {H H' : Hp} (e : ∀ a xs, H a = some (.tup xs) → H' a = some (.tup xs)) : ∀ {a : Addr} {p : Plan}, PlanAt H a p → PlanAt H' a p := by
  intro a p h
  induction h with
  | win h => exact .win (e _ _ h)
  | days h he => exact .days (e _ _ h) (e _ _ he)
  | op h h1 h2 i1 i2 => exact .op (e _ _ h) i1 i2
theorem PlanAt.upB {H H' : Hp} {B : Addr} {xs : List V} (hB : H B = some (.lst xs)) (e : SameBut B H H') {a : Addr} {p : Plan} (h : PlanAt H a p) : PlanAt H' a p := h.tups fun a xs h => e _ _ (ne_of h hB (by intro q; cases q)) h
theorem PlanAt.up {H H' : Hp} (e : Same H H') {a : Addr} {p : Plan} (h : PlanAt H a p) : PlanAt H' a p := h.tups fun a xs h => e _ _ h
theorem PlanAt.ext {H H' : Hp} (e : LamX.ExtN H H') {a : Addr} {p : Plan} (h : PlanAt H a p) : PlanAt H' a p := h.tups fun a xs h => e _ _ h (fun ps z => by cases z)
theorem lcmI_pos {a b : Int} (h : 0 < a) (h' : 0 < b) : 0 < lcmI a b := by
  have : 0 < Nat.lcm a.natAbs b.natAbs := Nat.lcm_pos (by omega) (by omega)
  unfold lcmI
  omega
section
variable {w : World} {K : PySem.W.Frag} {mg : Str → Option Value} {base : Heap}
theorem k_eqT {x : Str} {H : Hp} {Q : VK} (k : Q (.bl true) H) : rEq (.str x) (.str x) H Q := k_eq rfl (by rw [decide_eq_true rfl]; exact k)
theorem k_eqF {x y : Str} {H : Hp} {Q : VK} (h : x ≠ y) (k : Q (.bl false) H) : rEq (.str x) (.str y) H Q := k_eq rfl (by rw [decide_eq_false (fun e => h (V.str.inj e))]; exact k)
theorem ne1 : (("days" : Str)) ≠ "window" := by decide +kernel
theorem neOW (o : Op) : opS o ≠ "window" := by cases o <;> decide +kernel
theorem neOD (o : Op) : opS o ≠ "days" := by cases o <;> decide +kernel
theorem last_at (xs : List V) (h : xs ≠ []) : atI xs (-1) = xs.getLast? := by
  rw [← List.dropLast_concat_getLast h, atI_last]
  simp
/-- the last border, or 0 -/
theorem k_base {K : PySem.W.Frag} {tt : TE} {σ : L2.St} {H : Hp} {Q : VK} {e : Addr} {bs : List Int} (ht : ∀ Q : VK, Q (.ref e) H → tt σ H Q) (he : H e = some (.tup (bs.map V.int))) (k : Q (.int (baseOf bs)) H) :
    tIf (tTruU K tt) (tOp (rIx K) tt (tUn (rU fun i => V.int (-i)) (tC (V.int 1)))) (tC (V.int 0)) σ H Q := by
  refine k_if ?_
  show tt σ H _
  refine ht _ ?_
  refine ⟨!(bs.map V.int).isEmpty, .inr (.inl ⟨_, SqT.of he, rfl⟩), ?_⟩
  cases bs with
  | nil => exact k_f k
  | cons c r =>
    refine k_t ?_
    refine k_op ?_
    refine ht _ ?_
    refine k_un ?_
    refine k_c ?_
    refine k_U ?_
    refine k_ixT (SqT.of he) (v := .int (baseOf (c :: r))) ?_ k
    rw [last_at _ (by simp), List.getLast?_map]
    unfold baseOf
    cases h : (c :: r).getLast? with
    | none => simp at h
    | some z => rfl
/-! ### the text of a plan -/
theorem law_days (ys : List Str) (p : Int) : Txt.join " " ([("days" : Str)] ++ ys ++ [Str.empty ++ ("then " : Str) ++ Str.ofString (toString p)]) = Txt.join " " (daysW ys p) := by
  show Builtin.Str.glued " " _ = Builtin.Str.glued " " _
  rw [StrLaws.glued_eq_join, StrLaws.glued_eq_join]
  have e : daysW ys p = (([("days" : Str)] ++ ys) ++ [("then" : Str)]) ++ [Str.ofString (toString p)] := by unfold daysW; simp
  rw [e, FinIter.join_snoc, FinIter.join_snoc, FinIter.join_snoc, if_neg (by simp), if_neg (by simp), if_neg (by simp)]
  have et : ("then " : Str) = ("then" : Str) ++ (" " : Str) := by decide +kernel
  rw [PySem.Str.empty_append, et]
  simp only [PySem.Str.append_assoc]
def spText (d : Nat) : Sp := fun vs H Q _ => ∃ a p, vs = [.ref a] ∧ PlanAt H a p ∧ p.Ok ∧ p.forms ≤ d ∧ ∀ H', Same H H' → Q (.str p.tx) H'
theorem ok_text0 (T : Tx K mg) (d : Nat) (ih : FnOk P w K mg base CX0 (d + 1) T.a_text T.fd_text P_text (spText d)) : FnOk P w K mg base CX0 (d + 2) T.a_text T.fd_text P_text (spText (d + 1)) := by
  refine T.F_text.ok sc_text (fun vs H Q E h => ?_) (fun cdv A outer s H vs Q E hr h => ?_)
  · obtain ⟨a, p, rfl, _⟩ := h
    rfl
  · obtain ⟨a, p, rfl, ha, op, hf, k⟩ := h
    have nd := sc_text.nd
    have tl := tx_len op
    refine ⟨_, (pss_cons (ps_if (pt_cmpR op_eq (pe_ix (kix K) (kv (i := 0) v_text_law_plan) pe_int (fun _ _ => rfl)) pe_str (nomark _)) (pss_one (ps_ret (pe_joined (.cons pe_str (.cons (pe_fmt (pe_ix (kix K) (kv (i := 0) v_text_law_plan) pe_int (fun _ _ => rfl))) .nil))))) pss_nil)
      (pss_cons (ps_if (pt_cmpR op_eq (pe_ix (kix K) (kv (i := 0) v_text_law_plan) pe_int (fun _ _ => rfl)) pe_str (nomark _)) (pss_one (ps_ret (kpe_join K pe_str (pe_op kop_add (pe_op kop_add (pe_lst (pa_cons pe_str pa_nil)) (pe_lc (own := [("_law_edge", 1)]) rfl nd (kpi_tup K (pe_ix (kix K) (kv (i := 0) v_text_law_plan) pe_int (fun _ _ => rfl))) ok_cs_text_1 (fun _ _ _ _ _ => (kgL (i := 1) nd l_text_1_law_edge)) (fun _ _ _ _ _ => pts_nil) (fun _ _ _ _ _ => (kcT b_str (by decide) (by decide) kc_str g_text_1_str T.n_str (pa_cons (kv (i := 1) v_text_1_law_edge) pa_nil))))) (pe_lst (pa_cons (pe_joined (.cons pe_str (.cons (pe_fmt (pe_ix (kix K) (kv (i := 0) v_text_law_plan) pe_int (fun _ _ => rfl))) .nil))) pa_nil)))))) pss_nil)
      (pss_one (ps_ret (pe_joined (.cons (pe_fmt (pe_ix (kix K) (kv (i := 0) v_text_law_plan) pe_int (fun _ _ => rfl))) (.cons pe_str (.cons (pe_fmt (pe_call ih (hr.mono (by first | decide | omega)) g_text_law_text T.m_text T.k_text T.b_text .nil pass0 (pa_cons (pe_ix (kix K) (kv (i := 0) v_text_law_plan) pe_int (fun _ _ => rfl)) pa_nil))) (.cons pe_str (.cons (pe_fmt (pe_call ih (hr.mono (by first | decide | omega)) g_text_law_text T.m_text T.k_text T.b_text .nil pass0 (pa_cons (pe_ix (kix K) (kv (i := 0) v_text_law_plan) pe_int (fun _ _ => rfl)) pa_nil))) (.cons pe_str .nil))))))))))), ?_⟩
    cases ha with
    | @win _ n h =>
      have l1 : ("window " : Str).length = 7 := by decide +kernel
      have l2 : (Str.ofString (toString n)).length ≤ 5 := len_text (k := 4) (by decide) (by have := op.1; have := op.2; omega)
      walk_at "ss"
      refine k_eqT ?_
      walk_at "ss"
      refine k_jsV (by simp only [PySem.Str.length_append, len_empty, l1]; omega) ?_
      walk_at "ss"
      refine k_fmtI (by have := op.1; have := op.2; omega) ?_
      refine k_jsV (by simp only [PySem.Str.length_append, len_empty, l1]; omega) ?_
      walk_at "ss"
      exact k _ (Same.refl _)
    | @days _ e bs p h he =>
      obtain ⟨hasc, hle, hlen, hp1, hp2⟩ := id op
      walk_at "ss"
      refine k_eqF ne1 ?_
      walk_at "ss"
      refine k_eqT ?_
      walk_at "ss"
      intro t3 n3
      generalize e3 : upd H t3 _ = H3
      have s3 := upd_sm e3 n3
      have h3 := upd_at e3
      clear e3
      walk_at "ss"
      refine k_ixT (SqT.of (s3 _ _ h)) rfl ?_
      have he3 := s3 _ _ he
      refine k_iT (SqT.of he3) ?_
      intro D nD
      refine k_lcTup (bs.map V.int) (fun i H' => H' D = some (.lst (((bs.take i).map fun b => Str.ofString (toString b)).map V.str)) ∧ SameBut D H3 H') ⟨upd_same, (SameBut.refl _ _).put⟩ ?_ ?_ ?_
      · rintro i H' _ ⟨hD', sm'⟩
        exact SqT.of (sm' _ _ (ne_of_none he3 nD) he3)
      · rintro i x H' hx ⟨hD', sm'⟩
        obtain ⟨z, hz, rfl⟩ : ∃ z, bs[i]? = some z ∧ x = V.int z := by
          rw [List.getElem?_map] at hx
          cases hq : bs[i]? with
          | none => rw [hq] at hx; cases hx
          | some c => rw [hq] at hx; exact ⟨c, rfl, (Option.some.inj hx).symm⟩
        have hm := List.mem_of_getElem? hz
        have hz1 := hle z hm
        have hz0 := asc_lt hasc z hm
        have hi2 : i < bs.length := (List.getElem?_eq_some_iff.mp hz).1
        refine k_gName ?_
        refine ⟨rfl, ?_⟩
        walk_at "ss"
        refine k_str1 (by omega) ?_
        refine ⟨_, hD', small_lt (by simp; omega), ?_, sm'.put⟩
        rw [upd_same, List.take_add_one, hz]
        simp
      · rintro H4 ⟨hD', sm'⟩
        rw [List.length_map, List.take_length] at hD'
        have h34 := sm' _ _ (ne_of_none h3 nD) h3
        have s34 : Same H3 H4 := fun b o h => sm' b o (ne_of_none h nD) h
        refine k_addL h34 hD' (by simp; omega) ?_
        intro t5 n5
        generalize e5 : upd H4 t5 _ = H5
        have s5 := upd_sm e5 n5
        have h5 := upd_at e5
        clear e5
        have l1 : ("then " : Str).length = 5 := by decide +kernel
        have l2 : (Str.ofString (toString p)).length ≤ 5 := len_text (k := 4) (by decide) (by omega)
        walk_at "ss"
        refine k_jsV (by simp only [PySem.Str.length_append, len_empty, l1]; omega) ?_
        walk_at "ss"
        refine k_ixT (SqT.of (s5 _ _ (s34 _ _ (s3 _ _ h)))) rfl ?_
        refine k_fmtI (by omega) ?_
        refine k_jsV (by simp only [PySem.Str.length_append, len_empty, l1]; omega) ?_
        walk_at "ss"
        intro t6 n6
        generalize e6 : upd H5 t6 _ = H6
        have s6 := upd_sm e6 n6
        have h6 := upd_at e6
        clear e6
        refine k_addL (s6 _ _ h5) h6 (by simp; omega) ?_
        intro t7 n7
        generalize e7 : upd H6 t7 _ = H7
        have s7 := upd_sm e7 n7
        have h7 := upd_at e7
        clear e7
        have q7 : H7 t7 = some (.lst (([("days" : Str)] ++ (bs.map fun b => Str.ofString (toString b)) ++ [Str.empty ++ ("then " : Str) ++ Str.ofString (toString p)]).map V.str)) := by
          rw [h7]
          simp only [List.map_append, List.map_cons, List.map_nil]
        have lz : ∀ y ∈ [("days" : Str)] ++ (bs.map fun b => Str.ofString (toString b)) ++ [Str.empty ++ ("then " : Str) ++ Str.ofString (toString p)], y.length ≤ 10 := by
          intro y hy
          simp only [List.mem_append, List.mem_cons, List.not_mem_nil, or_false] at hy
          have l9 : ("days" : Str).length = 4 := by decide +kernel
          rcases hy with (rfl | hy) | rfl
          · omega
          · obtain ⟨b, hb, rfl⟩ := List.mem_map.mp hy
            have := hle b hb
            have := asc_lt hasc b hb
            exact Nat.le_trans (len_text (k := 4) (by decide) (by omega)) (by decide)
          · simp only [PySem.Str.length_append, len_empty, l1]; omega
        have lsum := sum_le lz
        have ll : ([("days" : Str)] ++ (bs.map fun b => Str.ofString (toString b)) ++ [Str.empty ++ ("then " : Str) ++ Str.ofString (toString p)]).length ≤ 14 := by simp; omega
        have l3 : (" " : Str).length = 1 := by decide +kernel
        refine k_joinL (SqL.of q7) (by rw [l3]; omega) fun out eo => ?_
        subst eo
        rw [law_days]
        exact k _ ((((s3.trans s34).trans s5).trans s6).trans s7)
    | @op _ a1 a2 o p q h h1 h2 =>
      obtain ⟨op1, oq, _, _⟩ := id op
      have f1 : 1 + p.forms + q.forms ≤ d + 1 := hf
      have t0 := opS_len o
      have t1 := tx_len op1
      have t2 := tx_len oq
      have f6 := op.2.2.1
      have f6 : 1 + p.forms + q.forms ≤ 6 := f6
      have l1 : ("(" : Str).length = 1 := by decide +kernel
      have l2 : (", " : Str).length = 2 := by decide +kernel
      have l3 : (")" : Str).length = 1 := by decide +kernel
      walk_at "ss"
      refine k_eqF (neOW o) ?_
      walk_at "ss"
      refine k_eqF (neOD o) ?_
      walk_at "ss"
      refine k_fmtS (by omega) ?_
      refine k_jsV (by simp only [PySem.Str.length_append, len_empty]; omega) ?_
      walk_at "ss"
      refine k_jsV (by simp only [PySem.Str.length_append, len_empty, l1]; omega) ?_
      walk_at "ss"
      refine ⟨a1, p, rfl, h1, op1, by omega, fun H1 s1 => ?_⟩
      have hp1 := s1 _ _ h
      refine k_fmtS (by omega) ?_
      refine k_jsV (by simp only [PySem.Str.length_append, len_empty, l1]; omega) ?_
      walk_at "ss"
      refine k_jsV (by simp only [PySem.Str.length_append, len_empty, l1, l2]; omega) ?_
      walk_at "ss"
      refine ⟨a2, q, rfl, h2.up s1, oq, by omega, fun H2 s2 => ?_⟩
      refine k_fmtS (by omega) ?_
      refine k_jsV (by simp only [PySem.Str.length_append, len_empty, l1, l2]; omega) ?_
      walk_at "ss"
      refine k_jsV (by simp only [PySem.Str.length_append, len_empty, l1, l2, l3]; omega) ?_
      walk_at "ss"
      exact k _ (s1.trans s2)
theorem okr_text (T : Tx K mg) : ∀ d, FnOk P w K mg base CX0 (d + 1) T.a_text T.fd_text P_text (spText d)
  | 0 => by
    have h0 : ∀ vs H Q E, spText 0 vs H Q E → False := fun vs H Q E h => by
      obtain ⟨a, p, _, _, _, hf, _⟩ := h
      have := p.forms_pos
      omega
    exact ⟨fun vs H Q E h => (h0 _ _ _ _ h).elim, fun A outer s H args us vs Q E _ _ _ _ h => (h0 _ _ _ _ h).elim⟩
  | d + 1 => ok_text0 T d (okr_text T d)
theorem ok_text (T : Tx K mg) : FnOk P w K mg base CX0 7 T.a_text T.fd_text P_text (spText 6) := okr_text T 6
/-! ### the facts of a plan -/
def spFacts (d : Nat) : Sp := fun vs H Q _ => ∃ a p, vs = [.ref a] ∧ PlanAt H a p ∧ p.Ok ∧ p.forms ≤ d ∧ p.forms ≤ 6 ∧ ∀ r H', Same H H' → H' r = some (.tup [.int (p.forms : Nat), .int p.period, .int p.bend]) → Q (.ref r) H'
theorem ok_facts0 (T : Tx K mg) (d : Nat) (ih : FnOk P w K mg base CX0 (d + 2) T.a_facts T.fd_facts P_facts (spFacts d)) : FnOk P w K mg base CX0 (d + 3) T.a_facts T.fd_facts P_facts (spFacts (d + 1)) := by
  refine T.F_facts.ok sc_facts (fun vs H Q E h => ?_) (fun cdv A outer s H vs Q E hr h => ?_)
  · obtain ⟨a, p, rfl, _⟩ := h
    rfl
  · obtain ⟨a, p, rfl, ha, op, hf, hf6, k⟩ := h
    have nd := sc_facts.nd
    refine ⟨_, (pss_cons (ps_if (pt_cmpR op_eq (pe_ix (kix K) (kv (i := 0) v_facts_law_plan) pe_int (fun _ _ => rfl)) pe_str (nomark _)) (pss_one (ps_ret (pe_tup (pa_cons pe_int (pa_cons pe_int (pa_cons pe_int pa_nil)))))) pss_nil)
      (pss_cons (ps_if (pt_cmpR op_eq (pe_ix (kix K) (kv (i := 0) v_facts_law_plan) pe_int (fun _ _ => rfl)) pe_str (nomark _)) (pss_one (ps_ret (pe_tup (pa_cons pe_int (pa_cons (pe_ix (kix K) (kv (i := 0) v_facts_law_plan) pe_int (fun _ _ => rfl)) (pa_cons (pe_ifExp (kpt_truth K (pe_ix (kix K) (kv (i := 0) v_facts_law_plan) pe_int (fun _ _ => rfl))) (pe_ix (kix K) (pe_ix (kix K) (kv (i := 0) v_facts_law_plan) pe_int (fun _ _ => rfl)) (pe_un un_neg pe_int) (fun _ _ => rfl)) pe_int) pa_nil)))))) pss_nil)
      (pss_cons (ps_par (i := 1) (j := 2) rfl nd rfl rfl (by decide) (locB_ok l_facts_law_one) (locB_ok l_facts_law_two) (pa_cons (pe_call ih (hr.mono (by first | decide | omega)) g_facts_law_facts T.m_facts T.k_facts T.b_facts .nil pass0 (pa_cons (pe_ix (kix K) (kv (i := 0) v_facts_law_plan) pe_int (fun _ _ => rfl)) pa_nil)) (pa_cons (pe_call ih (hr.mono (by first | decide | omega)) g_facts_law_facts T.m_facts T.k_facts T.b_facts .nil pass0 (pa_cons (pe_ix (kix K) (kv (i := 0) v_facts_law_plan) pe_int (fun _ _ => rfl)) pa_nil)) pa_nil)) (by rfl))
      (pss_one (ps_ret (pe_tup (pa_cons (pe_op kop_add (pe_op kop_add pe_int (pe_ix (kix K) (kv (i := 1) v_facts_law_one) pe_int (fun _ _ => rfl))) (pe_ix (kix K) (kv (i := 2) v_facts_law_two) pe_int (fun _ _ => rfl))) (pa_cons (pe_call (ok_llcm T) (hr.mono (by first | decide | omega)) g_facts_law_lcm T.m_llcm T.k_llcm T.b_llcm .nil pass0 (pa_cons (pe_ix (kix K) (kv (i := 1) v_facts_law_one) pe_int (fun _ _ => rfl)) (pa_cons (pe_ix (kix K) (kv (i := 2) v_facts_law_two) pe_int (fun _ _ => rfl)) pa_nil))) (pa_cons (kcB b_max (by decide) (by decide) (kc_max2 rfl) g_facts_max T.n_max (pa_cons (pe_ix (kix K) (kv (i := 1) v_facts_law_one) pe_int (fun _ _ => rfl)) (pa_cons (pe_ix (kix K) (kv (i := 2) v_facts_law_two) pe_int (fun _ _ => rfl)) pa_nil))) pa_nil))))))))), ?_⟩
    cases ha with
    | win h =>
      walk_at "ss"
      refine k_eqT ?_
      walk_at "ss"
      intro t nt
      exact k t _ (same_new nt) upd_same
    | days h he =>
      rename_i e bs p
      walk_at "ss"
      refine k_eqF ne1 ?_
      walk_at "ss"
      refine k_eqT ?_
      walk_at "ss"
      refine k_base (fun Q q => k_op (k_var rfl (k_c (k_ixT (SqT.of h) rfl q)))) he ?_
      walk_at "ss"
      intro t nt
      exact k t _ (same_new nt) upd_same
    | op h h1 h2 =>
      rename_i a1 a2 o p q
      obtain ⟨op, oq, _, _⟩ := op
      have f6 : 1 + p.forms + q.forms ≤ 6 := hf6
      have f1 : 1 + p.forms + q.forms ≤ d + 1 := hf
      walk_at "ss"
      refine k_eqF (neOW o) ?_
      walk_at "ss"
      refine k_eqF (neOD o) ?_
      walk_at "ss"
      refine ⟨a1, p, rfl, h1, op, by omega, by omega, fun r1 H1 s1 hr1 => ?_⟩
      have h := s1 _ _ h
      walk_at "ss"
      refine ⟨a2, q, rfl, h2.up s1, oq, by omega, by omega, fun r2 H2 s2 hr2 => ?_⟩
      have s12 := s1.trans s2
      have hr1 := s2 _ _ hr1
      walk_at "ss"
      have pp := period_pos op
      have pq := period_pos oq
      refine ⟨p.period, q.period, rfl, pp.1, pq.1, by omega, by omega, .inl (by omega), ?_⟩
      walk_at "ss"
      intro t nt
      have ef : (1 : Int) + (p.forms : Nat) + (q.forms : Nat) = ((Plan.op o p q).forms : Nat) := by
        show _ = ((1 + p.forms + q.forms : Nat) : Int)
        omega
      rw [ef]
      exact k t _ (s12.trans (same_new nt)) upd_same
theorem okr_facts (T : Tx K mg) : ∀ d, FnOk P w K mg base CX0 (d + 2) T.a_facts T.fd_facts P_facts (spFacts d)
  | 0 => by
    have h0 : ∀ vs H Q E, spFacts 0 vs H Q E → False := fun vs H Q E h => by
      obtain ⟨a, p, _, _, _, hf, _⟩ := h
      have := p.forms_pos
      omega
    exact ⟨fun vs H Q E h => (h0 _ _ _ _ h).elim, fun A outer s H args us vs Q E _ _ _ _ h => (h0 _ _ _ _ h).elim⟩
  | d + 1 => ok_facts0 T d (okr_facts T d)
theorem ok_facts (T : Tx K mg) : FnOk P w K mg base CX0 8 T.a_facts T.fd_facts P_facts (spFacts 6) := okr_facts T 6
end

section
variable {w : World} {K : PySem.W.Frag} {mg : Str → Option Value} {base : Heap}
/-! ### drawn values -/
theorem k_disp1 {tk tv : TE} {σ : L2.St} {H : Hp} {Q : VK} (h : ∀ p, H p = none → tk σ (upd H p (.dK [])) fun x H1 => tv σ H1 fun y H2 => H2 p = some (.dK []) ∧ ∃ kvs : List (Key × V), [(x, y)] = kvs.map (fun kv => (kV kv.1, kv.2)) ∧ kvs.length ≤ 15 ∧ Q (.ref p) (upd H2 p (.dK (mergeK [] kvs)))) : tDisp [(tk, tv)] σ H Q := h
def It (G G' : Hp) (x : V) : Prop := ScB x ∨ ∃ a, x = .ref a ∧ G' a = some (.tup [.int 1, .int 2]) ∧ G a = none
theorem It.gd {F : Addr → Prop} {G G' : Hp} {x : V} (h : It G G' x) (hFG : ∀ a, F a → G a = none → False) : Gd F G' 1 x := by
  rcases h with h | ⟨a, rfl, h, n⟩
  · exact .inl h
  · refine .inr (.inl ⟨a, _, rfl, fun z => hFG a z n, .inr h, by decide, fun x hx => ?_⟩)
    simp only [List.mem_cons, List.not_mem_nil, or_false] at hx
    rcases hx with rfl | rfl <;> exact .int _
/-- data of depth 2 at most -/
def Ov (F : Addr → Prop) (G : Hp) (v : V) : Prop := Gd F G 2 v
theorem ov {F : Addr → Prop} {G : Hp} {v : V} (h : Gd F G 2 v) : Ov F G v := h
def spOdd (K : PySem.W.Frag) : Sp := fun vs H Q _ => ∃ (F : Addr → Prop) (G0 G : Hp) (b : Addr) (β : HO), vs = [.ref b] ∧ H = upd G b β ∧ Bag K G0 G b β ∧ (∀ a, F a → G a = none → False) ∧ ∀ (v : V) (G' : Hp) (β' : HO), Same G G' → Bag K G0 G' b β' → Ov F G' v → Q v (upd G' b β')
theorem ok_odd (T : Tx K mg) : FnOk P w K mg base CX0 3 T.a_odd T.fd_odd P_odd (spOdd K) := by
  refine T.F_odd.ok sc_odd (fun vs H Q E h => ?_) (fun cdv A outer s H vs Q E hr h => ?_)
  · obtain ⟨F, G0, G, b, β, rfl, _⟩ := h
    rfl
  · obtain ⟨F, G0, G, b, β, rfl, rfl, hb, hFG, k⟩ := h
    have nd := sc_odd.nd
    refine ⟨_, (pss_cons (ks_setL (i := 1) nd l_odd_law_pick (pe_call (ok_draw T) (hr.mono (by first | decide | omega)) g_odd_law_draw T.m_draw T.k_draw T.b_draw .nil pass0 (pa_cons (kv (i := 0) v_odd_law_bag_here) (pa_cons pe_int pa_nil))))
      (pss_cons (ps_if (pt_cmpR op_eq (kv (i := 1) v_odd_law_pick) pe_int (nomark _)) (pss_one (ps_ret (pe_call (ok_of T) (hr.mono (by first | decide | omega)) g_odd_law_of T.m_of T.k_of T.b_of .nil pass0 (pa_cons (kv (i := 0) v_odd_law_bag_here) (pa_cons (pe_lst (pa_cons pe_non (pa_cons pe_bl (pa_cons pe_bl pa_nil)))) pa_nil))))) pss_nil)
      (pss_cons (ps_if (pt_cmpR op_eq (kv (i := 1) v_odd_law_pick) pe_int (nomark _)) (pss_one (ps_ret (pe_call (ok_of T) (hr.mono (by first | decide | omega)) g_odd_law_of T.m_of T.k_of T.b_of .nil pass0 (pa_cons (kv (i := 0) v_odd_law_bag_here) (pa_cons (pe_lst (pa_cons pe_int (pa_cons pe_int (pa_cons (pe_un un_neg pe_int) (pa_cons pe_int (pa_cons pe_int (pa_cons pe_int (pa_cons pe_int (pa_cons (pe_un un_neg pe_int) pa_nil))))))))) pa_nil))))) pss_nil)
      (pss_cons (ps_if (pt_cmpR op_eq (kv (i := 1) v_odd_law_pick) pe_int (nomark _)) (pss_one (ps_ret (pe_call (ok_of T) (hr.mono (by first | decide | omega)) g_odd_law_of T.m_of T.k_of T.b_of .nil pass0 (pa_cons (kv (i := 0) v_odd_law_bag_here) (pa_cons (pe_lst (pa_cons pe_str (pa_cons pe_str (pa_cons pe_str (pa_cons pe_str (pa_cons pe_str (pa_cons pe_str (pa_cons pe_str (pa_cons pe_str pa_nil))))))))) pa_nil))))) pss_nil)
      (pss_cons (ps_if (pt_cmpR op_eq (kv (i := 1) v_odd_law_pick) pe_int (nomark _)) (pss_one (ps_ret (kcT b_tuple (by decide) (by decide) (kc_tuple K) g_odd_tuple T.n_tuple (pa_cons (pe_lc (own := [("_law_k", 2)]) rfl nd (pi_range1 g_odd_range T.n_range (pa_cons (pe_call (ok_draw T) (hr.mono (by first | decide | omega)) g_odd_law_draw T.m_draw T.k_draw T.b_draw .nil pass0 (pa_cons (kv (i := 0) v_odd_law_bag_here) (pa_cons pe_int pa_nil))) pa_nil)) ok_cs_odd_2 (fun _ _ _ _ _ => (kgL (i := 2) nd l_odd_2_law_k)) (fun _ _ _ _ _ => pts_nil) (fun _ _ _ _ _ => (pe_call (ok_of T) (hr.mono (by first | decide | omega)) g_odd_2_law_of T.m_of T.k_of T.b_of .nil pass0 (pa_cons (kv (i := 0) v_odd_2_law_bag_here) (pa_cons (pe_lst (pa_cons pe_int (pa_cons pe_str (pa_cons pe_non (pa_cons pe_bl (pa_cons pe_int pa_nil)))))) pa_nil))))) pa_nil)))) pss_nil)
      (pss_cons (ps_if (pt_cmpR op_eq (kv (i := 1) v_odd_law_pick) pe_int (nomark _)) (pss_one (ps_ret (pe_lc (own := [("_law_k", 2)]) rfl nd (pi_range1 g_odd_range T.n_range (pa_cons (pe_call (ok_draw T) (hr.mono (by first | decide | omega)) g_odd_law_draw T.m_draw T.k_draw T.b_draw .nil pass0 (pa_cons (kv (i := 0) v_odd_law_bag_here) (pa_cons pe_int pa_nil))) pa_nil)) ok_cs_odd_1 (fun _ _ _ _ _ => (kgL (i := 2) nd l_odd_1_law_k)) (fun _ _ _ _ _ => pts_nil) (fun _ _ _ _ _ => (pe_call (ok_of T) (hr.mono (by first | decide | omega)) g_odd_1_law_of T.m_of T.k_of T.b_of .nil pass0 (pa_cons (kv (i := 0) v_odd_1_law_bag_here) (pa_cons (pe_lst (pa_cons pe_int (pa_cons pe_str (pa_cons pe_non (pa_cons pe_bl (pa_cons (pe_tup (pa_cons pe_int (pa_cons pe_int pa_nil))) pa_nil)))))) pa_nil))))))) pss_nil)
      (pss_one (ps_ret (pe_call (ok_of T) (hr.mono (by first | decide | omega)) g_odd_law_of T.m_of T.k_of T.b_of .nil pass0 (pa_cons (kv (i := 0) v_odd_law_bag_here) (pa_cons (pe_lst (pa_cons pe_dnewK (pa_cons (pe_disp (pps_cons pe_str pe_int pps_nil) (by rfl) (by rfl) (fun z => by cases z) (by decide)) (pa_cons (pe_disp (pps_cons pe_int (pe_lst (pa_cons pe_int pa_nil)) pps_nil) (by rfl) (by rfl) (fun z => by cases z) (by decide)) (pa_cons (pe_disp (pps_cons pe_str (pe_disp (pps_cons pe_str (pe_tup (pa_cons pe_int (pa_cons pe_non pa_nil))) pps_nil) (by rfl) (by rfl) (fun z => by cases z) (by decide)) pps_nil) (by rfl) (by rfl) (fun z => by cases z) (by decide)) pa_nil))))) pa_nil))))))))))), ?_⟩
    walk_at "ss"
    refine k_draw hb (by decide) (by decide) fun pick β1 e0 e1 hb1 => ?_
    walk_at "ss"
    refine k_d (fun _ => ?_) (fun _ => ?_)
    · walk_at "ss"
      intro l nt_l
      rw [upd_swap (up_none nt_l).2]
      generalize eG_l : upd _ l _ = G1
      obtain ⟨nb1, sm1, hl, nt_l, nG_l⟩ := new_facts hb1.nb nt_l eG_l
      clear eG_l
      have hb2 := hb1.up sm1 nb1
      walk_at "ss"
      refine k_of hb2 (SqL.of hl) (by simp) (by simp) fun v β3 hv hb3 => ?_
      refine k v G1 β3 sm1 hb3 ?_
      simp only [List.mem_cons, List.not_mem_nil, or_false] at hv
      rcases hv with rfl | rfl | rfl
      · exact ov (Gd.sc .non 2)
      · exact ov (Gd.sc (.bl _) 2)
      · exact ov (Gd.sc (.bl _) 2)
    walk_at "ss"
    refine k_d (fun _ => ?_) (fun _ => ?_)
    · walk_at "ss"
      intro l nt_l
      rw [upd_swap (up_none nt_l).2]
      generalize eG_l : upd _ l _ = G1
      obtain ⟨nb1, sm1, hl, nt_l, nG_l⟩ := new_facts hb1.nb nt_l eG_l
      clear eG_l
      have hb2 := hb1.up sm1 nb1
      walk_at "ss"
      refine k_of hb2 (SqL.of hl) (by simp) (by simp) fun v β3 hv hb3 => ?_
      refine k v G1 β3 sm1 hb3 ?_
      simp only [List.mem_cons, List.not_mem_nil, or_false] at hv
      rcases hv with rfl | rfl | rfl | rfl | rfl | rfl | rfl | rfl <;> exact ov (Gd.sc (.int _) 2)
    walk_at "ss"
    refine k_d (fun _ => ?_) (fun _ => ?_)
    · walk_at "ss"
      intro l nt_l
      rw [upd_swap (up_none nt_l).2]
      generalize eG_l : upd _ l _ = G1
      obtain ⟨nb1, sm1, hl, nt_l, nG_l⟩ := new_facts hb1.nb nt_l eG_l
      clear eG_l
      have hb2 := hb1.up sm1 nb1
      walk_at "ss"
      refine k_of hb2 (SqL.of hl) (by simp) (by simp) fun v β3 hv hb3 => ?_
      refine k v G1 β3 sm1 hb3 ?_
      simp only [List.mem_cons, List.not_mem_nil, or_false] at hv
      rcases hv with rfl | rfl | rfl | rfl | rfl | rfl | rfl | rfl <;> exact ov (Gd.sc (.str _ (by decide +kernel)) 2)
    walk_at "ss"
    refine k_d (fun _ => ?_) (fun _ => ?_)
    · walk_at "ss"
      refine k_draw hb1 (by decide) (by decide) fun n β2 n0 n1 hb2 => ?_
      walk_at "ss"
      refine k_r1 ⟨by omega, by omega⟩ ?_
      intro D nD
      obtain ⟨nD1, nDb⟩ := up_none nD
      refine k_lcRange (n := n.toNat) (fun i H' => ∃ (xs : List V) (G' : Hp) (β' : HO), H' = upd G' b β' ∧ Bag K G0 G' b β' ∧ Same G G' ∧ G' D = some (.lst xs) ∧ xs.length = i ∧ ∀ x ∈ xs, ScB x)
        ⟨[], _, β2, upd_swap nDb, hb2.up (same_new nD1) (by rw [upd_ne (Ne.symm nDb)]; exact hb2.nb), same_new nD1, upd_same, rfl, fun x hx => (by cases hx)⟩ ?_ ?_
      · rintro i H' hi ⟨xs, G1, β3, rfl, hb3, sm1, hD, hlen, hall⟩
        refine k_gName ?_
        refine ⟨rfl, ?_⟩
        walk_at "ss"
        intro l nt_l
        rw [upd_swap (up_none nt_l).2]
        generalize eG_l : upd _ l _ = G2
        obtain ⟨nb2, sm2, hl, nt_l, nG_l⟩ := new_facts hb3.nb nt_l eG_l
        clear eG_l
        have hb4 := hb3.up sm2 nb2
        walk_at "ss"
        refine k_of hb4 (SqL.of hl) (by simp) (by simp) fun v β5 hv hb5 => ?_
        refine ⟨_, up_get hb5.nb (sm2 _ _ hD), small_lt (by omega), xs ++ [v], upd G2 D (.lst (xs ++ [v])), β5, upd_swap nDb, hb5.up0 (same_put hb5.sm (g_none hb.sm nD1)) (by rw [upd_ne (Ne.symm nDb)]; exact nb2), same_put (sm1.trans sm2) nD1, upd_same, by simp [hlen], fun x hx => ?_⟩
        rcases List.mem_append.mp hx with hx | hx
        · exact hall x hx
        · rw [List.mem_singleton.mp hx]
          simp only [List.mem_cons, List.not_mem_nil, or_false] at hv
          rcases hv with rfl | rfl | rfl | rfl | rfl <;> first | exact .int _ | exact .non | exact .bl _ | exact .str _ (by decide +kernel)
      · rintro H' ⟨xs, G1, β3, rfl, hb3, sm1, hD, hlen, hall⟩
        walk_at "ss"
        refine k_tupleL (SqL.of (up_get hb3.nb hD)) ?_
        intro t nt_t
        rw [upd_swap (up_none nt_t).2]
        generalize eG_t : upd _ t _ = G2
        obtain ⟨nb2, sm2, ht, nt_t, nG_t⟩ := new_facts hb3.nb nt_t eG_t
        clear eG_t
        exact k _ G2 β3 (sm1.trans sm2) (hb3.up sm2 nb2) (ov (.inr (.inl ⟨t, xs, rfl, fun z => hFG t z (g_none sm1 nG_t), .inr ht, by omega, fun x hx => Gd.sc (hall x hx) 1⟩)))
    walk_at "ss"
    refine k_d (fun _ => ?_) (fun _ => ?_)
    · walk_at "ss"
      refine k_draw hb1 (by decide) (by decide) fun n β2 n0 n1 hb2 => ?_
      walk_at "ss"
      refine k_r1 ⟨by omega, by omega⟩ ?_
      intro D nD
      obtain ⟨nD1, nDb⟩ := up_none nD
      refine k_lcRange (n := n.toNat) (fun i H' => ∃ (xs : List V) (G' : Hp) (β' : HO), H' = upd G' b β' ∧ Bag K G0 G' b β' ∧ Same G G' ∧ G' D = some (.lst xs) ∧ xs.length = i ∧ ∀ x ∈ xs, It G G' x)
        ⟨[], _, β2, upd_swap nDb, hb2.up (same_new nD1) (by rw [upd_ne (Ne.symm nDb)]; exact hb2.nb), same_new nD1, upd_same, rfl, fun x hx => (by cases hx)⟩ ?_ ?_
      · rintro i H' hi ⟨xs, G1, β3, rfl, hb3, sm1, hD, hlen, hall⟩
        refine k_gName ?_
        refine ⟨rfl, ?_⟩
        walk_at "ss"
        intro t nt_t
        rw [upd_swap (up_none nt_t).2]
        generalize eG_t : upd _ t _ = G2
        obtain ⟨nb2, sm2, ht, nt_t, nG_t⟩ := new_facts hb3.nb nt_t eG_t
        clear eG_t
        walk_at "ss"
        intro l nt_l
        rw [upd_swap (up_none nt_l).2]
        generalize eG_l : upd _ l _ = G3
        obtain ⟨nb3, sm3, hl, nt_l, nG_l⟩ := new_facts nb2 nt_l eG_l
        clear eG_l
        have hb4 := hb3.up (sm2.trans sm3) nb3
        walk_at "ss"
        refine k_of hb4 (SqL.of hl) (by simp) (by simp) fun v β5 hv hb5 => ?_
        have hD3 := sm3 _ _ (sm2 _ _ hD)
        refine ⟨_, up_get hb5.nb (sm3 _ _ (sm2 _ _ hD)), small_lt (by omega), xs ++ [v], upd G3 D (.lst (xs ++ [v])), β5, upd_swap nDb, hb5.up0 (same_put hb5.sm (g_none hb.sm nD1)) (by rw [upd_ne (Ne.symm nDb)]; exact nb3), same_put ((sm1.trans sm2).trans sm3) nD1, upd_same, by simp [hlen], fun x hx => ?_⟩
        rcases List.mem_append.mp hx with hx | hx
        · rcases hall x hx with h | ⟨a, rfl, h, n⟩
          · exact .inl h
          · have h3 := sm3 _ _ (sm2 _ _ h)
            exact .inr ⟨a, rfl, (upd_ne (ne_of h3 hD3 (by intro q; cases q))).trans h3, n⟩
        · rw [List.mem_singleton.mp hx]
          simp only [List.mem_cons, List.not_mem_nil, or_false] at hv
          rcases hv with rfl | rfl | rfl | rfl | rfl
          · exact .inl (.int _)
          · exact .inl (.str _ (by decide +kernel))
          · exact .inl .non
          · exact .inl (.bl _)
          · have h3 := sm3 _ _ ht
            exact .inr ⟨t, rfl, (upd_ne (ne_of h3 hD3 (by intro q; cases q))).trans h3, g_none sm1 nG_t⟩
      · rintro H' ⟨xs, G1, β3, rfl, hb3, sm1, hD, hlen, hall⟩
        walk_at "ss"
        exact k _ G1 β3 sm1 hb3 (ov (.inr (.inl ⟨D, xs, rfl, fun z => hFG D z nD1, .inl hD, by omega, fun x hx => (hall x hx).gd hFG⟩)))
    walk_at "ss"
    refine k_dnew ?_
    intro q1 nt_q1
    rw [upd_swap (up_none nt_q1).2]
    generalize eG_q1 : upd _ q1 _ = G1
    obtain ⟨nb1, sm1, hq1, nt_q1, nG_q1⟩ := new_facts hb1.nb nt_q1 eG_q1
    clear eG_q1
    walk_at "ss"
    refine k_disp1 ?_
    intro q2 nt_q2
    rw [upd_swap (up_none nt_q2).2]
    generalize eG_q2 : upd _ q2 _ = G2
    obtain ⟨nb2, sm2, hq2, nt_q2, nG_q2⟩ := new_facts nb1 nt_q2 eG_q2
    clear eG_q2
    walk_at "ss"
    refine ⟨(up_get nb2 hq2), [(.inr "a", _)], rfl, Nat.le_of_ble_eq_true rfl, ?_⟩
    rw [upd_swap nt_q2]
    generalize eG : upd G2 q2 _ = G3
    have s13 : Same G1 G3 := eG ▸ same_put sm2 nG_q2
    have hq2 := upd_at eG
    have nb3 : G3 b = none := by rw [← eG, upd_ne (Ne.symm nt_q2)]; exact nb2
    clear eG
    walk_at "ss"
    refine k_disp1 ?_
    intro q3 nt_q3
    rw [upd_swap (up_none nt_q3).2]
    generalize eG_q3 : upd _ q3 _ = G4
    obtain ⟨nb4, sm4, hq3, nt_q3, nG_q3⟩ := new_facts nb3 nt_q3 eG_q3
    clear eG_q3
    walk_at "ss"
    intro l5 nt_l5
    rw [upd_swap (up_none nt_l5).2]
    generalize eG_l5 : upd _ l5 _ = G5
    obtain ⟨nb5, sm5, hl5, nt_l5, nG_l5⟩ := new_facts nb4 nt_l5 eG_l5
    clear eG_l5
    refine ⟨(up_get nb5 (sm5 _ _ hq3)), [(.inl 1, _)], rfl, Nat.le_of_ble_eq_true rfl, ?_⟩
    rw [upd_swap nt_q3]
    generalize eG : upd G5 q3 _ = G6
    have s36 : Same G3 G6 := eG ▸ same_put (sm4.trans sm5) nG_q3
    have hq3 := upd_at eG
    have nb6 : G6 b = none := by rw [← eG, upd_ne (Ne.symm nt_q3)]; exact nb5
    clear eG
    walk_at "ss"
    refine k_disp1 ?_
    intro q4 nt_q4
    rw [upd_swap (up_none nt_q4).2]
    generalize eG_q4 : upd _ q4 _ = G7
    obtain ⟨nb7, sm7, hq4, nt_q4, nG_q4⟩ := new_facts nb6 nt_q4 eG_q4
    clear eG_q4
    walk_at "ss"
    refine k_disp1 ?_
    intro q5 nt_q5
    rw [upd_swap (up_none nt_q5).2]
    generalize eG_q5 : upd _ q5 _ = G8
    obtain ⟨nb8, sm8, hq5, nt_q5, nG_q5⟩ := new_facts nb7 nt_q5 eG_q5
    clear eG_q5
    walk_at "ss"
    intro t9 nt_t9
    rw [upd_swap (up_none nt_t9).2]
    generalize eG_t9 : upd _ t9 _ = G9
    obtain ⟨nb9, sm9, ht9, nt_t9, nG_t9⟩ := new_facts nb8 nt_t9 eG_t9
    clear eG_t9
    refine ⟨(up_get nb9 (sm9 _ _ hq5)), [(.inr "b", _)], rfl, Nat.le_of_ble_eq_true rfl, ?_⟩
    rw [upd_swap nt_q5]
    generalize eG : upd G9 q5 _ = GA
    have s7A : Same G7 GA := eG ▸ same_put (sm8.trans sm9) nG_q5
    have nbA : GA b = none := by rw [← eG, upd_ne (Ne.symm nt_q5)]; exact nb9
    clear eG
    refine ⟨(up_get nbA (s7A _ _ hq4)), [(.inr "a", _)], rfl, Nat.le_of_ble_eq_true rfl, ?_⟩
    rw [upd_swap nt_q4]
    generalize eG : upd GA q4 _ = GB
    have s6B : Same G6 GB := eG ▸ same_put (sm7.trans s7A) nG_q4
    have hq4 := upd_at eG
    have nbB : GB b = none := by rw [← eG, upd_ne (Ne.symm nt_q4)]; exact nbA
    clear eG
    walk_at "ss"
    intro l nt_l
    rw [upd_swap (up_none nt_l).2]
    generalize eG_l : upd _ l _ = GC
    obtain ⟨nbC, smC, hl, nt_l, nG_l⟩ := new_facts nbB nt_l eG_l
    clear eG_l
    have s3C := (s36.trans s6B).trans smC
    have s0C := (sm1.trans s13).trans s3C
    have hbC := hb1.up s0C nbC
    walk_at "ss"
    refine k_of hbC (SqL.of hl) (by simp) (by simp) fun v β3 hv hb3 => ?_
    refine k v GC β3 s0C hb3 ?_
    simp only [List.mem_cons, List.not_mem_nil, or_false] at hv
    rcases hv with rfl | rfl | rfl | rfl
    · exact ov (.inr (.inr ⟨q1, _, rfl, fun z => hFG q1 z nG_q1, (s13.trans s3C) _ _ hq1, .inl rfl⟩))
    · exact ov (.inr (.inr ⟨q2, _, rfl, fun z => hFG q2 z (g_none sm1 nG_q2), s3C _ _ hq2, .inr ⟨_, _, rfl, .inl rfl⟩⟩))
    · exact ov (.inr (.inr ⟨q3, _, rfl, fun z => hFG q3 z (g_none (sm1.trans s13) nG_q3), (s6B.trans smC) _ _ hq3, .inr ⟨_, _, rfl, .inr ⟨_, rfl⟩⟩⟩))
    · exact ov (.inr (.inr ⟨q4, _, rfl, fun z => hFG q4 z (g_none ((sm1.trans s13).trans s36) nG_q4), smC _ _ hq4, .inr ⟨_, _, rfl, .inr ⟨_, rfl⟩⟩⟩))
end

section
variable {w : World} {K : PySem.W.Frag} {mg : Str → Option Value} {base : Heap}
abbrev NoF : Addr → Prop := fun _ => False
abbrev OnlyL (L : Addr) : Addr → Prop := fun a => a = L
theorem keep_put {L : Addr} {G : Hp} {o : HO} : Keep (OnlyL L) G (upd G L o) := fun a u n h _ => by
  rw [upd_ne n]
  exact h
/-- a bag whose list L is changed -/
theorem Bag.put {G0 G : Hp} {b L : Addr} {β o : HO} (hb : Bag K G0 G b β) (nL : G0 L = none) (ne : L ≠ b) : Bag K G0 (upd G L o) b β := hb.up0 (same_put hb.sm nL) (by rw [upd_ne (Ne.symm ne)]; exact hb.nb)
def spIn : Sp := fun vs H Q _ => ∃ (v : V) (lo hi : Int), vs = [v, .int lo, .int hi] ∧ Gv H v ∧ Q (.bl (numV v lo hi)) H
theorem ok_in (T : Tx K mg) : FnOk P w K mg base CX0 1 T.a_in T.fd_in P_in spIn := by
  refine T.F_in.ok sc_in (fun vs H Q E h => ?_) (fun cdv A outer s H vs Q E hr h => ?_)
  · obtain ⟨v, lo, hi, rfl, _⟩ := h
    rfl
  · obtain ⟨v, lo, hi, rfl, hv, k⟩ := h
    have nd := sc_in.nd
    refine ⟨_, (pss_one (ps_ret (pe_and (kcB b_isinstance (by decide) (by decide) (kc_isi K) g_in_isinstance T.n_isinstance (pa_cons (kv (i := 0) v_in_law_thing) (pa_cons (kty_int g_in_int T.n_int) pa_nil))) (pe_and (pe_not (kcB b_isinstance (by decide) (by decide) (kc_isi K) g_in_isinstance T.n_isinstance (pa_cons (kv (i := 0) v_in_law_thing) (pa_cons (kty_bool g_in_bool T.n_bool) pa_nil)))) (pe_and (pe_cmpR op_le (kv (i := 1) v_in_law_low) (kv (i := 0) v_in_law_thing) (nomark _)) (pe_one (pe_cmpR op_le (kv (i := 0) v_in_law_thing) (kv (i := 2) v_in_law_high) (nomark _)))))))), ?_⟩
    walk_at "ss"
    refine k_gInt hv ?_
    refine ⟨_, rfl, ?_⟩
    cases hv with
    | int i =>
      refine k_t ?_
      walk_at "ss"
      refine k_d (fun h1 => ?_) (fun h1 => ?_)
      · walk_at "ss"
        have e : numV (.int i) lo hi = decide (i ≤ hi) := by
          show (decide (lo ≤ i) && decide (i ≤ hi)) = _
          rw [decide_eq_true h1, Bool.true_and]
        rw [← e]
        exact k
      · walk_at "ss"
        have e : numV (.int i) lo hi = false := by
          show (decide (lo ≤ i) && decide (i ≤ hi)) = _
          rw [decide_eq_false h1, Bool.false_and]
        rw [e] at k
        exact k
    | bl b =>
      refine k_t ?_
      walk_at "ss"
      exact k
    | _ => exact k_f k
/-! ### drawn numbers, drawn borders -/
def spNumber (K : PySem.W.Frag) : Sp := fun vs H Q _ => ∃ (G0 G : Hp) (b : Addr) (β : HO) (hi : Int), vs = [.ref b, .int hi] ∧ 40 ≤ hi ∧ hi ≤ 2000 ∧ H = upd G b β ∧ Bag K G0 G b β ∧ ∀ (v : V) (G' : Hp) (β' : HO), Same G G' → Bag K G0 G' b β' → Gd NoF G' 2 v → Q v (upd G' b β')
theorem ok_number (T : Tx K mg) : FnOk P w K mg base CX0 4 T.a_number T.fd_number P_number (spNumber K) := by
  refine T.F_number.ok sc_number (fun vs H Q E h => ?_) (fun cdv A outer s H vs Q E hr h => ?_)
  · obtain ⟨G0, G, b, β, hi, rfl, _⟩ := h
    rfl
  · obtain ⟨G0, G, b, β, hi, rfl, h0, h1, rfl, hb, k⟩ := h
    have nd := sc_number.nd
    refine ⟨_, (pss_cons (ks_setL (i := 2) nd l_number_law_pick (pe_call (ok_draw T) (hr.mono (by first | decide | omega)) g_number_law_draw T.m_draw T.k_draw T.b_draw .nil pass0 (pa_cons (kv (i := 0) v_number_law_bag_here) (pa_cons pe_int pa_nil))))
      (pss_cons (ps_if (pt_cmpR op_eq (kv (i := 2) v_number_law_pick) pe_int (nomark _)) (pss_one (ps_ret (pe_call (ok_odd T) (hr.mono (by first | decide | omega)) g_number_law_odd T.m_odd T.k_odd T.b_odd .nil pass0 (pa_cons (kv (i := 0) v_number_law_bag_here) pa_nil)))) pss_nil)
      (pss_cons (ps_if (pt_cmpR op_eq (kv (i := 2) v_number_law_pick) pe_int (nomark _)) (pss_one (ps_ret (pe_call (ok_of T) (hr.mono (by first | decide | omega)) g_number_law_of T.m_of T.k_of T.b_of .nil pass0 (pa_cons (kv (i := 0) v_number_law_bag_here) (pa_cons (pe_lst (pa_cons pe_int (pa_cons (pe_op kop_add (kv (i := 1) v_number_law_high) pe_int) (pa_cons (pe_un un_neg pe_int) (pa_cons pe_bl (pa_cons pe_bl (pa_cons pe_non (pa_cons pe_str (pa_cons (pe_tup (pa_cons pe_int pa_nil)) (pa_cons (pe_lst (pa_cons pe_int pa_nil)) pa_nil)))))))))) pa_nil))))) pss_nil)
      (pss_cons (ps_if (pt_cmpR op_eq (kv (i := 2) v_number_law_pick) pe_int (nomark _)) (pss_one (ps_ret (pe_call (ok_of T) (hr.mono (by first | decide | omega)) g_number_law_of T.m_of T.k_of T.b_of .nil pass0 (pa_cons (kv (i := 0) v_number_law_bag_here) (pa_cons (pe_lst (pa_cons pe_int (pa_cons (kv (i := 1) v_number_law_high) (pa_cons (pe_op op_sub (kv (i := 1) v_number_law_high) pe_int) pa_nil)))) pa_nil))))) pss_nil)
      (pss_one (ps_ret (pe_op kop_add pe_int (pe_call (ok_draw T) (hr.mono (by first | decide | omega)) g_number_law_draw T.m_draw T.k_draw T.b_draw .nil pass0 (pa_cons (kv (i := 0) v_number_law_bag_here) (pa_cons (pe_call (ok_of T) (hr.mono (by first | decide | omega)) g_number_law_of T.m_of T.k_of T.b_of .nil pass0 (pa_cons (kv (i := 0) v_number_law_bag_here) (pa_cons (pe_lst (pa_cons pe_int (pa_cons pe_int (pa_cons (kv (i := 1) v_number_law_high) pa_nil)))) pa_nil))) pa_nil)))))))))), ?_⟩
    walk_at "ss"
    refine k_draw hb (by decide) (by decide) fun pick β1 e0 e1 hb1 => ?_
    walk_at "ss"
    refine k_d (fun _ => ?_) (fun _ => ?_)
    · walk_at "ss"
      exact ⟨NoF, G0, G, b, β1, rfl, rfl, hb1, fun a z => z.elim, fun v G' β' sm hb2 hv => k v G' β' sm hb2 hv⟩
    walk_at "ss"
    refine k_d (fun _ => ?_) (fun _ => ?_)
    · walk_at "ss"
      intro t1 nt_t1
      rw [upd_swap (up_none nt_t1).2]
      generalize eG_t1 : upd _ t1 _ = G1
      obtain ⟨nb1, sm1, ht1, nt_t1, nG_t1⟩ := new_facts hb1.nb nt_t1 eG_t1
      clear eG_t1
      walk_at "ss"
      intro t2 nt_t2
      rw [upd_swap (up_none nt_t2).2]
      generalize eG_t2 : upd _ t2 _ = G2
      obtain ⟨nb2, sm2, ht2, nt_t2, nG_t2⟩ := new_facts nb1 nt_t2 eG_t2
      clear eG_t2
      walk_at "ss"
      intro l nt_l
      rw [upd_swap (up_none nt_l).2]
      generalize eG_l : upd _ l _ = G3
      obtain ⟨nb3, sm3, hl, nt_l, nG_l⟩ := new_facts nb2 nt_l eG_l
      clear eG_l
      have sm13 := (sm1.trans sm2).trans sm3
      have hb3 := hb1.up sm13 nb3
      walk_at "ss"
      refine k_of hb3 (SqL.of hl) (by simp) (by simp) fun v β3 hv hb4 => ?_
      refine k v G3 β3 sm13 hb4 ?_
      simp only [List.mem_cons, List.not_mem_nil, or_false] at hv
      rcases hv with rfl | rfl | rfl | rfl | rfl | rfl | rfl | rfl | rfl
      · exact Gd.sc (.int _) 2
      · exact Gd.sc (.int _) 2
      · exact Gd.sc (.int _) 2
      · exact Gd.sc (.bl _) 2
      · exact Gd.sc (.bl _) 2
      · exact Gd.sc .non 2
      · exact Gd.sc (.str _ (by decide +kernel)) 2
      · refine .inr (.inl ⟨t1, _, rfl, id, .inr ((sm2.trans sm3) _ _ ht1), by decide, fun x hx => ?_⟩)
        rw [List.mem_singleton.mp hx]
        exact Gd.sc (.int _) 1
      · refine .inr (.inl ⟨t2, _, rfl, id, .inl (sm3 _ _ ht2), by decide, fun x hx => ?_⟩)
        rw [List.mem_singleton.mp hx]
        exact Gd.sc (.int _) 1
    walk_at "ss"
    refine k_d (fun _ => ?_) (fun _ => ?_)
    · walk_at "ss"
      intro l nt_l
      rw [upd_swap (up_none nt_l).2]
      generalize eG_l : upd _ l _ = G1
      obtain ⟨nb1, sm1, hl, nt_l, nG_l⟩ := new_facts hb1.nb nt_l eG_l
      clear eG_l
      have hb2 := hb1.up sm1 nb1
      walk_at "ss"
      refine k_of hb2 (SqL.of hl) (by simp) (by simp) fun v β3 hv hb3 => ?_
      refine k v G1 β3 sm1 hb3 ?_
      simp only [List.mem_cons, List.not_mem_nil, or_false] at hv
      rcases hv with rfl | rfl | rfl <;> exact Gd.sc (.int _) 2
    · walk_at "ss"
      intro l nt_l
      rw [upd_swap (up_none nt_l).2]
      generalize eG_l : upd _ l _ = G1
      obtain ⟨nb1, sm1, hl, nt_l, nG_l⟩ := new_facts hb1.nb nt_l eG_l
      clear eG_l
      have hb2 := hb1.up sm1 nb1
      walk_at "ss"
      refine k_of hb2 (SqL.of hl) (by simp) (by simp) fun v β3 hv hb3 => ?_
      obtain ⟨n, rfl, hn0, hn1⟩ : ∃ n : Int, v = .int n ∧ 1 ≤ n ∧ n ≤ 2000 := by
        simp only [List.mem_cons, List.not_mem_nil, or_false] at hv
        rcases hv with rfl | rfl | rfl <;> exact ⟨_, rfl, by omega, by omega⟩
      walk_at "ss"
      refine k_draw hb3 (by omega) (by omega) fun d β4 d0 d1 hb4 => ?_
      walk_at "ss"
      exact k _ G1 β4 sm1 hb4 (Gd.sc (.int _) 2)
/-- the borders drawn: a new list or tuple, or other data -/
inductive EdgesAt (G G' : Hp) : V → Option (List V) → Prop where
  | seq {L : Addr} {xs : List V} (n : G L = none) (h : SqAt G' L xs) (l : xs.length ≤ 20) (g : ∀ x ∈ xs, Gd NoF G' 1 x) : EdgesAt G G' (.ref L) (some xs)
  | oth {v : V} (g : Gd NoF G' 2 v) (n : ∀ a xs, v = .ref a → ¬ SqAt G' a xs) : EdgesAt G G' v none
def spBrd (K : PySem.W.Frag) : Sp := fun vs H Q _ => ∃ (G0 G : Hp) (b : Addr) (β : HO), vs = [.ref b] ∧ H = upd G b β ∧ Bag K G0 G b β ∧ ∀ (v : V) (o : Option (List V)) (G' : Hp) (β' : HO), Same G G' → Bag K G0 G' b β' → EdgesAt G G' v o → Q v (upd G' b β')
theorem ixN_i {n : Nat} {d : Int} (h0 : 0 ≤ d) (h1 : d < (n : Int)) : ∃ j : Nat, ixN n d = some j ∧ j < n ∧ (j : Int) = d := by
  obtain ⟨j, rfl⟩ := Int.eq_ofNat_of_zero_le h0
  refine ⟨j, ?_, by omega, rfl⟩
  unfold ixN
  rw [if_pos (by omega)]
  simp; omega
theorem at_pre {xs : List V} {d : Int} (h0 : 0 ≤ d) (h1 : d < (xs.length : Int)) : ∃ v, v ∈ xs ∧ atI xs (d - 1) = some v := by
  by_cases hd : d = 0
  · subst hd
    have hne : xs ≠ [] := fun e => by rw [e] at h1; simp at h1
    refine ⟨xs.getLast hne, List.getLast_mem hne, ?_⟩
    show atI xs (-1) = _
    rw [last_at xs hne, List.getLast?_eq_some_getLast hne]
  · obtain ⟨j, hj⟩ := Int.eq_ofNat_of_zero_le (show 0 ≤ d - 1 by omega)
    have hj2 : j < xs.length := by omega
    refine ⟨xs[j], List.getElem_mem hj2, ?_⟩
    rw [hj]
    exact atI_nat (by simp [hj2])
theorem ok_borders (T : Tx K mg) : FnOk P w K mg base CX0 3 T.a_borders T.fd_borders P_borders (spBrd K) := by
  refine T.F_borders.ok sc_borders (fun vs H Q E h => ?_) (fun cdv A outer s H vs Q E hr h => ?_)
  · obtain ⟨G0, G, b, β, rfl, _⟩ := h
    rfl
  · obtain ⟨G0, G, b, β, rfl, rfl, hb, k⟩ := h
    have nd := sc_borders.nd
    refine ⟨_, (pss_cons (ps_par (i := 1) (j := 2) rfl nd rfl rfl (by decide) (locB_ok l_borders_law_some) (locB_ok l_borders_law_edge) (pa_cons (pe_lst pa_nil) (pa_cons pe_int pa_nil)) (by rfl))
      (pss_cons (ps_for PassesOwn.never rfl (pi_range1 g_borders_range T.n_range (pa_cons (pe_call (ok_of T) (hr.mono (by first | decide | omega)) g_borders_law_of T.m_of T.k_of T.b_of .nil pass0 (pa_cons (kv (i := 0) v_borders_law_bag_here) (pa_cons (pe_lst (pa_cons pe_int (pa_cons pe_int (pa_cons pe_int (pa_cons pe_int (pa_cons pe_int (pa_cons pe_int (pa_cons pe_int (pa_cons pe_int (pa_cons pe_int (pa_cons pe_int pa_nil))))))))))) pa_nil))) pa_nil)) (kgL (i := 3) nd l_borders_law_k) (pss_cons (ks_setL (i := 2) nd l_borders_law_edge (pe_op kop_add (pe_op kop_add (kv (i := 2) v_borders_law_edge) pe_int) (pe_call (ok_draw T) (hr.mono (by first | decide | omega)) g_borders_law_draw T.m_draw T.k_draw T.b_draw .nil pass0 (pa_cons (kv (i := 0) v_borders_law_bag_here) (pa_cons (pe_call (ok_of T) (hr.mono (by first | decide | omega)) g_borders_law_of T.m_of T.k_of T.b_of .nil pass0 (pa_cons (kv (i := 0) v_borders_law_bag_here) (pa_cons (pe_lst (pa_cons pe_int (pa_cons pe_int pa_nil))) pa_nil))) pa_nil)))))
      (pss_one (ps_expr (pe_bm PySem.F.plainAttrs_list PySem.F.slot_list_append PySem.F.type_list_append mt_append (kv (i := 1) v_borders_law_some) (pa_cons (kv (i := 2) v_borders_law_edge) pa_nil))))))
      (pss_cons (ps_for PassesOwn.never rfl (pi_range1 g_borders_range T.n_range (pa_cons (pe_call (ok_of T) (hr.mono (by first | decide | omega)) g_borders_law_of T.m_of T.k_of T.b_of .nil pass0 (pa_cons (kv (i := 0) v_borders_law_bag_here) (pa_cons (pe_lst (pa_cons pe_int (pa_cons pe_int (pa_cons pe_int (pa_cons pe_int (pa_cons pe_int pa_nil)))))) pa_nil))) pa_nil)) (kgL (i := 3) nd l_borders_law_k) (pss_one (ps_if (kpt_truth K (kv (i := 1) v_borders_law_some)) (pss_cons (ks_setL (i := 4) nd l_borders_law_at (pe_call (ok_draw T) (hr.mono (by first | decide | omega)) g_borders_law_draw T.m_draw T.k_draw T.b_draw .nil pass0 (pa_cons (kv (i := 0) v_borders_law_bag_here) (pa_cons (kcB b_len (by decide) (by decide) (kc_len K) g_borders_len T.n_len (pa_cons (kv (i := 1) v_borders_law_some) pa_nil)) pa_nil))))
      (pss_cons (ks_setL (i := 5) nd l_borders_law_bend (pe_call (ok_of T) (hr.mono (by first | decide | omega)) g_borders_law_of T.m_of T.k_of T.b_of .nil pass0 (pa_cons (kv (i := 0) v_borders_law_bag_here) (pa_cons (pe_lst (pa_cons pe_int (pa_cons pe_int (pa_cons pe_bl (pa_cons pe_non (pa_cons pe_str (pa_cons (pe_tup (pa_cons pe_int pa_nil)) (pa_cons (pe_lst (pa_cons pe_int pa_nil)) (pa_cons (pe_ix (kix K) (kv (i := 1) v_borders_law_some) (pe_op op_sub (kv (i := 4) v_borders_law_at) pe_int) (fun _ _ => rfl)) (pa_cons (pe_un un_neg pe_int) (pa_cons pe_int (pa_cons pe_int pa_nil)))))))))))) pa_nil))))
      (pss_one (ps_asg (kv (i := 5) v_borders_law_bend) (pg_sub (kv (i := 1) v_borders_law_some) (kv (i := 4) v_borders_law_at) set_list))))) pss_nil)))
      (pss_cons (ks_setL (i := 6) nd l_borders_law_pick (pe_call (ok_draw T) (hr.mono (by first | decide | omega)) g_borders_law_draw T.m_draw T.k_draw T.b_draw .nil pass0 (pa_cons (kv (i := 0) v_borders_law_bag_here) (pa_cons pe_int pa_nil))))
      (pss_cons (ps_if (pt_cmpR op_eq (kv (i := 6) v_borders_law_pick) pe_int (nomark _)) (pss_one (ps_ret (pe_call (ok_of T) (hr.mono (by first | decide | omega)) g_borders_law_of T.m_of T.k_of T.b_of .nil pass0 (pa_cons (kv (i := 0) v_borders_law_bag_here) (pa_cons (pe_lst (pa_cons pe_non (pa_cons pe_int (pa_cons pe_str (pa_cons pe_str (pa_cons pe_dnewK (pa_cons (pe_disp (pps_cons pe_int pe_int pps_nil) (by rfl) (by rfl) (fun z => by cases z) (by decide)) (pa_cons pe_bl pa_nil)))))))) pa_nil))))) pss_nil)
      (pss_one (ps_ret (pe_ifExp (pt_cmpR op_lt (kv (i := 6) v_borders_law_pick) pe_int (nomark _)) (kcT b_tuple (by decide) (by decide) (kc_tuple K) g_borders_tuple T.n_tuple (pa_cons (kv (i := 1) v_borders_law_some) pa_nil)) (kv (i := 1) v_borders_law_some))))))))), ?_⟩
    walk_at "ss"
    intro L nt_L
    rw [upd_swap (up_none nt_L).2]
    generalize eG_L : upd _ L _ = G1
    obtain ⟨nb1, sm1, hL, nt_L, nG_L⟩ := new_facts hb.nb nt_L eG_L
    clear eG_L
    have hb1 := hb.up sm1 nb1
    have nLG : G L = none := nG_L
    have nL0 : G0 L = none := g_none hb.sm nLG
    walk_at "ss"
    intro t1 nt_t1
    rw [upd_swap (up_none nt_t1).2]
    generalize eG_t1 : upd _ t1 _ = G2
    obtain ⟨nb2, sm2, ht1, nt_t1, nG_t1⟩ := new_facts nb1 nt_t1 eG_t1
    clear eG_t1
    have hb2 := hb1.up sm2 nb2
    walk_at "ss"
    refine k_of hb2 (SqL.of ht1) (by simp) (by simp) fun v β3 hv hb3 => ?_
    obtain ⟨n, rfl, hn0, hn1⟩ : ∃ n : Int, v = V.int n ∧ 0 ≤ n ∧ n ≤ 14 := by
      simp only [List.mem_cons, List.not_mem_nil, or_false] at hv
      rcases hv with rfl | rfl | rfl | rfl | rfl | rfl | rfl | rfl | rfl | rfl <;> exact ⟨_, rfl, by decide, by decide⟩
    walk_at "ss"
    refine k_r1 ⟨by omega, by omega⟩ ?_
    refine k_forRange (fun i σ H' => ∃ (xs : List V) (e : Int) (G' : Hp) (β' : HO) (kv : Option V), σ = [some (.ref b), some (.ref L), some (.int e), kv, none, none, none] ∧ H' = upd G' b β' ∧ Bag K G0 G' b β' ∧ Same G G' ∧ G' L = some (.lst xs) ∧ xs.length = i ∧ ∀ x ∈ xs, Gd (OnlyL L) G' 1 x)
      ⟨[], 0, G2, β3, none, rfl, rfl, hb3, sm1.trans sm2, sm2 _ _ hL, rfl, fun x hx => (by cases hx)⟩ ?_ ?_
    · rintro i σ H' hi ⟨xs, e, G', β', kv, rfl, rfl, hb4, sm4, hL4, hlen, hall⟩
      walk_at "ss"
      intro t5 nt_t5
      rw [upd_swap (up_none nt_t5).2]
      generalize eG_t5 : upd _ t5 _ = G5
      obtain ⟨nb5, sm5, ht5, nt_t5, nG_t5⟩ := new_facts hb4.nb nt_t5 eG_t5
      clear eG_t5
      have hb5 := hb4.up sm5 nb5
      walk_at "ss"
      refine k_of hb5 (SqL.of ht5) (by simp) (by simp) fun v β6 hv hb6 => ?_
      obtain ⟨m, rfl, hm0, hm1⟩ : ∃ n : Int, v = V.int n ∧ 1 ≤ n ∧ n ≤ 70 := by
        simp only [List.mem_cons, List.not_mem_nil, or_false] at hv
        rcases hv with rfl | rfl <;> exact ⟨_, rfl, by decide, by decide⟩
      walk_at "ss"
      refine k_draw hb6 (by omega) (by omega) fun d β7 d0 d1 hb7 => ?_
      have hL5 := sm5 _ _ hL4
      walk_at "ss"
      refine k_bm ?_
      walk_at "ss"
      refine ⟨.inl ⟨rfl, _, SqL.of (up_get hb7.nb hL5)⟩, ?_⟩
      walk_at "ss"
      refine k_app (up_get hb7.nb hL5) (by omega) ?_
      rw [upd_swap nt_L]
      exact ⟨xs ++ [.int (e + 1 + d)], _, _, β7, _, rfl, rfl, hb7.put nL0 nt_L, same_put (sm4.trans sm5) nLG, upd_same, by simp [hlen], fun x hx => by
        rcases List.mem_append.mp hx with hx | hx
        · exact ((hall x hx).up sm5).keep keep_put
        · rw [List.mem_singleton.mp hx]
          exact Gd.sc (.int _) 1⟩
    · rintro σ H' ⟨xs, e, G3, β4, kv, rfl, rfl, hb4, sm4, hL4, hlen, hall⟩
      walk_at "ss"
      intro t5 nt_t5
      rw [upd_swap (up_none nt_t5).2]
      generalize eG_t5 : upd _ t5 _ = G5
      obtain ⟨nb5, sm5, ht5, nt_t5, nG_t5⟩ := new_facts hb4.nb nt_t5 eG_t5
      clear eG_t5
      have hb5 := hb4.up sm5 nb5
      walk_at "ss"
      refine k_of hb5 (SqL.of ht5) (by simp) (by simp) fun v β6 hv hb6 => ?_
      obtain ⟨m, rfl, hm0, hm1⟩ : ∃ n : Int, v = V.int n ∧ 0 ≤ n ∧ n ≤ 2 := by
        simp only [List.mem_cons, List.not_mem_nil, or_false] at hv
        rcases hv with rfl | rfl | rfl | rfl | rfl <;> exact ⟨_, rfl, by decide, by decide⟩
      walk_at "ss"
      refine k_r1 ⟨by omega, by omega⟩ ?_
      refine k_forRange (fun i σ H' => ∃ (xs : List V) (G' : Hp) (β' : HO) (kv u v : Option V), σ = [some (.ref b), some (.ref L), some (.int e), kv, u, v, none] ∧ H' = upd G' b β' ∧ Bag K G0 G' b β' ∧ Same G G' ∧ G' L = some (.lst xs) ∧ xs.length ≤ 14 ∧ ∀ x ∈ xs, Gd (OnlyL L) G' 1 x)
        ⟨xs, G5, β6, _, none, none, rfl, rfl, hb6, sm4.trans sm5, sm5 _ _ hL4, by omega, fun x hx => (hall x hx).up sm5⟩ ?_ ?_
      · rintro i σ H' hi ⟨xs, G', β', kv, u, v, rfl, rfl, hb7, sm7, hL7, hlen, hall⟩
        walk_at "ss"
        show tVar 1 _ _ _
        refine k_var rfl ?_
        refine ⟨!xs.isEmpty, .inl ⟨_, SqL.of (up_get hb7.nb hL7), rfl⟩, ?_⟩
        cases hxs : xs with
        | nil =>
          subst hxs
          exact k_f ⟨[], G', β', _, _, _, rfl, rfl, hb7, sm7, hL7, hlen, hall⟩
        | cons x0 r0 =>
          refine k_t ?_
          have hpos : 0 < xs.length := by rw [hxs]; simp
          clear hxs
          have hLu := up_get (β := β') hb7.nb hL7
          walk_at "ss"
          refine k_draw hb7 (by omega) (by omega) fun d β8 d0 d1 hb8 => ?_
          obtain ⟨j, ej, hj, hjd⟩ := ixN_i d0 d1
          obtain ⟨pv, hpv, epv⟩ := at_pre d0 d1
          walk_at "ss"
          intro t8 nt_t8
          rw [upd_swap (up_none nt_t8).2]
          generalize eG_t8 : upd _ t8 _ = G8
          obtain ⟨nb8, sm8, ht8, nt_t8, nG_t8⟩ := new_facts hb8.nb nt_t8 eG_t8
          clear eG_t8
          walk_at "ss"
          intro t9 nt_t9
          rw [upd_swap (up_none nt_t9).2]
          generalize eG_t9 : upd _ t9 _ = G9
          obtain ⟨nb9, sm9, ht9, nt_t9, nG_t9⟩ := new_facts nb8 nt_t9 eG_t9
          clear eG_t9
          walk_at "ss"
          refine k_ixL (SqL.of (up_get nb9 ((sm8.trans sm9) _ _ hL7))) epv ?_
          walk_at "ss"
          intro l nt_l
          rw [upd_swap (up_none nt_l).2]
          generalize eG_l : upd _ l _ = GA
          obtain ⟨nbA, smA, hl, nt_l, nG_l⟩ := new_facts nb9 nt_l eG_l
          clear eG_l
          have s7A := (sm8.trans sm9).trans smA
          have hbA := hb8.up s7A nbA
          have hLA := s7A _ _ hL7
          have ht8A := (sm9.trans smA) _ _ ht8
          have ht9A := smA _ _ ht9
          walk_at "ss"
          refine k_of hbA (SqL.of hl) (by simp) (by simp) fun v β9 hv hb9 => ?_
          have n8 : ¬ OnlyL L t8 := ne_of ht8A hLA (by intro q; cases q)
          have n9 : ¬ OnlyL L t9 := fun z => by
            have z : t9 = L := z
            rw [z] at nG_t9
            rw [sm8 _ _ hL7] at nG_t9
            cases nG_t9
          have gv : Gd (OnlyL L) GA 1 v := by
            simp only [List.mem_cons, List.not_mem_nil, or_false] at hv
            rcases hv with rfl | rfl | rfl | rfl | rfl | rfl | rfl | rfl | rfl | rfl | rfl
            · exact Gd.sc (.int _) 1
            · exact Gd.sc (.int _) 1
            · exact Gd.sc (.bl _) 1
            · exact Gd.sc .non 1
            · exact Gd.sc (.str _ (by decide +kernel)) 1
            · refine .inr (.inl ⟨t8, _, rfl, n8, .inr ht8A, by decide, fun x hx => ?_⟩)
              rw [List.mem_singleton.mp hx]
              exact .int _
            · refine .inr (.inl ⟨t9, _, rfl, n9, .inl ht9A, by decide, fun x hx => ?_⟩)
              rw [List.mem_singleton.mp hx]
              exact .int _
            · exact (hall _ hpv).up s7A
            · exact Gd.sc (.int _) 1
            · exact Gd.sc (.int _) 1
            · exact Gd.sc (.int _) 1
          walk_at "ss"
          rw [upd_swap nt_L]
          exact ⟨xs.set j v, _, β9, _, _, _, rfl, rfl, hb9.put nL0 nt_L, same_put (sm7.trans s7A) nLG, upd_same, by simpa using hlen, fun x hx => by
            rcases List.mem_or_eq_of_mem_set hx with hx | rfl
            · exact ((hall x hx).up s7A).keep keep_put
            · exact gv.keep keep_put⟩
      · rintro σ H' ⟨xs, G', β', kv, u, v, rfl, rfl, hb7, sm7, hL7, hlen, hall⟩
        walk_at "ss"
        refine k_draw hb7 (by decide) (by decide) fun pick β8 e0 e1 hb8 => ?_
        walk_at "ss"
        refine k_d (fun _ => ?_) (fun _ => ?_)
        · walk_at "ss"
          refine k_dnew ?_
          intro q1 nt_q1
          rw [upd_swap (up_none nt_q1).2]
          generalize eG_q1 : upd _ q1 _ = G8
          obtain ⟨nb8, sm8, hq1, nt_q1, nG_q1⟩ := new_facts hb8.nb nt_q1 eG_q1
          clear eG_q1
          walk_at "ss"
          refine k_disp1 ?_
          intro q2 nt_q2
          rw [upd_swap (up_none nt_q2).2]
          generalize eG_q2 : upd _ q2 _ = G9
          obtain ⟨nb9, sm9, hq2, nt_q2, nG_q2⟩ := new_facts nb8 nt_q2 eG_q2
          clear eG_q2
          walk_at "ss"
          refine ⟨(up_get nb9 hq2), [(.inl 1, _)], rfl, Nat.le_of_ble_eq_true rfl, ?_⟩
          rw [upd_swap nt_q2]
          generalize eG : upd G9 q2 _ = GA
          have s8A : Same G8 GA := eG ▸ same_put sm9 nG_q2
          have hq2 := upd_at eG
          have nbA : GA b = none := by rw [← eG, upd_ne (Ne.symm nt_q2)]; exact nb9
          clear eG
          walk_at "ss"
          intro l nt_l
          rw [upd_swap (up_none nt_l).2]
          generalize eG_l : upd _ l _ = GB
          obtain ⟨nbB, smB, hl, nt_l, nG_l⟩ := new_facts nbA nt_l eG_l
          clear eG_l
          have sAll := (sm8.trans s8A).trans smB
          have hbB := hb8.up sAll nbB
          walk_at "ss"
          refine k_of hbB (SqL.of hl) (by simp) (by simp) fun v β9 hv hb9 => ?_
          refine k v none GB β9 (sm7.trans sAll) hb9 ?_
          have hd1 := (s8A.trans smB) _ _ hq1
          have hd2 := smB _ _ hq2
          simp only [List.mem_cons, List.not_mem_nil, or_false] at hv
          rcases hv with rfl | rfl | rfl | rfl | rfl | rfl | rfl
          · exact .oth (Gd.sc .non 2) (fun a xs e => by cases e)
          · exact .oth (Gd.sc (.int _) 2) (fun a xs e => by cases e)
          · exact .oth (Gd.sc (.str _ (by decide +kernel)) 2) (fun a xs e => by cases e)
          · exact .oth (Gd.sc (.str _ (by decide +kernel)) 2) (fun a xs e => by cases e)
          · exact .oth (.inr (.inr ⟨q1, _, rfl, id, hd1, .inl rfl⟩)) (fun a xs e z => by cases e; rcases z with z | z <;> rw [hd1] at z <;> cases z)
          · exact .oth (.inr (.inr ⟨q2, _, rfl, id, hd2, .inr ⟨_, _, rfl, .inl rfl⟩⟩)) (fun a xs e z => by cases e; rcases z with z | z <;> rw [hd2] at z <;> cases z)
          · exact .oth (Gd.sc (.bl _) 2) (fun a xs e => by cases e)
        · walk_at "ss"
          refine k_d (fun _ => ?_) (fun _ => ?_)
          · walk_at "ss"
            refine k_tupleL (SqL.of (up_get hb8.nb hL7)) ?_
            intro t nt_t
            rw [upd_swap (up_none nt_t).2]
            generalize eG_t : upd _ t _ = G8
            obtain ⟨nb8, sm8, ht, nt_t, nG_t⟩ := new_facts hb8.nb nt_t eG_t
            clear eG_t
            exact k _ (some xs) G8 _ (sm7.trans sm8) (hb8.up sm8 nb8) (.seq (g_none sm7 nG_t) (.inr ht) (by omega) fun x hx => ((hall x hx).up sm8).weak fun a z => z.elim)
          · walk_at "ss"
            exact k _ (some xs) G' _ sm7 hb8 (.seq nLG (.inl hL7) (by omega) fun x hx => (hall x hx).weak fun a z => z.elim)
end

section
variable {w : World} {K : PySem.W.Frag} {mg : Str → Option Value} {base : Heap}
/-! ### like, through and through -/
inductive Sc : V → Prop where
  | int (i : Int) : Sc (.int i)
  | str (s : Str) : Sc (.str s)
  | bl (b : Bool) : Sc (.bl b)
  | non : Sc .non
def Eqd (H : Hp) : Nat → V → V → Prop
  | 0, x, y => x = y ∧ Sc x
  | d + 1, x, y => (x = y ∧ Sc x) ∨ (∃ a ks, x = .ref a ∧ y = .ref a ∧ H a = some (.dK ks) ∧ OkD ks) ∨ ∃ a b xs ys, x = .ref a ∧ y = .ref b ∧ ((H a = some (.lst xs) ∧ H b = some (.lst ys)) ∨ (H a = some (.tup xs) ∧ H b = some (.tup ys))) ∧ xs.length = ys.length ∧ xs.length ≤ 50 ∧
      ∀ (i : Nat) u v, xs[i]? = some u → ys[i]? = some v → Eqd H d u v
theorem Eqd.up {H H' : Hp} (e : Same H H') : ∀ {d : Nat} {x y : V}, Eqd H d x y → Eqd H' d x y
  | 0, _, _, h => h
  | d + 1, _, _, .inl h => .inl h
  | d + 1, _, _, .inr (.inl ⟨a, ks, e1, e2, h, k⟩) => .inr (.inl ⟨a, ks, e1, e2, e _ _ h, k⟩)
  | d + 1, _, _, .inr (.inr ⟨a, b, xs, ys, e1, e2, h, hl, hl2, k⟩) => .inr (.inr ⟨a, b, xs, ys, e1, e2, h.imp (fun h => ⟨e _ _ h.1, e _ _ h.2⟩) (fun h => ⟨e _ _ h.1, e _ _ h.2⟩), hl, hl2, fun i u v hu hv => (k i u v hu hv).up e⟩)
theorem Eqd.sc {H : Hp} {x : V} (h : Sc x) : ∀ d, Eqd H d x x
  | 0 => ⟨rfl, h⟩
  | _ + 1 => .inl ⟨rfl, h⟩
theorem ScB.s {v : V} (h : ScB v) : Sc v := by
  cases h with
  | int i => exact .int i
  | str z h => exact .str z
  | bl b => exact .bl b
  | non => exact .non
theorem Gd.eqd {F : Addr → Prop} {H : Hp} : ∀ {d : Nat} {v : V}, Gd F H d v → Eqd H d v v
  | 0, _, h => ⟨rfl, h.s⟩
  | d + 1, _, .inl h => .inl ⟨rfl, h.s⟩
  | d + 1, _, .inr (.inl ⟨a, xs, e1, _, h, hl, k⟩) => .inr (.inr ⟨a, a, xs, xs, e1, e1, h.imp (fun h => ⟨h, h⟩) (fun h => ⟨h, h⟩), rfl, hl, fun i u v hu hv => by
      rw [hu] at hv
      cases hv
      exact (k u (List.mem_of_getElem? hu)).eqd⟩)
  | d + 1, _, .inr (.inr ⟨a, ks, e1, _, h, k⟩) => .inr (.inl ⟨a, ks, e1, e1, h, k⟩)
theorem Eqd.succ {H : Hp} : ∀ {d : Nat} {x y : V}, Eqd H d x y → Eqd H (d + 1) x y
  | 0, _, _, h => .inl h
  | d + 1, _, _, .inl h => .inl h
  | d + 1, _, _, .inr (.inl h) => .inr (.inl h)
  | d + 1, _, _, .inr (.inr ⟨a, b, xs, ys, e1, e2, h, hl, hl2, k⟩) => .inr (.inr ⟨a, b, xs, ys, e1, e2, h, hl, hl2, fun i u v hu hv => (k i u v hu hv).succ⟩)
theorem eqR_same {K : PySem.W.Frag} {H : Hp} {a : Addr} {ks : List (Key × V)} (h : H a = some (.dK ks)) (k : OkD ks) : EqR K H (EqV K H 1) (.ref a) (.ref a) := by
  refine .inr ⟨a, a, ks, ks, rfl, rfl, h, h, rfl, fun p hp => ?_⟩
  rcases k with rfl | ⟨k, v, rfl, hv⟩
  · cases hp
  · rw [List.mem_singleton] at hp
    subst hp
    refine ⟨v, by simp [valV], ?_⟩
    rcases hv with hv | ⟨b, rfl⟩
    · exact .inl ⟨rfl, hv⟩
    · exact .inr (.inl ⟨b, rfl, rfl⟩)
/-- ==: of plain values, and of dicts -/
def rEqX (K : PySem.W.Frag) : R2 := fun x y H Q => rEq x y H Q ∨ rEqV K x y H Q
theorem kop_eqX {X : Cx} (K : PySem.W.Frag) (hu : X.A.units + 64 < cLine) (hK : X.K = K := by rfl) : OpR X (compareOp .Eq) (rEqX K) := by
  subst hK
  intro pins s σ H x y v u Q I rx ry h
  exact h.elim (op_eq pins s σ H x y v u Q I rx ry) (op_eqV hu pins s σ H x y v u Q I rx ry)
theorem isoI {K : PySem.W.Frag} {H : Hp} {v : V} {tp : String} {b : Bool} {Q : VK} (ty : TyX K H v (.type tp)) {T1 : String} (h1 : kitB tp T1 = some b) (k : Q (.bl b) H) : rIsi K [v, .ty T1] H Q := k_isi ty h1 k
theorem isoT {K : PySem.W.Frag} {H : Hp} {v : V} {tp : String} {p : Addr} {Q : VK} (ty : TyX K H v (.type tp)) (h : H p = some (.tup [.ty "list", .ty "tuple"])) (h1 : kitB tp "list" = some false) (h2 : kitB tp "tuple" = some false) (k : Q (.bl false) H) : rIsiT K [v, .ref p] H Q := k_isiT h ty h1 h2 k
def spLike : Nat → Sp
  | 0 => fun _ _ _ _ => False
  | d + 1 => fun vs H Q _ => ∃ x y, vs = [x, y] ∧ Eqd H d x y ∧ ∀ H', Same H H' → Q (.bl true) H'
theorem ok_like0 (T : Tx K mg) (d : Nat) (ih : FnOk P w K mg base CX0 (d + 1) T.a_like T.fd_like P_like (spLike d)) : FnOk P w K mg base CX0 (d + 2) T.a_like T.fd_like P_like (spLike (d + 1)) := by
  refine T.F_like.ok sc_like (fun vs H Q E h => ?_) (fun cdv A outer s H vs Q E hr h => ?_)
  · obtain ⟨x, y, rfl, _⟩ := h
    rfl
  · obtain ⟨x, y, rfl, h⟩ := h
    have nd := sc_like.nd
    refine ⟨_, (pss_cons (ps_if (pt_val (kcB b_isinstance (by decide) (by decide) (kc_isiT K) g_like_isinstance T.n_isinstance (pa_cons (kv (i := 1) v_like_law_due) (pa_cons (pe_tup (pa_cons (kty_list g_like_list T.n_list) (pa_cons (kty_tuple g_like_tuple T.n_tuple) pa_nil))) pa_nil)))) (pss_cons (ps_if (PW.pt (pw_or (pt_cmpR op_ne (kcB b_isinstance (by decide) (by decide) (kc_isi K) g_like_isinstance T.n_isinstance (pa_cons (kv (i := 0) v_like_law_told) (pa_cons (kty_list g_like_list T.n_list) pa_nil))) (kcB b_isinstance (by decide) (by decide) (kc_isi K) g_like_isinstance T.n_isinstance (pa_cons (kv (i := 1) v_like_law_due) (pa_cons (kty_list g_like_list T.n_list) pa_nil))) (nomark _)) (pw_or1 (pt_cmpR op_ne (kcB b_isinstance (by decide) (by decide) (kc_isi K) g_like_isinstance T.n_isinstance (pa_cons (kv (i := 0) v_like_law_told) (pa_cons (kty_tuple g_like_tuple T.n_tuple) pa_nil))) (kcB b_isinstance (by decide) (by decide) (kc_isi K) g_like_isinstance T.n_isinstance (pa_cons (kv (i := 1) v_like_law_due) (pa_cons (kty_tuple g_like_tuple T.n_tuple) pa_nil))) (nomark _))))) (pss_one (ps_ret pe_bl)) pss_nil)
      (pss_one (ps_ret (pe_and (pe_cmpR op_eq (kcB b_len (by decide) (by decide) (kc_len K) g_like_len T.n_len (pa_cons (kv (i := 0) v_like_law_told) pa_nil)) (kcB b_len (by decide) (by decide) (kc_len K) g_like_len T.n_len (pa_cons (kv (i := 1) v_like_law_due) pa_nil)) (nomark _)) (pe_one (kcB b_all (by decide) (by decide) (cr_all rfl) g_like_all T.n_all (pa_cons (pe_lc (own := [("_law_a", 2), ("_law_b", 3)]) rfl nd (RZ.pi_zipA g_like_zip T.n_zip (pa_cons (kv (i := 0) v_like_law_told) (pa_cons (kv (i := 1) v_like_law_due) pa_nil))) ok_cs_like_1 (fun _ _ _ _ _ => (kpg_tup K 2 rfl (pgs_cons (kgL (i := 2) nd l_like_1_law_a) (pgs_cons (kgL (i := 3) nd l_like_1_law_b) pgs_nil)))) (fun _ _ _ _ _ => pts_nil) (fun _ _ _ _ _ => (pe_call ih (hr.mono (by first | decide | omega)) g_like_1_law_like T.m_like T.k_like T.b_like .nil pass0 (pa_cons (kv (i := 2) v_like_1_law_a) (pa_cons (kv (i := 3) v_like_1_law_b) pa_nil))))) pa_nil))))))) pss_nil)
      (pss_cons (ps_if (PW.pt (pw_or (pt_cmpR op_isN (kv (i := 1) v_like_law_due) pe_non (nomark _)) (pw_or1 (pt_cmpR op_isN (kv (i := 0) v_like_law_told) pe_non (nomark _))))) (pss_one (ps_ret (pe_and (pe_cmpR op_isN (kv (i := 1) v_like_law_due) pe_non (nomark _)) (pe_one (pe_cmpR op_isN (kv (i := 0) v_like_law_told) pe_non (nomark _)))))) pss_nil)
      (pss_cons (ps_if (PW.pt (pw_or (pt_val (kcB b_isinstance (by decide) (by decide) (kc_isiT K) g_like_isinstance T.n_isinstance (pa_cons (kv (i := 0) v_like_law_told) (pa_cons (pe_tup (pa_cons (kty_list g_like_list T.n_list) (pa_cons (kty_tuple g_like_tuple T.n_tuple) pa_nil))) pa_nil)))) (pw_or1 (pt_cmpR op_ne (kcB b_isinstance (by decide) (by decide) (kc_isi K) g_like_isinstance T.n_isinstance (pa_cons (kv (i := 0) v_like_law_told) (pa_cons (kty_bool g_like_bool T.n_bool) pa_nil))) (kcB b_isinstance (by decide) (by decide) (kc_isi K) g_like_isinstance T.n_isinstance (pa_cons (kv (i := 1) v_like_law_due) (pa_cons (kty_bool g_like_bool T.n_bool) pa_nil))) (nomark _))))) (pss_one (ps_ret pe_bl)) pss_nil)
      (pss_cons (ps_if (PW.pt (pw_or (pt_cmpR op_ne (kcB b_isinstance (by decide) (by decide) (kc_isi K) g_like_isinstance T.n_isinstance (pa_cons (kv (i := 0) v_like_law_told) (pa_cons (kty_str g_like_str T.n_str) pa_nil))) (kcB b_isinstance (by decide) (by decide) (kc_isi K) g_like_isinstance T.n_isinstance (pa_cons (kv (i := 1) v_like_law_due) (pa_cons (kty_str g_like_str T.n_str) pa_nil))) (nomark _)) (pw_or1 (pt_cmpR op_ne (kcB b_isinstance (by decide) (by decide) (kc_isi K) g_like_isinstance T.n_isinstance (pa_cons (kv (i := 0) v_like_law_told) (pa_cons (kty_int g_like_int T.n_int) pa_nil))) (kcB b_isinstance (by decide) (by decide) (kc_isi K) g_like_isinstance T.n_isinstance (pa_cons (kv (i := 1) v_like_law_due) (pa_cons (kty_int g_like_int T.n_int) pa_nil))) (nomark _))))) (pss_one (ps_ret pe_bl)) pss_nil)
      (pss_cons (ps_if (pt_cmpR op_ne (kcB b_isinstance (by decide) (by decide) (kc_isi K) g_like_isinstance T.n_isinstance (pa_cons (kv (i := 0) v_like_law_told) (pa_cons (kty_dict g_like_dict T.n_dict) pa_nil))) (kcB b_isinstance (by decide) (by decide) (kc_isi K) g_like_isinstance T.n_isinstance (pa_cons (kv (i := 1) v_like_law_due) (pa_cons (kty_dict g_like_dict T.n_dict) pa_nil))) (nomark _)) (pss_one (ps_ret pe_bl)) pss_nil)
      (pss_one (ps_ret (kcT b_bool (by decide) (by decide) kc_bool g_like_bool T.n_bool (pa_cons (pe_cmpR (kop_eqX K hr.units) (kv (i := 0) v_like_law_told) (kv (i := 1) v_like_law_due) (nomark _)) pa_nil))))))))), ?_⟩
    have nn : ∀ z : Int, ¬ V.int z = V.non := fun z e => by cases e
    have ns : ∀ z : Str, ¬ V.str z = V.non := fun z e => by cases e
    have nb : ∀ z : Bool, ¬ V.bl z = V.non := fun z e => by cases e
    obtain ⟨hE, k⟩ := h
    have nr : ∀ z : Addr, ¬ V.ref z = V.non := fun z e => by cases e
    have key : (x = y ∧ Sc x) ∨ (∃ a ks, x = .ref a ∧ y = .ref a ∧ H a = some (.dK ks) ∧ OkD ks) ∨ ∃ (m : Nat) (a b : Addr) (xs ys : List V), d = m + 1 ∧ x = .ref a ∧ y = .ref b ∧ ((H a = some (.lst xs) ∧ H b = some (.lst ys)) ∨ (H a = some (.tup xs) ∧ H b = some (.tup ys))) ∧ xs.length = ys.length ∧ xs.length ≤ 50 ∧
        ∀ (i : Nat) u v, xs[i]? = some u → ys[i]? = some v → Eqd H m u v := by
      cases d with
      | zero => exact .inl hE
      | succ m =>
        rcases hE with h | h | ⟨a, b, xs, ys, e1, e2, h, hl, hl2, kk⟩
        · exact .inl h
        · exact .inr (.inl h)
        · exact .inr (.inr ⟨m, a, b, xs, ys, rfl, e1, e2, h, hl, hl2, kk⟩)
    clear hE
    rcases key with ⟨rfl, hx⟩ | ⟨a, ks, rfl, rfl, hd, hk⟩ | ⟨m, a, b, xs, ys, rfl, rfl, rfl, hh, hlen, hl, hs⟩
    · walk_at "ss"
      intro p1 n1
      cases hx with
      | int i =>
        walk_at "ss"
        refine ⟨rfl, ?_⟩
        walk_at "ss"
        refine k_df (fun e => by cases e) ?_
        walk_at "ss"
        refine ⟨rfl, ?_⟩
        walk_at "ss"
        refine k_df (fun e => by cases e) ?_
        walk_at "ss"
        intro p2 n2
        walk_at "ss"
        refine k_ne rfl ?_
        walk_at "ss"
        refine k_nt rfl ?_
        walk_at "ss"
        refine k_ne rfl ?_
        walk_at "ss"
        refine k_nt rfl ?_
        walk_at "ss"
        refine k_ne rfl ?_
        walk_at "ss"
        refine k_nt rfl ?_
        walk_at "ss"
        refine k_ne rfl ?_
        walk_at "ss"
        refine k_nt rfl ?_
        walk_at "ss"
        first
          | (refine .inl (k_eq rfl ?_)
             rw [decide_eq_true rfl]
             exact k _ ((same_new n1).trans (same_new n2)))
      | str i =>
        walk_at "ss"
        refine ⟨rfl, ?_⟩
        walk_at "ss"
        refine k_df (fun e => by cases e) ?_
        walk_at "ss"
        refine ⟨rfl, ?_⟩
        walk_at "ss"
        refine k_df (fun e => by cases e) ?_
        walk_at "ss"
        intro p2 n2
        walk_at "ss"
        refine k_ne rfl ?_
        walk_at "ss"
        refine k_nt rfl ?_
        walk_at "ss"
        refine k_ne rfl ?_
        walk_at "ss"
        refine k_nt rfl ?_
        walk_at "ss"
        refine k_ne rfl ?_
        walk_at "ss"
        refine k_nt rfl ?_
        walk_at "ss"
        refine k_ne rfl ?_
        walk_at "ss"
        refine k_nt rfl ?_
        walk_at "ss"
        first
          | (refine .inl (k_eq rfl ?_)
             rw [decide_eq_true rfl]
             exact k _ ((same_new n1).trans (same_new n2)))
      | bl i =>
        walk_at "ss"
        refine ⟨rfl, ?_⟩
        walk_at "ss"
        refine k_df (fun e => by cases e) ?_
        walk_at "ss"
        refine ⟨rfl, ?_⟩
        walk_at "ss"
        refine k_df (fun e => by cases e) ?_
        walk_at "ss"
        intro p2 n2
        walk_at "ss"
        refine k_ne rfl ?_
        walk_at "ss"
        refine k_nt rfl ?_
        walk_at "ss"
        refine k_ne rfl ?_
        walk_at "ss"
        refine k_nt rfl ?_
        walk_at "ss"
        refine k_ne rfl ?_
        walk_at "ss"
        refine k_nt rfl ?_
        walk_at "ss"
        refine k_ne rfl ?_
        walk_at "ss"
        refine k_nt rfl ?_
        walk_at "ss"
        first
          | (refine .inl (k_eq rfl ?_)
             rw [decide_eq_true rfl]
             exact k _ ((same_new n1).trans (same_new n2)))
      | non =>
        walk_at "ss"
        refine ⟨rfl, ?_⟩
        walk_at "ss"
        refine k_dt rfl ?_
        walk_at "ss"
        refine ⟨rfl, ?_⟩
        walk_at "ss"
        refine k_dt rfl ?_
        walk_at "ss"
        refine ⟨rfl, ?_⟩
        rw [decide_eq_true rfl]
        exact k _ (same_new n1)
    · walk_at "ss"
      intro p1 n1
      have s1 := same_new (o := .tup [V.ty "list", V.ty "tuple"]) n1
      have hd1 := s1 _ _ hd
      walk_at "ss"
      try refine isoT (TyX.base (.dK hd1)) upd_same kb_dict_list kb_dict_tuple ?_
      walk_at "ss"
      refine ⟨rfl, ?_⟩
      walk_at "ss"
      refine k_df (nr _) ?_
      walk_at "ss"
      refine ⟨rfl, ?_⟩
      walk_at "ss"
      refine k_df (nr _) ?_
      walk_at "ss"
      intro p2 n2
      have hd2 := same_new (o := .tup [V.ty "list", V.ty "tuple"]) n2 _ _ hd1
      walk_at "ss"
      try refine isoT (TyX.base (.dK hd2)) upd_same kb_dict_list kb_dict_tuple ?_
      walk_at "ss"
      refine k_ne rfl ?_
      walk_at "ss"
      refine k_nt rfl ?_
      walk_at "ss"
      refine k_ne rfl ?_
      walk_at "ss"
      refine k_nt rfl ?_
      walk_at "ss"
      refine k_ne rfl ?_
      walk_at "ss"
      refine k_nt rfl ?_
      walk_at "ss"
      refine k_ne rfl ?_
      walk_at "ss"
      refine k_nt rfl ?_
      walk_at "ss"
      refine .inr ⟨1, by decide, eqR_same hd2 hk, ?_⟩
      walk_at "ss"
      exact k _ ((same_new n1).trans (same_new n2))
    · rcases hh with ⟨ha, hb⟩ | ⟨ha, hb⟩
      · walk_at "ss"
        intro p np
        generalize e1 : upd H p _ = H1
        have s1 := upd_sm e1 np
        have hp := upd_at e1
        clear e1
        have ha1 := s1 _ _ ha
        have hb1 := s1 _ _ hb
        walk_at "ss"
        refine k_ne rfl ?_
        walk_at "ss"
        refine k_nt rfl ?_
        walk_at "ss"
        refine k_ne rfl ?_
        walk_at "ss"
        refine k_nt rfl ?_
        walk_at "ss"
        refine k_dt (by omega) ?_
        walk_at "ss"
        refine k_iZipA ?_
        walk_at "ss"
        refine ⟨a, b, xs, ys, rfl, zL ⟨SqL.of ha1, SqL.of hb1, ?_⟩⟩
        intro D nD
        refine k_lcIt (n := xs.length) (walk_zipL (xs := xs) (ys := ys) (by omega)) (fun i H' => ∃ bs : List Bool, H' D = some (.lst (bs.map V.bl)) ∧ bs.length = i ∧ (∀ z ∈ bs, z = true) ∧ Same H1 H') ⟨[], upd_same, rfl, fun z hz => (by cases hz), same_new nD⟩ ?_ ?_ ?_
        · rintro i H' _ ⟨bs, _, _, _, sm⟩
          exact ⟨SqL.of (sm _ _ ha1), SqL.of (sm _ _ hb1)⟩
        · rintro i x H' H'' hi ⟨bs, hD, hlen, hall, sm⟩ ⟨tp, y1, y2, rfl, nt, rfl, ey1, ey2⟩
          have hyt : (upd H' tp (.tup [y1, y2])) tp = some (.tup [y1, y2]) := upd_same
          walk_at "ss"
          refine ⟨rfl, ?_⟩
          walk_at "ss"
          refine ⟨y1, y2, rfl, (hs i y1 y2 ey1 ey2).up ((s1.trans sm).trans (same_new nt)), fun H3 s3 => ?_⟩
          have hD3 := s3 _ _ (same_new nt _ _ hD)
          refine ⟨_, hD3, small_lt (by rw [List.length_map]; omega), bs ++ [true], by rw [upd_same, List.map_append]; rfl, by simp [hlen], ?_, same_put ((sm.trans (same_new nt)).trans s3) nD⟩
          intro z hz
          rcases List.mem_append.mp hz with hz | hz
          · exact hall z hz
          · exact List.mem_singleton.mp hz
        · rintro H' ⟨bs, hD, hlen, hall, sm⟩
          walk_at "ss"
          refine ⟨D, bs, rfl, SqL.of hD, ?_⟩
          have : bs.all id = true := List.all_eq_true.mpr fun z hz => hall z hz
          rw [this]
          exact k _ (s1.trans sm)
      · walk_at "ss"
        intro p np
        generalize e1 : upd H p _ = H1
        have s1 := upd_sm e1 np
        have hp := upd_at e1
        clear e1
        have ha1 := s1 _ _ ha
        have hb1 := s1 _ _ hb
        walk_at "ss"
        refine k_ne rfl ?_
        walk_at "ss"
        refine k_nt rfl ?_
        walk_at "ss"
        refine k_ne rfl ?_
        walk_at "ss"
        refine k_nt rfl ?_
        walk_at "ss"
        refine k_dt (by omega) ?_
        walk_at "ss"
        refine k_iZipA ?_
        walk_at "ss"
        refine ⟨a, b, xs, ys, rfl, zT ⟨SqT.of ha1, SqT.of hb1, ?_⟩⟩
        intro D nD
        refine k_lcIt (n := xs.length) (walk_zipT (xs := xs) (ys := ys) (by omega)) (fun i H' => ∃ bs : List Bool, H' D = some (.lst (bs.map V.bl)) ∧ bs.length = i ∧ (∀ z ∈ bs, z = true) ∧ Same H1 H') ⟨[], upd_same, rfl, fun z hz => (by cases hz), same_new nD⟩ ?_ ?_ ?_
        · rintro i H' _ ⟨bs, _, _, _, sm⟩
          exact ⟨SqT.of (sm _ _ ha1), SqT.of (sm _ _ hb1)⟩
        · rintro i x H' H'' hi ⟨bs, hD, hlen, hall, sm⟩ ⟨tp, y1, y2, rfl, nt, rfl, ey1, ey2⟩
          have hyt : (upd H' tp (.tup [y1, y2])) tp = some (.tup [y1, y2]) := upd_same
          walk_at "ss"
          refine ⟨rfl, ?_⟩
          walk_at "ss"
          refine ⟨y1, y2, rfl, (hs i y1 y2 ey1 ey2).up ((s1.trans sm).trans (same_new nt)), fun H3 s3 => ?_⟩
          have hD3 := s3 _ _ (same_new nt _ _ hD)
          refine ⟨_, hD3, small_lt (by rw [List.length_map]; omega), bs ++ [true], by rw [upd_same, List.map_append]; rfl, by simp [hlen], ?_, same_put ((sm.trans (same_new nt)).trans s3) nD⟩
          intro z hz
          rcases List.mem_append.mp hz with hz | hz
          · exact hall z hz
          · exact List.mem_singleton.mp hz
        · rintro H' ⟨bs, hD, hlen, hall, sm⟩
          walk_at "ss"
          refine ⟨D, bs, rfl, SqL.of hD, ?_⟩
          have : bs.all id = true := List.all_eq_true.mpr fun z hz => hall z hz
          rw [this]
          exact k _ (s1.trans sm)
theorem okr_like (T : Tx K mg) : ∀ d, FnOk P w K mg base CX0 (d + 1) T.a_like T.fd_like P_like (spLike d)
  | 0 => ⟨fun _ _ _ _ h => h.elim, fun _ _ _ _ _ _ _ _ _ _ _ _ _ h => h.elim⟩
  | d + 1 => ok_like0 T d (okr_like T d)
theorem ok_like (T : Tx K mg) : FnOk P w K mg base CX0 5 T.a_like T.fd_like P_like (spLike 4) := okr_like T 4
end

section
variable {w : World} {K : PySem.W.Frag} {mg : Str → Option Value} {base : Heap}
/-! ### the error that is due -/
def edgesBad (o : Option (List V)) (g : V) : Option Ev := match o with
  | none => some (.bord (.int (-1)))
  | some xs => dayBad xs g
inductive SeqOr (H : Hp) : V → Option (List V) → Prop where
  | seq {L : Addr} {xs : List V} (h : SqAt H L xs) (l : xs.length ≤ 20) (g : ∀ x ∈ xs, Gv H x) : SeqOr H (.ref L) (some xs)
  | oth {v : V} (g : Gv H v) (n : ∀ a xs, v = .ref a → ¬ SqAt H a xs) : SeqOr H v none
theorem SqAt.down {H H' : Hp} {a : Addr} {xs : List V} (g : Gv H (.ref a)) (e : Same H H') (h : SqAt H' a xs) : SqAt H a xs := by
  cases g with
  | lst z =>
    have := SqAt.inj (.inl (e _ _ z)) h
    subst this
    exact .inl z
  | tup z =>
    have := SqAt.inj (.inr (e _ _ z)) h
    subst this
    exact .inr z
  | dic z =>
    have z := e _ _ z
    rcases h with h | h <;> rw [h] at z <;> cases z
theorem SeqOr.up {H H' : Hp} {v : V} {o : Option (List V)} (h : SeqOr H v o) (e : Same H H') : SeqOr H' v o := by
  cases h with
  | seq h l g => exact .seq (h.up e) l fun x hx => (g x hx).up e
  | oth g n => exact .oth (g.up e) fun a xs ev z => n a xs ev (SqAt.down (ev ▸ g) e z)
def spDue : Sp := fun vs H Q _ => ∃ (v g : V) (o : Option (List V)), vs = [v, g] ∧ SeqOr H v o ∧ Gv H g ∧ (edgesBad o g = none → ∀ H', Same H H' → Q .non H') ∧ (∀ e, edgesBad o g = some e → ∀ (f : Addr) (H' : Hp), Same H H' → H' f = some (.lst e.row) → Q (.ref f) H')
theorem ok_days_due (T : Tx K mg) : FnOk P w K mg base CX0 2 T.a_days_due T.fd_days_due P_days_due spDue := by
  refine T.F_days_due.ok sc_days_due (fun vs H Q E h => ?_) (fun cdv A outer s H vs Q E hr h => ?_)
  · obtain ⟨v, g, o, rfl, _⟩ := h
    rfl
  · obtain ⟨v, g, o, rfl, hv, hg, kn, kb⟩ := h
    have nd := sc_days_due.nd
    refine ⟨_, (pss_cons (ps_if (pt_not (pt_val (kcB b_isinstance (by decide) (by decide) (kc_isiT K) g_days_due_isinstance T.n_isinstance (pa_cons (kv (i := 0) v_days_due_law_edges) (pa_cons (pe_tup (pa_cons (kty_list g_days_due_list T.n_list) (pa_cons (kty_tuple g_days_due_tuple T.n_tuple) pa_nil))) pa_nil))))) (pss_one (ps_ret (pe_lst (pa_cons pe_str (pa_cons (pe_un un_neg pe_int) pa_nil))))) pss_nil)
      (pss_cons (ps_if (pt_cmpR op_gt (kcB b_len (by decide) (by decide) (kc_len K) g_days_due_len T.n_len (pa_cons (kv (i := 0) v_days_due_law_edges) pa_nil)) pe_int (nomark _)) (pss_one (ps_ret (pe_lst (pa_cons pe_str (pa_cons pe_str (pa_cons (kcB b_len (by decide) (by decide) (kc_len K) g_days_due_len T.n_len (pa_cons (kv (i := 0) v_days_due_law_edges) pa_nil)) pa_nil)))))) pss_nil)
      (pss_cons (ks_setL (i := 2) nd l_days_due_law_low pe_int)
      (pss_cons (ps_for PassesOwn.never rfl (pi_range1 g_days_due_range T.n_range (pa_cons (kcB b_len (by decide) (by decide) (kc_len K) g_days_due_len T.n_len (pa_cons (kv (i := 0) v_days_due_law_edges) pa_nil)) pa_nil)) (kgL (i := 3) nd l_days_due_law_at) (pss_cons (ps_if (pt_not (pt_val (pe_call (ok_in T) (hr.mono (by first | decide | omega)) g_days_due_law_in T.m_in T.k_in T.b_in .nil pass0 (pa_cons (pe_ix (kix K) (kv (i := 0) v_days_due_law_edges) (kv (i := 3) v_days_due_law_at) (fun _ _ => rfl)) (pa_cons (kv (i := 2) v_days_due_law_low) (pa_cons pe_int pa_nil)))))) (pss_one (ps_ret (pe_lst (pa_cons pe_str (pa_cons (kv (i := 3) v_days_due_law_at) pa_nil))))) pss_nil)
      (pss_one (ks_setL (i := 2) nd l_days_due_law_low (pe_op kop_add (pe_ix (kix K) (kv (i := 0) v_days_due_law_edges) (kv (i := 3) v_days_due_law_at) (fun _ _ => rfl)) pe_int)))))
      (pss_one (ps_ret (pe_ifExp (pt_val (pe_call (ok_in T) (hr.mono (by first | decide | omega)) g_days_due_law_in T.m_in T.k_in T.b_in .nil pass0 (pa_cons (kv (i := 1) v_days_due_law_gap) (pa_cons pe_int (pa_cons pe_int pa_nil))))) pe_non (pe_lst (pa_cons pe_str (pa_cons (kv (i := 1) v_days_due_law_gap) pa_nil)))))))))), ?_⟩
    have gv : Gv H v := by
      cases hv with
      | seq h l g => exact h.elim (fun h => .lst h) (fun h => .tup h)
      | oth g n => exact g
    walk_at "ss"
    intro t1 n1
    generalize e1 : upd H t1 _ = H1
    have s1 := upd_sm e1 n1
    have h1 := upd_at e1
    clear e1
    walk_at "ss"
    refine k_gSeq (gv.up s1) h1 (fun l xs el hl => ?_) (fun hno => ?_)
    · subst el
      have hq := hv.up s1
      cases hq with
      | oth g n => exact (n _ _ rfl hl).elim
      | @seq _ ys hl' l20 gx =>
      have := SqAt.inj hl hl'
      subst this
      walk_at "ss"
      refine k_lenLT hl ?_
      walk_at "ss"
      refine k_d (fun h12 => ?_) (fun h12 => ?_)
      · walk_at "ss"
        refine k_lenLT hl ?_
        walk_at "ss"
        intro f nf
        exact kb _ (dayBad_many (by omega)) f _ (s1.trans (same_new nf)) upd_same
      · walk_at "ss"
        refine k_lenLT hl ?_
        walk_at "ss"
        refine k_r1 ⟨by omega, by omega⟩ ?_
        refine k_forRange (fun i σ H' => H1 = H' ∧ ∃ dn rs u, Done xs dn rs ∧ dn.length = i ∧ σ = [some (V.ref l), some g, some (V.int (baseOf dn + 1)), u]) ⟨rfl, [], xs, none, Done.nil xs, rfl, rfl⟩ ?_ ?_
        · rintro i σ H' hi ⟨rfl, dn, rs, u, hD, ei, rfl⟩
          have hi2 : i < xs.length := by omega
          obtain ⟨r, rfl⟩ := hD.next ei (List.getElem?_eq_getElem hi2)
          have ea : atI xs ((0 : Int) + (i : Nat)) = some xs[i] := by rw [Int.zero_add]; exact atI_nat (by simp [hi2])
          have gy := gx xs[i] (List.getElem_mem hi2)
          walk_at "ss"
          refine k_ixLT hl ea ?_
          walk_at "ss"
          refine ⟨xs[i], baseOf dn + 1, 1000, rfl, gy, ?_⟩
          cases e : numV xs[i] (baseOf dn + 1) 1000 with
          | false =>
            walk_at "ss"
            intro f nf
            subst ei
            exact kb _ (dayBad_bord (by omega) (hD.stop e)) f _ (s1.trans (same_new nf)) (by rw [upd_same, Int.zero_add]; rfl)
          | true =>
            obtain ⟨c, ec, hc0, hc1⟩ := numV_i e
            rw [ec] at hD
            walk_at "ss"
            refine k_ixLT hl ea ?_
            rw [ec]
            walk_at "ss"
            exact ⟨rfl, dn ++ [c], r, _, hD.step hc0 hc1, by simp [ei], by rw [baseOf_snoc]; rfl⟩
        · rintro σ H' ⟨rfl, dn, rs, u, hD, ei, rfl⟩
          obtain ⟨ex, enone⟩ := hD.all (by omega)
          walk_at "ss"
          refine ⟨g, 1, 2000, rfl, hg.up s1, ?_⟩
          cases eg : numV g 1 2000 with
          | false =>
            walk_at "ss"
            intro f nf
            exact kb _ (dayBad_num (by omega) enone eg) f _ (s1.trans (same_new nf)) upd_same
          | true =>
            walk_at "ss"
            exact kn (dayBad_none (by omega) enone eg) _ s1
    · have ho : o = none := by
        have hq := hv.up s1
        cases hq with
        | seq h l g => exact (hno _ _ rfl h).elim
        | oth g n => rfl
      subst ho
      walk_at "ss"
      intro f nf
      exact kb (.bord (.int (-1))) rfl f _ (s1.trans (same_new nf)) upd_same
end

section
/-! ### what a deed gives, or its error -/
def AskE {K : PySem.W.Frag} {mg : Str → Option Value} (T : Tx K mg) (Q : VK) : XK := fun cls d H1 => ∃ (e : Ev) (dd : Addr), cls = .ref (e.C T) ∧ d = some dd ∧ H1 dd = some (.xd e.fs) ∧
  ∀ (f t : Addr) (H2 : Hp), Same H1 H2 → H2 f = some (.lst e.row) → H2 t = some (.tup [.non, .ref f]) → Q (.ref t) H2
def AskQ (Q : VK) : VK := fun v H1 => ∀ (t : Addr) (H2 : Hp), Same H1 H2 → H2 t = some (.tup [v, .non]) → Q (.ref t) H2
def TT_ask {K : PySem.W.Frag} {mg : Str → Option Value} (T : Tx K mg) : (XK → Hp → VK → Prop) → Hp → VK → Prop := fun tl H Q =>
  ∀ (H1 : Hp) (E : XK) (Q' : VK), Same H H1 → (∀ cls d H', AskE T Q cls d H' → E cls d H') → (∀ v H', AskQ Q v H' → Q' v H') → tl E H1 Q'
theorem gives_ask {K0 : PySem.W.Frag} {mg0 : Str → Option Value} (T : Tx K0 mg0) {X : Cx} (hK : X.K = K0 := by rfl) (hm : X.mg = mg0 := by rfl) {cdv : Value} {q : Str} : GivesA X N_ask "_law_ask" (defScope s_ask) T.a_ask cdv (defBody s_ask) "_law_deed" q (TT_ask T) := by
  subst hK
  subst hm
  intro lf lc s H Q tl act hlc hTT
  have nd := sc_ask.nd
  let K : PySem.W.Frag := X.K
  refine ⟨_, (pss_cons (ps_asg (pe_tup (pa_cons pe_non (pa_cons pe_non pa_nil))) (kpg_tup K 2 rfl (pgs_cons (kgL (i := 1) nd l_ask_law_told) (pgs_cons (kgL (i := 2) nd l_ask_law_fault) pgs_nil))))
      (pss_cons (ps_try_manyA rfl rfl nd takes_none5 (fun W pn xe tk _ => (pss_one (ks_setL (i := 1) nd l_ask_law_told (act W pn xe _ _ tk)))) (.cons (i := 3) rfl (locB_ok l_ask_error) ⟨g_ask_InvalidNumber, by decide, .inl T.m_InvalidNumber⟩ (fun a oe cls d pn hz hf => (pss_one (ks_setL (i := 2) nd l_ask_law_fault (pe_lst (pa_cons pe_str (pa_cons (pe_xf T.xf_InvalidNumber T.no_InvalidNumber_value hz hf (kv (i := 3) v_ask_error)) pa_nil)))))) (.cons (i := 3) rfl (locB_ok l_ask_error) ⟨g_ask_InvalidBorders, by decide, .inl T.m_InvalidBorders⟩ (fun a oe cls d pn hz hf => (pss_one (ks_setL (i := 2) nd l_ask_law_fault (pe_lst (pa_cons pe_str (pa_cons (pe_xf T.xf_InvalidBorders T.no_InvalidBorders_at hz hf (kv (i := 3) v_ask_error)) pa_nil)))))) (.cons (i := 3) rfl (locB_ok l_ask_error) ⟨g_ask_InvalidRest, by decide, .inl T.m_InvalidRest⟩ (fun a oe cls d pn hz hf => (pss_one (ks_setL (i := 2) nd l_ask_law_fault (pe_lst (pa_cons pe_str (pa_cons (pe_xf T.xf_InvalidRest T.no_InvalidRest_value hz hf (kv (i := 3) v_ask_error)) pa_nil)))))) (.cons (i := 3) rfl (locB_ok l_ask_error) ⟨g_ask_TooMany, by decide, .inl T.m_TooMany⟩ (fun a oe cls d pn hz hf => (pss_one (ks_setL (i := 2) nd l_ask_law_fault (pe_lst (pa_cons pe_str (pa_cons (pe_xf T.xf_TooMany T.no_TooMany_what hz hf (kv (i := 3) v_ask_error)) (pa_cons (pe_xf T.xf_TooMany T.no_TooMany_count hz hf (kv (i := 3) v_ask_error)) pa_nil))))))) (.cons (i := 3) rfl (locB_ok l_ask_error) ⟨g_ask_SureletError, by decide, .inl T.m_SureletError⟩ (fun a oe cls d pn hz hf => (pss_one (ks_setL (i := 2) nd l_ask_law_fault (pe_lst (pa_cons pe_str (pa_cons (pe_xf T.xf_InvalidNumber T.no_InvalidNumber_code hz hf (kv (i := 3) v_ask_error)) pa_nil)))))) .nil))))))
      (pss_one (ps_ret (pe_tup (pa_cons (kv (i := 1) v_ask_law_told) (pa_cons (kv (i := 2) v_ask_law_fault) pa_nil))))))), ?_⟩
  walk_at "ss"
  intro p np
  have s1 := same_new (o := .tup [V.non, V.non]) np
  refine k_gTup (SqT.of upd_same) rfl ?_
  walk_at "ss"
  refine ⟨rfl, s1 _ _ hlc, hTT _ _ _ s1 (fun cls d H' hE => ?_) fun v H' hQ => ?_⟩
  · obtain ⟨e, dd, rfl, rfl, hd, kk⟩ := hE
    have fin : ∀ (f t : Addr) (nf : H' f = none) (nt : upd H' f (.lst e.row) t = none), Q (.ref t) (upd (upd H' f (.lst e.row)) t (.tup [.non, .ref f])) := fun f t nf nt => kk f t _ ((same_new nf).trans (same_new nt)) (same_new nt _ _ upd_same) upd_same
    cases e with
    | num v =>
      refine ⟨true, T.exm_InvalidNumber_InvalidNumber, fun _ a na => ?_, fun h => nomatch h⟩
      walk_at "ss"
      refine ⟨_, rfl, rfl, rfl, dd, _, _, rfl, hd, rfl, ?_⟩
      walk_at "ss"
      intro f nf
      walk_at "ss"
      intro t nt
      exact fin f t nf nt
    | bord v =>
      refine ⟨false, T.exm_InvalidBorders_InvalidNumber, (fun h => nomatch h), fun _ => ?_⟩
      refine ⟨true, T.exm_InvalidBorders_InvalidBorders, fun _ a na => ?_, fun h => nomatch h⟩
      walk_at "ss"
      refine ⟨_, rfl, rfl, rfl, dd, _, _, rfl, hd, rfl, ?_⟩
      walk_at "ss"
      intro f nf
      walk_at "ss"
      intro t nt
      exact fin f t nf nt
    | rest v =>
      refine ⟨false, T.exm_InvalidRest_InvalidNumber, (fun h => nomatch h), fun _ => ?_⟩
      refine ⟨false, T.exm_InvalidRest_InvalidBorders, (fun h => nomatch h), fun _ => ?_⟩
      refine ⟨true, T.exm_InvalidRest_InvalidRest, fun _ a na => ?_, fun h => nomatch h⟩
      walk_at "ss"
      refine ⟨_, rfl, rfl, rfl, dd, _, _, rfl, hd, rfl, ?_⟩
      walk_at "ss"
      intro f nf
      walk_at "ss"
      intro t nt
      exact fin f t nf nt
    | many z n =>
      refine ⟨false, T.exm_TooMany_InvalidNumber, (fun h => nomatch h), fun _ => ?_⟩
      refine ⟨false, T.exm_TooMany_InvalidBorders, (fun h => nomatch h), fun _ => ?_⟩
      refine ⟨false, T.exm_TooMany_InvalidRest, (fun h => nomatch h), fun _ => ?_⟩
      refine ⟨true, T.exm_TooMany_TooMany, fun _ a na => ?_, fun h => nomatch h⟩
      walk_at "ss"
      refine ⟨_, rfl, rfl, rfl, dd, _, _, rfl, hd, rfl, ?_⟩
      walk_at "ss"
      refine ⟨_, rfl, rfl, rfl, dd, _, _, rfl, hd, rfl, ?_⟩
      walk_at "ss"
      intro f nf
      walk_at "ss"
      intro t nt
      exact fin f t nf nt
  · walk_at "ss"
    intro t nt
    exact hQ t _ (same_new nt) upd_same
end

section
open LamX
variable {w : World} {K : PySem.W.Frag} {mg : Str → Option Value} {base : Heap}
/-! ### the tables of code objects -/
abbrev lq (q : Str) : Str := (q ++ (".<locals>." : Str)) ++ ("<lambda>" : Str)
def TL_ (T : Tx K mg) : List (Addr × Str) := [(T.tb_window, lq "_law_window"), (T.tb_days, lq "_law_days"), (T.tb_under, lq "_law_under")]
theorem TM_window (T : Tx K mg) : (T.tb_window, lq "_law_window") ∈ TL_ T := .head _
theorem TM_days (T : Tx K mg) : (T.tb_days, lq "_law_days") ∈ TL_ T := .tail _ (.head _)
theorem TM_under (T : Tx K mg) : (T.tb_under, lq "_law_under") ∈ TL_ T := .tail _ (.tail _ (.head _))
theorem cases_TL {T : Tx K mg} {p : Addr × Str} {R : Prop} (h : p ∈ TL_ T) (h1 : p = (T.tb_window, lq "_law_window") → R) (h2 : p = (T.tb_days, lq "_law_days") → R) (h3 : p = (T.tb_under, lq "_law_under") → R) : R := by
  rcases List.mem_cons.mp h with h | h
  · exact h1 h
  · rcases List.mem_cons.mp h with h | h
    · exact h2 h
    · exact h3 (List.mem_singleton.mp h)
theorem TU_window (T : Tx K mg) : ∀ p ∈ TL_ T, p.1 = T.tb_window → p.2 = lq "_law_window" := fun p hp e => cases_TL hp (fun h => by rw [h]) (fun h => by rw [h] at e; exact absurd e (by first | exact T.tne_days_window | exact fun z => T.tne_window_days z.symm)) (fun h => by rw [h] at e; exact absurd e (by first | exact T.tne_under_window | exact fun z => T.tne_window_under z.symm))
theorem TU_days (T : Tx K mg) : ∀ p ∈ TL_ T, p.1 = T.tb_days → p.2 = lq "_law_days" := fun p hp e => cases_TL hp (fun h => by rw [h] at e; exact absurd e (by first | exact T.tne_window_days | exact fun z => T.tne_days_window z.symm)) (fun h => by rw [h]) (fun h => by rw [h] at e; exact absurd e (by first | exact T.tne_under_days | exact fun z => T.tne_days_under z.symm))
theorem TU_under (T : Tx K mg) : ∀ p ∈ TL_ T, p.1 = T.tb_under → p.2 = lq "_law_under" := fun p hp e => cases_TL hp (fun h => by rw [h] at e; exact absurd e (by first | exact T.tne_window_under | exact fun z => T.tne_under_window z.symm)) (fun h => by rw [h] at e; exact absurd e (by first | exact T.tne_days_under | exact fun z => T.tne_under_days z.symm)) (fun h => by rw [h])
theorem mem_TL {T : Tx K mg} {p : Addr × Str} (h : p ∈ TL_ T) : p.1 = T.tb_window ∨ p.1 = T.tb_days ∨ p.1 = T.tb_under := cases_TL h (fun h => .inl (by rw [h])) (fun h => .inr (.inl (by rw [h]))) (fun h => .inr (.inr (by rw [h])))
theorem split_ext {G H1 : Hp} {b : Addr} {β : HO} (hb : G b = none) (nt : ∀ ps, β ≠ .tbl ps) (e : ExtN (upd G b β) H1) : ∃ G1, G1 b = none ∧ ExtN G G1 ∧ H1 = upd G1 b β := by
  refine ⟨fun a => if a = b then none else H1 a, if_pos rfl, fun a o h n => ?_, ?_⟩
  · have hne : a ≠ b := ne_of_none h hb
    show (if a = b then none else H1 a) = some o
    rw [if_neg hne]
    exact e _ _ (up_get hb h) n
  · funext a
    unfold upd
    by_cases h : a = b
    · rw [if_pos h, h]
      exact e _ _ upd_same nt
    · rw [if_neg h]
      show H1 a = if a = b then none else H1 a
      rw [if_neg h]
theorem ext_keep {F : Addr → Prop} {G G1 : Hp} (e : ExtN G G1) : Keep F G G1 := fun a o _ h n => e a o h n
theorem Bag.nt {G0 G : Hp} {b : Addr} {β : HO} (h : Bag K G0 G b β) : ∀ ps, β ≠ .tbl ps := by
  obtain ⟨l, ns, i, r, s, c, rfl, _⟩ := h.ex
  intro ps q
  cases q
theorem Bag.re {G0 G : Hp} {b : Addr} {β : HO} (h : Bag K G0 G b β) : Bag K G G b β := by
  obtain ⟨l, ns, i, r, s, c, rfl, hl, q⟩ := h.ex
  exact ⟨h.nb, Same.refl _, l, ns, i, r, s, c, rfl, h.sm.seq hl, q⟩
theorem seq_ext {G G1 : Hp} {l : Addr} {xs : List V} (h : SqL K G l xs) (e : ExtN G G1) : SqL K G1 l xs :=
  h.elim (fun h => .inl (h.elim (fun h => .inl (e _ _ h (fun ps z => by cases z))) fun ⟨o, h⟩ => .inr ⟨o, e _ _ h (fun ps z => by cases z)⟩)) fun h => .inr h
theorem Bag.ext {G0 G G1 : Hp} {b : Addr} {β : HO} (h : Bag K G0 G b β) (e : ExtN G G1) (n : G1 b = none) : Bag K G1 G1 b β := by
  obtain ⟨l, ns, i, r, s, c, rfl, hl, q⟩ := h.re.ex
  exact ⟨n, Same.refl _, l, ns, i, r, s, c, rfl, seq_ext hl e, q⟩
theorem tabs_bag {T : List (Addr × Str)} {G : Hp} {b : Addr} {β β' : HO} (h : Tabs T (upd G b β)) (nt : ∀ ps, β ≠ .tbl ps) (nc : ∀ q, β ≠ CodeO b q) : Tabs T (upd G b β') := fun p hp => by
  obtain ⟨ps, h1, h2, h3⟩ := h p hp
  have n1 : p.1 ≠ b := fun z => by
    rw [z, upd_same] at h1
    exact nt ps (Option.some.inj h1)
  refine ⟨ps, by rw [upd_ne n1] at h1 ⊢; exact h1, h2, fun pos cv hc => ?_⟩
  obtain ⟨c, e1, e2⟩ := h3 pos cv hc
  have n2 : c ≠ b := fun z => by
    rw [z, upd_same] at e2
    exact nc _ (Option.some.inj e2)
  exact ⟨c, e1, by rw [upd_ne n2] at e2 ⊢; exact e2⟩
theorem Bag.nc {G0 G : Hp} {b c : Addr} {β : HO} (h : Bag K G0 G b β) : ∀ q, β ≠ CodeO c q := by
  obtain ⟨l, ns, i, r, s, cc, rfl, _⟩ := h.ex
  intro q z
  unfold CodeO at z
  cases z
/-- the tables stay behind what only makes objects and draws -/
theorem Tabs.bag {T : List (Addr × Str)} {G0 G G' : Hp} {b : Addr} {β β' : HO} (h : Tabs T (upd G b β)) (hb : Bag K G0 G b β) (e : Same G G') (nb : G' b = none) : Tabs T (upd G' b β') := by
  have h1 : Tabs T (upd G' b β) := h.ext fun a o ha => by
    by_cases z : a = b
    · subst z
      rw [upd_same] at ha ⊢
      exact ha
    · rw [upd_ne z] at ha ⊢
      exact e _ _ ha
  exact tabs_bag h1 hb.nt (fun q => hb.nc q)
/-- a list's row does not matter to the tables -/
theorem Tabs.put {T : List (Addr × Str)} {H : Hp} {L : Addr} {xs ys : List V} (h : Tabs T H) (hL : H L = some (.lst xs)) : Tabs T (upd H L (.lst ys)) := fun p hp => by
  obtain ⟨ps, h1, h2, h3⟩ := h p hp
  refine ⟨ps, (upd_ne (ne_of h1 hL (by intro q; cases q))).trans h1, h2, fun pos cv hc => ?_⟩
  obtain ⟨c, e1, e2⟩ := h3 pos cv hc
  exact ⟨c, e1, (upd_ne (ne_of e2 hL (by intro q; unfold CodeO at q; cases q))).trans e2⟩
/-- the bag's own row is no row of whole numbers -/
theorem Bag.noI {G0 G : Hp} {b : Addr} {β : HO} (h : Bag K G0 G b β) (bs : List Int) : β ≠ .lst (bs.map V.int) := by
  obtain ⟨l, ns, i, r, s, c, rfl, _⟩ := h.ex
  intro z
  cases bs <;> cases z
theorem Bag.noS {G0 G : Hp} {b : Addr} {β : HO} (h : Bag K G0 G b β) (z : Str) (r : List V) : β ≠ .lst (.str z :: r) := by
  obtain ⟨l, ns, i, rr, s, c, rfl, _⟩ := h.ex
  intro z
  cases z
theorem Bag.noT {G0 G : Hp} {b : Addr} {β : HO} (h : Bag K G0 G b β) (r : List V) : β ≠ .tup r := by
  obtain ⟨l, ns, i, rr, s, c, rfl, _⟩ := h.ex
  intro z
  cases z
theorem Bag.noO {G0 G : Hp} {b : Addr} {β : HO} (h : Bag K G0 G b β) (C dx : Addr) (fs : List (Str × V)) : β ≠ .ins C dx fs := by
  obtain ⟨l, ns, i, rr, s, c, rfl, _⟩ := h.ex
  intro z
  cases z
theorem off_bag {G : Hp} {b a : Addr} {β o : HO} (n : β ≠ o) (h : upd G b β a = some o) : G a = some o := by
  by_cases e : a = b
  · subst e
    rw [upd_same] at h
    exact (n (Option.some.inj h)).elim
  · rw [upd_ne e] at h
    exact h
theorem RestAt.down {T : Tx K mg} {F : Addr → Prop} {G0 G1 G : Hp} {b : Addr} {β : HO} (hb : Bag K G0 G1 b β) : ∀ {a : Addr} {p : Plan}, RestAt T F (upd G b β) a p → RestAt T F G a p := by
  intro a p h
  induction h with
  | win h => exact .win (off_bag (hb.noO _ _ _) h)
  | days h hl hF => exact .days (off_bag (hb.noO _ _ _) h) (off_bag (hb.noI _) hl) hF
  | op h h1 h2 i1 i2 => exact .op (off_bag (hb.noO _ _ _) h) i1 i2
/-! ### the rests kept -/
abbrev KL := List (Addr × Addr × Addr × Plan)
abbrev rfK (l : KL) : List V := l.map fun z => V.ref z.1
structure KeptAt (T : Tx K mg) (G : Hp) (B : Addr) (l : KL) : Prop where
  at_ : G B = some (.lst (rfK l))
  prs : ∀ z ∈ l, G z.1 = some (.tup [.ref z.2.1, .ref z.2.2.1]) ∧ PlanAt G z.2.1 z.2.2.2 ∧ RestAt T (OnlyL B) G z.2.2.1 z.2.2.2 ∧ z.2.2.2.Ok
theorem KeptAt.up {T : Tx K mg} {G G' : Hp} {B : Addr} {l : KL} (h : KeptAt T G B l) (e : Same G G') : KeptAt T G' B l := ⟨e _ _ h.at_, fun z hz => let ⟨h1, h2, h3, h4⟩ := h.prs z hz; ⟨e _ _ h1, h2.up e, h3.up e, h4⟩⟩
theorem KeptAt.ext {T : Tx K mg} {G G' : Hp} {B : Addr} {l : KL} (h : KeptAt T G B l) (e : ExtN G G') : KeptAt T G' B l := ⟨e _ _ h.at_ (fun ps z => by cases z), fun z hz => let ⟨h1, h2, h3, h4⟩ := h.prs z hz; ⟨e _ _ h1 (fun ps z => by cases z), h2.ext e, h3.ext e, h4⟩⟩
theorem rest_put {T : Tx K mg} {G : Hp} {B a : Addr} {p : Plan} {xs : List V} {o : HO} (hB : G B = some (.lst xs)) (h : RestAt T (OnlyL B) G a p) : RestAt T (OnlyL B) (upd G B o) a p :=
  h.keep (fun x e C dx fs z => by cases (show x = B from e); rw [hB] at z; cases z) keep_put
theorem KeptAt.push {T : Tx K mg} {G : Hp} {B t a r : Addr} {p : Plan} {l : KL} (h : KeptAt T G B l) (ht : G t = some (.tup [.ref a, .ref r])) (hp : PlanAt G a p) (hr : RestAt T (OnlyL B) G r p) (ok : p.Ok) : KeptAt T (upd G B (.lst (rfK l ++ [.ref t]))) B (l ++ [(t, a, r, p)]) := by
  have sb : SameBut B G (upd G B (.lst (rfK l ++ [.ref t]))) := (SameBut.refl _ _).put
  refine ⟨by rw [upd_same]; simp [rfK], fun z hz => ?_⟩
  have key : G z.1 = some (.tup [.ref z.2.1, .ref z.2.2.1]) ∧ PlanAt G z.2.1 z.2.2.2 ∧ RestAt T (OnlyL B) G z.2.2.1 z.2.2.2 ∧ z.2.2.2.Ok := by
    rcases List.mem_append.mp hz with hz | hz
    · exact h.prs z hz
    · rw [List.mem_singleton.mp hz]
      exact ⟨ht, hp, hr, ok⟩
  obtain ⟨h1, h2, h3, h4⟩ := key
  exact ⟨sb _ _ (ne_of h1 h.at_ (by intro q; cases q)) h1, h2.upB h.at_ sb, rest_put h.at_ h3, h4⟩
theorem eqd_list {H : Hp} {a b : Addr} {xs : List V} (ha : H a = some (.lst xs)) (hb : H b = some (.lst xs)) (hl : xs.length ≤ 50) {d : Nat} (h : ∀ x ∈ xs, Eqd H d x x) : Eqd H (d + 1) (.ref a) (.ref b) :=
  .inr (.inr ⟨a, b, xs, xs, rfl, rfl, .inl ⟨ha, hb⟩, rfl, hl, fun i u v hu hv => by
    rw [hu] at hv
    cases hv
    exact h u (List.mem_of_getElem? hu)⟩)
theorem eqd_row {H : Hp} {a b : Addr} {e : Ev} (ha : H a = some (.lst e.row)) (hb : H b = some (.lst e.row)) (g : ∀ v ∈ e.row, Eqd H 2 v v) : Eqd H 3 (.ref a) (.ref b) := eqd_list ha hb (by cases e <;> simp [Ev.row]) g
/-- what an asked deed comes to: its error told, or the rest that it made -/
theorem ask_any {T : Tx K mg} {Gz G1 : Hp} {b : Addr} {β : HO} {bad : Option Ev} {good : Hp → Addr → Prop} {tl : XK → Hp → VK → Prop} {Q0 : VK} (hb : Bag K Gz G1 b β) (hgu : ∀ G G' x, Same G G' → good G x → good G' x)
    (K1 : ∀ (e : Ev), bad = some e → ∀ (G3 : Hp) (β3 : HO) (f t : Addr), Same G1 G3 → Bag K Gz G3 b β3 → G3 f = some (.lst e.row) → G3 t = some (.tup [.non, .ref f]) → Q0 (.ref t) (upd G3 b β3))
    (K2 : ∀ (x : Addr) (G3 : Hp) (β3 : HO) (t : Addr), Same G1 G3 → Bag K Gz G3 b β3 → good G3 x → G3 t = some (.tup [.ref x, .non]) → Q0 (.ref t) (upd G3 b β3))
    (htl : ∀ (E : XK) (Q' : VK) (G2 : Hp), Same G1 G2 → Bag K Gz G2 b β → (∀ e, bad = some e → ∀ (G' : Hp) (β' : HO), Same G1 G' → Bag K Gz G' b β' → Goes T (upd G' b β') E e) → (∀ (x : Addr) (G' : Hp) (β' : HO), Same G1 G' → Bag K Gz G' b β' → good G' x → Q' (.ref x) (upd G' b β')) → tl E (upd G2 b β) Q') :
    TT_ask T tl (upd G1 b β) Q0 := by
  intro H2 E Q' s0 hE hQ
  obtain ⟨G2, nb2, s12, rfl⟩ := split_up hb.nb s0
  refine htl E Q' G2 s12 (hb.up s12 nb2) (fun e hbad G' β' s1 hb' H' d sm hd => ?_) (fun x G' β' s1 hb' hg => ?_)
  · refine hE _ _ _ ⟨e, d, rfl, rfl, hd, fun f t H3 s4 hf ht => ?_⟩
    obtain ⟨G3, nb3, s23, rfl⟩ := split_up hb'.nb (sm.trans s4)
    refine K1 e hbad G3 β' f t (s1.trans s23) (hb'.up s23 nb3) (off_bag ?_ hf) (off_bag (hb'.noT _) ht)
    cases e <;> exact hb'.noS _ _
  · refine hQ _ _ fun t H3 s4 ht => ?_
    obtain ⟨G3, nb3, s23, rfl⟩ := split_up hb'.nb s4
    exact K2 x G3 β' t (s1.trans s23) (hb'.up s23 nb3) (hgu _ _ _ s23 hg) (off_bag (hb'.noT _) ht)
theorem k_make {C : Addr} {sp : Sp} {dvs : List V} {E : XK} {t : TA} {σ : L2.St} {H : Hp} {Q : VK} (h : t σ H fun vs H1 => ∀ x dx, H1 x = none → H1 dx = none → dx ≠ x →
  sp (.ref x :: (vs ++ dvs)) (upd (upd H1 dx (.own x)) x (.ins C dx [])) (fun v H2 => v = .non ∧ Q (.ref x) H2) E) : tMake C sp dvs E t σ H Q := h
theorem same_made {x dx : Addr} {H : Hp} {C : Addr} {fs : List (Str × V)} (hx : H x = none) (hd : H dx = none) (ne : dx ≠ x) : Same H (upd (upd H dx (.own x)) x (.ins C dx fs)) := fun b o h => by
  rw [upd_ne (ne_of_none h hx), upd_ne (ne_of_none h hd)]
  exact h
/-- a rest is made beside the bag -/
theorem made_rest {T : Tx K mg} {F : Addr → Prop} {G0 G : Hp} {b x dx C : Addr} {β : HO} {p : Plan} {H' : Hp} (hb : Bag K G0 G b β) (nx : upd G b β x = none) (ndx : upd G b β dx = none) (ne : dx ≠ x) (sb : SameBut x (upd (upd (upd G b β) dx (.own x)) x (.ins C dx [])) H') (hr : RestAt T F H' x p) :
    ∃ G', H' = upd G' b β ∧ Same G G' ∧ Bag K G0 G' b β ∧ RestAt T F G' x p := by
  have s := SameBut.made nx ndx ne sb
  obtain ⟨G', nb', s', rfl⟩ := split_up hb.nb s
  have hb' := hb.up s' nb'
  exact ⟨G', rfl, s', hb', RestAt.down hb' hr⟩
/-- the list of the rests kept may change: the bag's own numbers are elsewhere -/
theorem Bag.bump {G : Hp} {b B : Addr} {β o : HO} {l : KL} (h : Bag K G G b β) (hB : G B = some (.lst (rfK l))) (hne : l ≠ []) (nBb : B ≠ b) : Bag K (upd G B o) (upd G B o) b β := by
  obtain ⟨ll, ns, i, r, s, c, rfl, hl, q⟩ := h.ex
  refine ⟨by rw [upd_ne (Ne.symm nBb)]; exact h.nb, Same.refl _, ll, ns, i, r, s, c, rfl, ?_, q⟩
  refine hl.elim (fun h => .inl (h.elim (fun h => .inl ?_) fun ⟨o2, h⟩ => .inr ⟨o2, ?_⟩)) fun h => .inr h
  · refine (upd_ne fun z => ?_).trans h
    rw [z, hB] at h
    cases l with
    | nil => exact hne rfl
    | cons y l => cases ns <;> cases h
  · exact (upd_ne (ne_of h hB (by intro z; cases z))).trans h
/-- the wish of the three: a row longer at most -/
def spStep (T : Tx K mg) : Sp := fun vs H Q _ => ∃ (G : Hp) (b B : Addr) (β : HO) (l : KL), vs = [.ref b, .ref B] ∧ H = upd G b β ∧ Bag K G G b β ∧ Tabs (TL_ T) (upd G b β) ∧ KeptAt T G B l ∧ l ≠ [] ∧ l.length ≤ 30 ∧
  ∀ (l' : KL) (G' : Hp) (β' : HO), Bag K G' G' b β' → Tabs (TL_ T) (upd G' b β') → KeptAt T G' B l' → l' ≠ [] → l'.length ≤ l.length + 1 → Q (.bl true) (upd G' b β')
def winBad (v : V) : Option Ev := if numV v 1 1000 = true then none else some (.num v)
theorem ok_window (T : Tx K mg) (TB_window : TabB base mg T.cda_window T.tb_window) : FnOk P w K mg base CX0 12 T.a_window T.fd_window P_window (spStep T) := by
  refine T.F_window.ok sc_window (fun vs H Q E h => ?_) (fun A outer s H vs Q E hr h => ?_)
  · obtain ⟨G, b, B, β, l, rfl, _⟩ := h
    rfl
  · obtain ⟨G, b, B, β, l, rfl, rfl, hb, hT, hK, hne, hl, k⟩ := h
    have nd := sc_window.nd
    obtain ⟨oc9, od9, kV9, doc9, pm9, an9, cdv9, ct9, osl9, efd9, lk_ask, hc_ask⟩ := T.F_ask.ex
    have hb_ask := T.b_ask
    rw [efd9] at lk_ask hb_ask
    refine ⟨_, (pss_cons (ks_setC (i := 4) nd c_window_law_wide (pe_call (ok_number T) (hr.mono (by first | decide | omega)) g_window_law_number T.m_number T.k_number T.b_number .nil pass0 (pa_cons (kv (i := 0) v_window_law_bag_here) (pa_cons pe_int pa_nil))))
      (pss_cons (ps_asg (pe_lamA (k := 8) (T := TL_ T) (TT := TT_ask T) g_window_law_ask T.m_ask T.k_ask lk_ask hc_ask hb_ask sc_ask rfl vl_ask (gives_ask T) TB_window rfl (TM_window T) (TU_window T) (hr.mono (by first | decide | omega)) (LamX.lamS_by lam_window_ls_window_1) (fun A outer s H E lf lc hr => (pe_ifExp (pt_cmpR op_eq (pe_call (ok_draw T) (hr.mono (by first | decide | omega)) g_window_L1_law_draw T.m_draw T.k_draw T.b_draw .nil pass0 (pa_cons (kv (i := 0) v_window_L1_law_bag_here) (pa_cons pe_int pa_nil))) pe_int (nomark _)) (pe_make T.mk_Window (ok_Window_init T) (hr.mono (by first | decide | omega)) g_window_L1_Window T.m_Window T.b_Window_init .nil (passes_call (takes_of rfl rfl rfl rfl) (fun _ _ _ _ h => h)) (pa_cons (kv (i := 4) v_window_L1_law_wide) pa_nil)) (pe_makeKS T.mk_Window (ok_Window_init T) (hr.mono (by first | decide | omega)) g_window_L1_Window T.m_Window T.kb_Window_init_width (fun σ => passAt (takes_of rfl rfl rfl rfl) σ) (pk_cons (kv (i := 4) v_window_L1_law_wide) pk_nil))))) (kpg_tup K 2 rfl (pgs_cons (kgL (i := 2) nd l_window_law_told) (pgs_cons (kgL (i := 3) nd l_window_law_fault) pgs_nil))))
      (pss_cons (ps_if (pt_not (pt_val (pe_call (ok_in T) (hr.mono (by first | decide | omega)) g_window_law_in T.m_in T.k_in T.b_in .nil pass0 (pa_cons (kv (i := 4) v_window_law_wide) (pa_cons pe_int (pa_cons pe_int pa_nil)))))) (pss_one (ps_ret (pe_and (pe_cmpR op_isN (kv (i := 2) v_window_law_told) pe_non (nomark _)) (pe_one (pe_call (ok_like T) (hr.mono (by first | decide | omega)) g_window_law_like T.m_like T.k_like T.b_like .nil pass0 (pa_cons (kv (i := 3) v_window_law_fault) (pa_cons (pe_lst (pa_cons pe_str (pa_cons (kv (i := 4) v_window_law_wide) pa_nil))) pa_nil))))))) pss_nil)
      (pss_cons (ps_expr (pe_bm PySem.F.plainAttrs_list PySem.F.slot_list_append PySem.F.type_list_append mt_append (kv (i := 1) v_window_law_kept) (pa_cons (pe_tup (pa_cons (pe_tup (pa_cons pe_str (pa_cons (kv (i := 4) v_window_law_wide) pa_nil))) (pa_cons (kv (i := 2) v_window_law_told) pa_nil))) pa_nil)))
      (pss_one (ps_ret (pe_and (pe_cmpR op_isN (kv (i := 3) v_window_law_fault) pe_non (nomark _)) (pe_and (kcB b_isinstance (by decide) (by decide) (kc_isi K) g_window_isinstance T.n_isinstance (pa_cons (kv (i := 2) v_window_law_told) (pa_cons (kcls g_window_Window T.m_Window) pa_nil))) (pe_and (kcB b_isinstance (by decide) (by decide) (kc_isi K) g_window_isinstance T.n_isinstance (pa_cons (kv (i := 2) v_window_law_told) (pa_cons (kcls g_window_Rest T.m_Rest) pa_nil))) (pe_one (pe_call (ok_like T) (hr.mono (by first | decide | omega)) g_window_law_like T.m_like T.k_like T.b_like .nil pass0 (pa_cons (kpe_fld K (kv (i := 2) v_window_law_told)) (pa_cons (kv (i := 4) v_window_law_wide) pa_nil))))))))))))), ?_⟩
    walk_at "ss"
    refine ⟨G, G, b, β, 1000, rfl, by decide, by decide, rfl, hb, fun v G2 β2 s2 hb2 hv => ?_⟩
    have hT2 : Tabs (TL_ T) (upd G2 b β2) := Tabs.bag hT hb s2 hb2.nb
    have hK2 := hK.up s2
    walk_at "ss"
    refine k_lam hT2 fun H1 eN T1 => ?_
    obtain ⟨G3, nb3, e3, rfl⟩ := split_ext hb2.nb hb2.nt eN
    have hb3 := hb2.ext e3 nb3
    have hK3 := hK2.ext e3
    have hv3 := hv.keep (ext_keep e3)
    refine ask_any (bad := winBad v) (good := fun G x => ∃ n, v = .int n ∧ 1 ≤ n ∧ n ≤ 1000 ∧ RestAt T (OnlyL B) G x (.win n)) hb3 (fun G G' x e ⟨n, h1, h2, h3, h4⟩ => ⟨n, h1, h2, h3, h4.up e⟩) ?_ ?_ ?_
    · intro e hbad G4 β4 f t s4 hb4 hf ht
      refine k_gTup (SqT.of (up_get hb4.nb ht)) rfl ?_
      walk_at "ss"
      have sU := up_same (β := β4) hb4.nb
      have q0 := (hv3.up s4).up sU
      have hf4 := sU _ _ hf
      refine ⟨v, 1, 1000, rfl, q0.gv, ?_⟩
      cases e0 : numV v 1 1000 with
      | true => unfold winBad at hbad; rw [if_pos e0] at hbad; cases hbad
      | false =>
        unfold winBad at hbad
        rw [if_neg (by rw [e0]; decide)] at hbad
        cases hbad
        walk_at "ss"
        refine ⟨rfl, ?_⟩
        refine ⟨_, rfl, ?_⟩
        refine k_dt rfl ?_
        walk_at "ss"
        intro q nq
        generalize eD : upd (upd G4 b β4) q _ = H5
        have s5 := upd_sm eD nq
        have hq := upd_at eD
        clear eD
        walk_at "ss"
        refine ⟨_, _, rfl, eqd_row (e := .num v) (s5 _ _ hf4) hq (fun y hy => ?_), fun H6 s6 => ?_⟩
        · rcases List.mem_cons.mp hy with rfl | hy
          · exact Eqd.sc (.str _) 2
          · rw [List.mem_singleton.mp hy]
            exact (q0.up s5).eqd
        · obtain ⟨G6, nb6, s46, rfl⟩ := split_up hb4.nb (s5.trans s6)
          exact k l G6 β4 (hb4.up s46 nb6).re (Tabs.bag T1 hb3 (s4.trans s46) nb6) (hK3.up (s4.trans s46)) hne (by omega)
    · rintro x G4 β4 t s4 hb4 ⟨n, rfl, h1, h2, hx⟩ ht
      refine k_gTup (SqT.of (up_get hb4.nb ht)) rfl ?_
      walk_at "ss"
      refine ⟨.int n, 1, 1000, rfl, .int n, ?_⟩
      rw [numV_t h1 h2]
      have hK4 := hK3.up s4
      walk_at "ss"
      refine k_bm ?_
      walk_at "ss"
      refine ⟨.inl ⟨rfl, _, SqL.of (up_get hb4.nb hK4.at_)⟩, ?_⟩
      walk_at "ss"
      intro pa nt_pa
      rw [upd_swap (up_none nt_pa).2]
      generalize eG_pa : upd _ pa _ = G5
      obtain ⟨nb5, s5, hpa, nt_pa, nG_pa⟩ := new_facts hb4.nb nt_pa eG_pa
      clear eG_pa
      walk_at "ss"
      intro pt nt_pt
      rw [upd_swap (up_none nt_pt).2]
      generalize eG_pt : upd _ pt _ = G6
      obtain ⟨nb6, s6, hpt, nt_pt, nG_pt⟩ := new_facts nb5 nt_pt eG_pt
      clear eG_pt
      have s46 := s5.trans s6
      have hK6 := hK4.up s46
      walk_at "ss"
      refine k_app (up_get nb6 hK6.at_) (by rw [List.length_map]; omega) ?_
      have nBb : B ≠ b := ne_of_none hK6.at_ nb6
      rw [upd_swap nBb]
      have hx6 := hx.up s46
      have hK7 := hK6.push hpt (.win (s6 _ _ hpa)) hx6 ⟨h1, h2⟩
      have hx7 := rest_put (o := .lst (rfK l ++ [.ref pt])) hK6.at_ hx6
      have hT6 : Tabs (TL_ T) (upd G6 b β4) := Tabs.bag T1 hb3 (s4.trans s46) nb6
      have hT7 := Tabs.put (ys := rfK l ++ [.ref pt]) hT6 (up_get nb6 hK6.at_)
      rw [upd_swap nBb] at hT7
      have hb7 : Bag K G6 G6 b β4 := (hb4.up s46 nb6).re
      have hb8 : Bag K (upd G6 B (.lst (rfK l ++ [.ref pt]))) (upd G6 B (.lst (rfK l ++ [.ref pt]))) b β4 := Bag.bump hb7 hK6.at_ hne nBb
      generalize eG : upd G6 B _ = G7
      rw [eG] at hK7 hx7 hT7 hb8
      clear eG
      walk_at "ss"
      refine ⟨rfl, ?_⟩
      refine ⟨_, rfl, ?_⟩
      refine k_dt rfl ?_
      cases hx7 with
      | win hw =>
      have hw := up_get (β := β4) hb8.nb hw
      walk_at "ss"
      refine k_isiO (ty_own T.ty_Window hw) T.kt_Window_Window ?_
      walk_at "ss"
      refine k_isiO (ty_own T.ty_Window hw) T.kt_Window_Rest ?_
      walk_at "ss"
      refine k_fldAt hw T.cl_Window T.no_Window_width (i := 4) (by decide +kernel) rfl ?_
      walk_at "ss"
      refine ⟨_, _, rfl, Eqd.sc (.int _) 3, fun H6 s6 => ?_⟩
      obtain ⟨G8, nb8, s78, rfl⟩ := split_up hb8.nb s6
      exact k _ G8 β4 (hb8.up s78 nb8).re (Tabs.bag hT7 hb8 s78 nb8) (hK7.up s78) (by simp) (by simp)
    · intro E2 Q2 G4 s4 hb4 hE hQ
      have hv4 := hv3.up s4
      walk_at "ss"
      refine k_draw hb4 (by decide) (by decide) fun wy β5 _ _ hb5 => ?_
      have fin : ∀ x dx, upd G4 b β5 x = none → upd G4 b β5 dx = none → dx ≠ x → spWinInit T [.ref x, v] (upd (upd (upd G4 b β5) dx (.own x)) x (.ins T.C_Window dx [])) (fun u H3 => u = .non ∧ Q2 (.ref x) H3) E2 := fun x dx nx ndx ne => by
        have sM := same_made (C := T.C_Window) (fs := []) nx ndx ne
        refine ⟨OnlyL B, x, dx, v, rfl, ((hv4.up (up_same hb5.nb)).up sM).gv, upd_same, fun h => (hE _ (by unfold winBad; rw [if_neg (by rw [h]; decide)]) G4 β5 s4 hb5).up sM, fun n e h0 h1 H' sb hr => ⟨rfl, ?_⟩⟩
        obtain ⟨G5, rfl, s5, hb6, hr5⟩ := made_rest hb5 nx ndx ne sb hr
        exact hQ x G5 β5 (s4.trans s5) hb6 ⟨n, e, h0, h1, hr5⟩
      walk_at "ss"
      refine k_d (fun _ => ?_) (fun _ => ?_)
      · refine k_make ?_
        walk_at "ss"
        exact fin
      · refine k_makeKS ?_
        walk_at "ss"
        exact fin
end

section
open LamX
variable {w : World} {K : PySem.W.Frag} {mg : Str → Option Value} {base : Heap}
abbrev One1 (C0 : Addr) (sp0 : Sp) : Addr → Sp → Prop := fun C sp => C = C0 ∧ sp = sp0
theorem disp1 {C0 g0 : Addr} {fd0 : FuncData} {ps0 : List Str} {sp0 : Sp} {k : Nat} {m : Str} (cl : Cls K C0) (me : Meth K C0 m g0) (Fn : FnOk P w K mg base CX0 k g0 fd0 ps0 sp0) (b : Binds K fd0 ps0 []) :
    ∀ C sp, One1 C0 sp0 C sp → ∃ g fd ps, Cls K C ∧ Meth K C m g ∧ FnOk P w K mg base CX0 k g fd ps sp ∧ Binds K fd ps [] := by
  rintro C sp ⟨rfl, rfl⟩
  exact ⟨_, _, _, cl, me, Fn, b⟩
/-- the bag behind what changes the tables: a list that the ground had not is not its own -/
theorem Bag.ext2 {G0 G G1 : Hp} {b : Addr} {β : HO} (h : Bag K G0 G b β) (e : ExtN G G1) (n : G1 b = none) : ∃ Gm, Bag K Gm G1 b β ∧ ∀ a, G0 a = none → Gm a = none := by
  obtain ⟨l, ns, i, r, s, c, rfl, hl, q⟩ := h.ex
  refine ⟨fun a => if G0 a = none then none else G1 a, ⟨n, fun a o ha => ?_, l, ns, i, r, s, c, rfl, ?_, q⟩, fun a ha => if_pos ha⟩
  · have ha : (if G0 a = none then none else G1 a) = some o := ha
    by_cases z : G0 a = none
    · rw [if_pos z] at ha; cases ha
    · rw [if_neg z] at ha; exact ha
  · have key : ∀ o, G0 l = some o → (∀ ps, o ≠ .tbl ps) → (if G0 l = none then none else G1 l) = some o := fun o ho nt => by
      rw [if_neg (by rw [ho]; intro z; cases z)]
      exact e _ _ (h.sm _ _ ho) nt
    exact hl.elim (fun h => .inl (h.elim (fun h => .inl (key _ h (fun ps z => by cases z))) fun ⟨o, h⟩ => .inr ⟨o, key _ h (fun ps z => by cases z)⟩)) fun h => .inr h
theorem SqAt.gv {G : Hp} {a : Addr} {xs : List V} (h : SqAt G a xs) : Gv G (.ref a) := h.elim (fun h => .lst h) (fun h => .tup h)
def OthAt (G : Hp) (v : V) : Prop := ScB v ∨ ∃ a ks, v = .ref a ∧ G a = some (.dK ks) ∧ OkD ks
theorem OthAt.gd {G : Hp} {v : V} (h : OthAt G v) : Gd NoF G 2 v := by
  rcases h with h | ⟨a, ks, rfl, h, k⟩
  · exact .inl h
  · exact .inr (.inr ⟨a, ks, rfl, id, h, k⟩)
theorem OthAt.seqOr {G : Hp} {v : V} (h : OthAt G v) : SeqOr G v none := by
  refine .oth h.gd.gv fun a xs e z => ?_
  rcases h with h | ⟨a2, ks, rfl, h, k⟩
  · subst e
    cases h
  · cases e
    rcases z with z | z <;> rw [h] at z <;> cases z
/-- the borders given, and their copy -/
def CopyAt (G : Hp) (B : Addr) (v cv : V) (o : Option (List V)) : Prop := (o = none ∧ cv = .non ∧ OthAt G v) ∨ ∃ (L C : Addr) (xs : List V), o = some xs ∧ v = .ref L ∧ cv = .ref C ∧ SqAt G L xs ∧ G C = some (.lst xs) ∧ C ≠ L ∧ L ≠ B ∧ xs.length ≤ 20 ∧ ∀ x ∈ xs, Gd NoF G 1 x
theorem CopyAt.ext {G G' : Hp} {B : Addr} {v cv : V} {o : Option (List V)} (h : CopyAt G B v cv o) (e : ExtN G G') : CopyAt G' B v cv o := by
  rcases h with ⟨h1, h2, h3⟩ | ⟨L, C, xs, h1, h2, h3, h4, h5, h6, h7, h8, h9⟩
  · exact .inl ⟨h1, h2, h3.imp id fun ⟨a, ks, q1, q2, q3⟩ => ⟨a, ks, q1, e _ _ q2 (fun ps z => by cases z), q3⟩⟩
  · exact .inr ⟨L, C, xs, h1, h2, h3, h4.ext e, e _ _ h5 (fun ps z => by cases z), h6, h7, h8, fun x hx => (h9 x hx).keep (ext_keep e)⟩
theorem same_ext {G G' : Hp} (e : Same G G') : ExtN G G' := fun a o h _ => e a o h
theorem CopyAt.up {G G' : Hp} {B : Addr} {v cv : V} {o : Option (List V)} (h : CopyAt G B v cv o) (e : Same G G') : CopyAt G' B v cv o := h.ext (same_ext e)
theorem CopyAt.seqOr {G : Hp} {B : Addr} {v cv : V} {o : Option (List V)} (h : CopyAt G B v cv o) : SeqOr G v o := by
  rcases h with ⟨rfl, h2, h3⟩ | ⟨L, C, xs, rfl, rfl, h3, h4, h5, h6, h7, h8, h9⟩
  · exact h3.seqOr
  · exact .seq h4 h8 fun x hx => (h9 x hx).gv
theorem RestAt.daysO {T : Tx K mg} {F : Addr → Prop} {G : Hp} {x : Addr} {bs : List Int} {p : Int} (h : RestAt T F G x (.days bs p)) : ∃ dx l, G x = some (.ins T.C_Days dx (FL nDays [.str (Plan.days bs p).tx, .int 1, .int p, .int (baseOf bs), .int p, .ref l])) ∧ G l = some (.lst (bs.map V.int)) ∧ ¬ F l := by
  cases h with
  | days h hl hF => exact ⟨_, _, h, hl, hF⟩
theorem RestAt.fresh {T : Tx K mg} {F : Addr → Prop} {G : Hp} {L : Addr} (n : G L = none) : ∀ {a : Addr} {p : Plan}, RestAt T F G a p → RestAt T (fun x => F x ∨ x = L) G a p := by
  intro a p h
  induction h with
  | win h => exact .win h
  | days h hl hF => exact .days h hl fun z => z.elim hF fun z => by rw [z, n] at hl; cases hl
  | op h h1 h2 i1 i2 => exact .op h i1 i2
theorem ext_trans {G G1 G2 : Hp} (a : ExtN G G1) (b : ExtN G1 G2) : ExtN G G2 := fun c o h n => b _ _ (a _ _ h n) n
/-- a list that the ground had not may change: the rests kept stay -/
theorem KeptAt.off {T : Tx K mg} {G G' : Hp} {B L : Addr} {l : KL} {xs ys : List V} (h0 : KeptAt T G B l) (e : ExtN G G') (n : G L = none) (hL : G' L = some (.lst xs)) : KeptAt T (upd G' L (.lst ys)) B l := by
  have h := h0.ext e
  have nBL : B ≠ L := fun z => by rw [← z, h0.at_] at n; cases n
  have sb : SameBut L G' (upd G' L (.lst ys)) := (SameBut.refl _ _).put
  refine ⟨(upd_ne nBL).trans h.at_, fun z hz => ?_⟩
  obtain ⟨h1, h2, _, h4⟩ := h.prs z hz
  obtain ⟨_, _, h3, _⟩ := h0.prs z hz
  refine ⟨sb _ _ (ne_of h1 hL (by intro q; cases q)) h1, h2.upB hL sb, ?_, h4⟩
  have h5 := (h3.fresh n).ext e
  refine (h5.keep (H' := upd G' L (.lst ys)) (fun a hF C dx fs z => ?_) (fun a o hF ho _ => (upd_ne (fun z => hF (.inr z))).trans ho)).weak fun a hF => .inl hF
  rcases hF with hF | hF
  · cases (show a = B from hF)
    rw [h.at_] at z
    cases z
  · rw [hF, hL] at z
    cases z
theorem k_bord {T : Tx K mg} {F : Addr → Prop} {H : Hp} {a : Addr} {bs : List Int} {p : Int} {E : XK} {σ : L2.St} {Q : VK} {ta : TE} (hx : RestAt T F H a (.days bs p)) (hσ : ∀ Q : VK, Q (.ref a) H → ta σ H Q) (k : ∀ l, H l = none → Q (.ref l) (upd H l (.lst (bs.map V.int)))) : tMethP (One1 T.C_Days (spBorders T)) "borders" E ta tNil σ H Q := by
  obtain ⟨dx, l2, hw, _, _⟩ := hx.daysO
  refine hσ _ ?_
  exact ⟨a, T.C_Days, dx, _, spBorders T, rfl, hw, ⟨rfl, rfl⟩, no_meth (ns := nD1) (vs := [.str (Plan.days bs p).tx, .int 1, .int p, .int (baseOf bs), .int p, .ref l2]) (by decide +kernel) (by decide +kernel) (.inr (.inl rfl)), F, a, bs, p, rfl, hx, k⟩
theorem ints_eqd {H : Hp} {a b : Addr} {bs : List Int} (ha : H a = some (.lst (bs.map V.int))) (hb : H b = some (.lst (bs.map V.int))) (hl : bs.length ≤ 50) (d : Nat) : Eqd H (d + 1) (.ref a) (.ref b) := eqd_list ha hb (by rw [List.length_map]; exact hl) fun y hy => by
  obtain ⟨z, _, rfl⟩ := List.mem_map.mp hy
  exact Eqd.sc (.int _) d
theorem CopyAt.there {G : Hp} {B : Addr} {v cv : V} {o : Option (List V)} (h : CopyAt G B v cv o) : ∀ a, v = .ref a → G a ≠ none := fun a e z => by
  rcases h with ⟨rfl, h2, h3⟩ | ⟨L, C, xs, rfl, rfl, h3, h4, h5, h6, h7, h8, h9⟩
  · rcases h3 with h3 | ⟨a2, ks, e2, h3, _⟩
    · subst e
      cases h3
    · rw [e2] at e
      cases e
      rw [h3] at z
      cases z
  · cases e
    rcases h4 with h4 | h4 <;> rw [h4] at z <;> cases z
def DueAt (G : Hp) (dv : V) (bad : Option Ev) : Prop := (bad = none ∧ dv = .non) ∨ ∃ e f, bad = some e ∧ dv = .ref f ∧ G f = some (.lst e.row)
theorem DueAt.ext {G G' : Hp} {dv : V} {bad : Option Ev} (h : DueAt G dv bad) (e : ExtN G G') : DueAt G' dv bad := h.imp id fun ⟨e2, f, h1, h2, h3⟩ => ⟨e2, f, h1, h2, e _ _ h3 (fun ps z => by cases z)⟩
theorem DueAt.up {G G' : Hp} {dv : V} {bad : Option Ev} (h : DueAt G dv bad) (e : Same G G') : DueAt G' dv bad := h.ext (same_ext e)
theorem row_eqd {H : Hp} {e : Ev} (h : ∀ v, (e = .num v ∨ e = .rest v ∨ e = .bord v) → Eqd H 2 v v) : ∀ y ∈ e.row, Eqd H 2 y y := fun y hy => by
  cases e with
  | num v =>
    rcases List.mem_cons.mp hy with rfl | hy
    · exact Eqd.sc (.str _) 2
    · rw [List.mem_singleton.mp hy]; exact h v (.inl rfl)
  | rest v =>
    rcases List.mem_cons.mp hy with rfl | hy
    · exact Eqd.sc (.str _) 2
    · rw [List.mem_singleton.mp hy]; exact h v (.inr (.inl rfl))
  | bord v =>
    rcases List.mem_cons.mp hy with rfl | hy
    · exact Eqd.sc (.str _) 2
    · rw [List.mem_singleton.mp hy]; exact h v (.inr (.inr rfl))
  | many z n =>
    simp only [Ev.row, List.mem_cons, List.not_mem_nil, or_false] at hy
    rcases hy with rfl | rfl | rfl
    · exact Eqd.sc (.str _) 2
    · exact Eqd.sc (.str _) 2
    · exact Eqd.sc (.int _) 2
theorem edgesBad_val {o : Option (List V)} {g v : V} {e : Ev} (h : edgesBad o g = some e) (k : e = .num v ∨ e = .rest v ∨ e = .bord v) : v = g ∨ ∃ i, v = .int i := by
  cases o with
  | none =>
    cases h
    rcases k with k | k | k <;> cases k
    exact .inr ⟨_, rfl⟩
  | some xs =>
    have h : dayBad xs g = some e := h
    unfold dayBad at h
    by_cases h12 : 12 < xs.length
    · rw [if_pos h12] at h
      cases h
      rcases k with k | k | k <;> cases k
    · rw [if_neg h12] at h
      cases hb : bordBad 1 0 xs with
      | some i =>
        rw [hb] at h
        cases h
        rcases k with k | k | k <;> cases k
        exact .inr ⟨_, rfl⟩
      | none =>
        rw [hb] at h
        dsimp only at h
        by_cases hg : numV g 1 2000 = true
        · rw [if_pos hg] at h; cases h
        · rw [if_neg hg] at h
          cases h
          rcases k with k | k | k <;> cases k
          exact .inl rfl
theorem ok_days (T : Tx K mg) (TB_days : TabB base mg T.cda_days T.tb_days) : FnOk P w K mg base CX0 12 T.a_days T.fd_days P_days (spStep T) := by
  refine T.F_days.ok sc_days (fun vs H Q E h => ?_) (fun A outer s H vs Q E hr h => ?_)
  · obtain ⟨G, b, B, β, l, rfl, _⟩ := h
    rfl
  · obtain ⟨G, b, B, β, l, rfl, rfl, hb, hT, hK, hne, hl, k⟩ := h
    have nd := sc_days.nd
    obtain ⟨oc9, od9, kV9, doc9, pm9, an9, cdv9, ct9, osl9, efd9, lk_ask, hc_ask⟩ := T.F_ask.ex
    have hb_ask := T.b_ask
    rw [efd9] at lk_ask hb_ask
    refine ⟨_, (pss_cons (ps_asg (pe_tup (pa_cons (pe_call (ok_borders T) (hr.mono (by first | decide | omega)) g_days_law_borders T.m_borders T.k_borders T.b_borders .nil pass0 (pa_cons (kv (i := 0) v_days_law_bag_here) pa_nil)) (pa_cons (pe_call (ok_number T) (hr.mono (by first | decide | omega)) g_days_law_number T.m_number T.k_number T.b_number .nil pass0 (pa_cons (kv (i := 0) v_days_law_bag_here) (pa_cons pe_int pa_nil))) pa_nil))) (kpg_tup K 2 rfl (pgs_cons (kgC (i := 7) nd c_days_law_edges) (pgs_cons (kgC (i := 8) nd c_days_law_gap) pgs_nil))))
      (kss_meet (ks_setL (i := 2) nd l_days_law_copy (pe_ifExp (pt_val (kcB b_isinstance (by decide) (by decide) (kc_isiT K) g_days_isinstance T.n_isinstance (pa_cons (kv (i := 7) v_days_law_edges) (pa_cons (pe_tup (pa_cons (kty_list g_days_list T.n_list) (pa_cons (kty_tuple g_days_tuple T.n_tuple) pa_nil))) pa_nil)))) (kcT b_list (by decide) (by decide) (kc_list K) g_days_list T.n_list (pa_cons (kv (i := 7) v_days_law_edges) pa_nil)) pe_non))
      (kss_meet (ks_setL (i := 3) nd l_days_law_due (pe_call (ok_days_due T) (hr.mono (by first | decide | omega)) g_days_law_days_due T.m_days_due T.k_days_due T.b_days_due .nil pass0 (pa_cons (kv (i := 7) v_days_law_edges) (pa_cons (kv (i := 8) v_days_law_gap) pa_nil))))
      (pss_cons (ps_asg (pe_lamA (k := 8) (T := TL_ T) (TT := TT_ask T) g_days_law_ask T.m_ask T.k_ask lk_ask hc_ask hb_ask sc_ask rfl vl_ask (gives_ask T) TB_days rfl (TM_days T) (TU_days T) (hr.mono (by first | decide | omega)) (LamX.lamS_by lam_days_ls_days_1) (fun A outer s H E lf lc hr => (pe_ifExp (pt_cmpR op_eq (pe_call (ok_draw T) (hr.mono (by first | decide | omega)) g_days_L1_law_draw T.m_draw T.k_draw T.b_draw .nil pass0 (pa_cons (kv (i := 0) v_days_L1_law_bag_here) (pa_cons pe_int pa_nil))) pe_int (nomark _)) (pe_make T.mk_Days (ok_Days_init T) (hr.mono (by first | decide | omega)) g_days_L1_Days T.m_Days T.b_Days_init .nil (passes_call (takes_of rfl rfl rfl rfl) (fun _ _ _ _ h => h)) (pa_cons (kv (i := 7) v_days_L1_law_edges) (pa_cons (kv (i := 8) v_days_L1_law_gap) pa_nil))) (pe_makeKS T.mk_Days (ok_Days_init T) (hr.mono (by first | decide | omega)) g_days_L1_Days T.m_Days T.kb_Days_init_every_borders (fun σ => passAt (takes_of rfl rfl rfl rfl) σ) (pk_cons (kv (i := 8) v_days_L1_law_gap) (pk_cons (kv (i := 7) v_days_L1_law_edges) pk_nil)))))) (kpg_tup K 2 rfl (pgs_cons (kgL (i := 4) nd l_days_law_told) (pgs_cons (kgL (i := 5) nd l_days_law_fault) pgs_nil))))
      (pss_cons (ps_if (pt_cmpR op_notN (kv (i := 3) v_days_law_due) pe_non (nomark _)) (pss_one (ps_ret (pe_and (pe_cmpR op_isN (kv (i := 4) v_days_law_told) pe_non (nomark _)) (pe_and (pe_call (ok_like T) (hr.mono (by first | decide | omega)) g_days_law_like T.m_like T.k_like T.b_like .nil pass0 (pa_cons (kv (i := 5) v_days_law_fault) (pa_cons (kv (i := 3) v_days_law_due) pa_nil))) (pe_one (pe_or (pe_cmpR op_isN (kv (i := 2) v_days_law_copy) pe_non (nomark _)) (pe_one (pe_call (ok_like T) (hr.mono (by first | decide | omega)) g_days_law_like T.m_like T.k_like T.b_like .nil pass0 (pa_cons (kcT b_list (by decide) (by decide) (kc_list K) g_days_list T.n_list (pa_cons (kv (i := 7) v_days_law_edges) pa_nil)) (pa_cons (kv (i := 2) v_days_law_copy) pa_nil)))))))))) pss_nil)
      (pss_cons (ps_if (PW.pt (pw_or (pt_cmpR op_notN (kv (i := 5) v_days_law_fault) pe_non (nomark _)) (pw_or (pt_not (pt_val (kcB b_isinstance (by decide) (by decide) (kc_isi K) g_days_isinstance T.n_isinstance (pa_cons (kv (i := 4) v_days_law_told) (pa_cons (kcls g_days_Days T.m_Days) pa_nil))))) (pw_or1 (pt_not (pt_val (kcB b_isinstance (by decide) (by decide) (kc_isi K) g_days_isinstance T.n_isinstance (pa_cons (kv (i := 4) v_days_law_told) (pa_cons (kcls g_days_Rest T.m_Rest) pa_nil))))))))) (pss_one (ps_ret pe_bl)) pss_nil)
      (kss_meet (ps_if (pt_val (kcB b_isinstance (by decide) (by decide) (kc_isi K) g_days_isinstance T.n_isinstance (pa_cons (kv (i := 7) v_days_law_edges) (pa_cons (kty_list g_days_list T.n_list) pa_nil)))) (pss_one (ps_expr (pe_bm PySem.F.plainAttrs_list PySem.F.slot_list_append PySem.F.type_list_append mt_append (kv (i := 7) v_days_law_edges) (pa_cons pe_int pa_nil)))) pss_nil)
      (pss_cons (ps_if (pt_not (pt_val (pe_call (ok_like T) (hr.mono (by first | decide | omega)) g_days_law_like T.m_like T.k_like T.b_like .nil pass0 (pa_cons (pe_lst (pa_cons (kpe_fld K (kv (i := 4) v_days_law_told)) (pa_cons (kpe_methP0 (disp1 T.cl_Days T.me_Days_borders (ok_Days_borders T) T.b_Days_borders) (hr.mono (by first | decide | omega)) pass0 (kv (i := 4) v_days_law_told)) pa_nil))) (pa_cons (pe_lst (pa_cons (kv (i := 8) v_days_law_gap) (pa_cons (kv (i := 2) v_days_law_copy) pa_nil))) pa_nil))))) (pss_one (ps_ret pe_bl)) pss_nil)
      (pss_cons (ks_setL (i := 6) nd l_days_law_some (kpe_methP0 (disp1 T.cl_Days T.me_Days_borders (ok_Days_borders T) T.b_Days_borders) (hr.mono (by first | decide | omega)) pass0 (kv (i := 4) v_days_law_told)))
      (pss_cons (ps_expr (pe_bm PySem.F.plainAttrs_list PySem.F.slot_list_append PySem.F.type_list_append mt_append (kv (i := 6) v_days_law_some) (pa_cons pe_int pa_nil)))
      (pss_cons (ps_expr (pe_bm PySem.F.plainAttrs_list PySem.F.slot_list_append PySem.F.type_list_append mt_append (kv (i := 1) v_days_law_kept) (pa_cons (pe_tup (pa_cons (pe_tup (pa_cons pe_str (pa_cons (kcT b_tuple (by decide) (by decide) (kc_tuple K) g_days_tuple T.n_tuple (pa_cons (kv (i := 2) v_days_law_copy) pa_nil)) (pa_cons (kv (i := 8) v_days_law_gap) pa_nil)))) (pa_cons (kv (i := 4) v_days_law_told) pa_nil))) pa_nil)))
      (pss_one (ps_ret (pe_call (ok_like T) (hr.mono (by first | decide | omega)) g_days_law_like T.m_like T.k_like T.b_like .nil pass0 (pa_cons (kpe_methP0 (disp1 T.cl_Days T.me_Days_borders (ok_Days_borders T) T.b_Days_borders) (hr.mono (by first | decide | omega)) pass0 (kv (i := 4) v_days_law_told)) (pa_cons (kv (i := 2) v_days_law_copy) pa_nil)))))))))))))))), ?_⟩
    walk_at "ss"
    refine ⟨G, G, b, β, rfl, rfl, hb, fun v o G2 β2 s2 hb2 hv => ?_⟩
    walk_at "ss"
    refine ⟨G, G2, b, β2, 2000, rfl, by decide, by decide, rfl, hb2, fun g G3 β3 s3 hb3 hg => ?_⟩
    walk_at "ss"
    intro tp nt_tp
    rw [upd_swap (up_none nt_tp).2]
    generalize eG_tp : upd _ tp _ = G4
    obtain ⟨nb4, s4, htp, nt_tp, nG_tp⟩ := new_facts hb3.nb nt_tp eG_tp
    clear eG_tp
    have hb4 := hb3.up s4 nb4
    walk_at "ss"
    have s24 := s3.trans s4
    have s04 := s2.trans s24
    have hK4 := hK.up s04
    have hg4 := hg.up s4
    have hT4 : Tabs (TL_ T) (upd G4 b β3) := Tabs.bag hT hb s04 nb4
    refine k_meet (fun σ H' => ∃ (G' : Hp) (cv : V), σ = [some (.ref b), some (.ref B), some cv, none, none, none, none, some v, some g] ∧ H' = upd G' b β3 ∧ Same G4 G' ∧ Bag K G G' b β3 ∧ CopyAt G' B v cv o ∧ (∀ L, v = .ref L → o ≠ none → G L = none)) ?_ ?_
    · walk_at "ss"
      intro t5 nt_t5
      rw [upd_swap (up_none nt_t5).2]
      generalize eG_t5 : upd _ t5 _ = G5
      obtain ⟨nb5, s5, ht5, nt_t5, nG_t5⟩ := new_facts nb4 nt_t5 eG_t5
      clear eG_t5
      have hb5 := hb4.up s5 nb5
      cases hv with
      | @seq L xs n h l g1 =>
        have h5 := (h.up s24).up s5
        have hG5 : ∀ x ∈ xs, Gd NoF G5 1 x := fun x hx => ((g1 x hx).up s24).up s5
        have nLB : L ≠ B := fun z => by rw [z, hK.at_] at n; cases n
        walk_at "ss"
        refine k_gSeq (SqAt.gv (h5.up (up_same nb5))) (up_get nb5 ht5) (fun _ _ _ _ => ?_) (fun hno => (hno _ _ rfl (h5.up (up_same nb5))).elim)
        walk_at "ss"
        refine k_listLT (h5.up (up_same nb5)) ?_
        intro C nt_C
        rw [upd_swap (up_none nt_C).2]
        generalize eG_C : upd _ C _ = G6
        obtain ⟨nb6, s6, hC, nt_C, nG_C⟩ := new_facts nb5 nt_C eG_C
        clear eG_C
        walk_at "ss"
        refine ⟨G6, _, rfl, rfl, s5.trans s6, hb5.up s6 nb6, .inr ⟨L, C, xs, rfl, rfl, rfl, h5.up s6, hC, fun z => ?_, nLB, l, fun x hx => (hG5 x hx).up s6⟩, fun L2 e _ => by cases e; exact n⟩
        rw [z] at nG_C
        rcases h5 with h5 | h5 <;> rw [nG_C] at h5 <;> cases h5
      | oth g1 n =>
        have hO : OthAt G2 v := by
          rcases g1 with h | ⟨a, xs, rfl, _, h, _⟩ | ⟨a, ks, e, _, h, k⟩
          · exact .inl h
          · exact (n a xs rfl h).elim
          · exact .inr ⟨a, ks, e, h, k⟩
        have hO5 : OthAt G5 v := hO.imp id fun ⟨a, ks, q1, q2, q3⟩ => ⟨a, ks, q1, s5 _ _ (s24 _ _ q2), q3⟩
        have hOu : OthAt (upd G5 b β3) v := hO5.imp id fun ⟨a, ks, q1, q2, q3⟩ => ⟨a, ks, q1, up_get nb5 q2, q3⟩
        walk_at "ss"
        refine k_gSeq hOu.gd.gv (up_get nb5 ht5) (fun a xs e z => ?_) (fun hno => ?_)
        · have q := hOu.seqOr
          cases q with
          | oth g n => exact (n _ _ e z).elim
        · walk_at "ss"
          exact ⟨G5, _, rfl, rfl, s5, hb5, .inl ⟨rfl, rfl, hO5⟩, fun L2 e z => (z rfl).elim⟩
    · rintro σ H' ⟨G5, cv, rfl, rfl, s5, hb5, hC5, hL0⟩
      have hg5 := hg4.up s5
      have hK5 := hK4.up s5
      have hT5 : Tabs (TL_ T) (upd G5 b β3) := Tabs.bag hT4 hb4 s5 hb5.nb
      walk_at "ss"
      refine k_meet (fun σ H' => ∃ (G' : Hp) (dv : V), σ = [some (.ref b), some (.ref B), some cv, some dv, none, none, none, some v, some g] ∧ H' = upd G' b β3 ∧ Same G5 G' ∧ Bag K G G' b β3 ∧ DueAt G' dv (edgesBad o g)) ?_ ?_
      · walk_at "ss"
        have sU := up_same (β := β3) hb5.nb
        refine ⟨v, g, o, rfl, hC5.seqOr.up sU, (hg5.up sU).gv, fun hn H6 s6 => ?_, fun e hbad f H6 s6 hf => ?_⟩
        · obtain ⟨G6, nb6, s56, rfl⟩ := split_up hb5.nb s6
          walk_at "ss"
          exact ⟨G6, _, rfl, rfl, s56, hb5.up s56 nb6, .inl ⟨hn, rfl⟩⟩
        · obtain ⟨G6, nb6, s56, rfl⟩ := split_up hb5.nb s6
          walk_at "ss"
          exact ⟨G6, _, rfl, rfl, s56, hb5.up s56 nb6, .inr ⟨e, f, hbad, rfl, off_bag (by cases e <;> exact hb5.noS _ _) hf⟩⟩
      · rintro σ H' ⟨G6, dv, rfl, rfl, s6, hb6, hD6⟩
        have hg6 := hg5.up s6
        have hK6 := hK5.up s6
        have hC6 := hC5.up s6
        have hT6 : Tabs (TL_ T) (upd G6 b β3) := Tabs.bag hT5 hb5 s6 hb6.nb
        walk_at "ss"
        refine k_lam hT6 fun H1 eN T1 => ?_
        obtain ⟨G7, nb7, e7, rfl⟩ := split_ext hb6.nb hb6.nt eN
        obtain ⟨Gm, hb7, hGm⟩ := hb6.ext2 e7 nb7
        have hg7 := hg6.keep (ext_keep e7)
        have hK7 := hK6.ext e7
        have hC7 := hC6.ext e7
        have hD7 := hD6.ext e7
        refine ask_any (bad := edgesBad o g) (good := fun G x => edgesBad o g = none ∧ ∃ (bs : List Int) (p : Int), o = some (bs.map V.int) ∧ g = .int p ∧ (Plan.days bs p).Ok ∧ RestAt T (fun a => a = B ∨ v = .ref a) G x (.days bs p)) hb7 (fun G G' x e ⟨h0, bs, p, h1, h2, h3, h4⟩ => ⟨h0, bs, p, h1, h2, h3, h4.up e⟩) ?_ ?_ ?_
        · intro e hbad G8 β8 f t s8 hb8 hf ht
          obtain ⟨f2, rfl, hf2⟩ : ∃ f2, dv = .ref f2 ∧ G7 f2 = some (.lst e.row) := by
            rcases hD7 with ⟨h, _⟩ | ⟨e2, f2, h1, h2, h3⟩
            · rw [hbad] at h; cases h
            · rw [hbad] at h1
              cases h1
              exact ⟨f2, h2, h3⟩
          refine k_gTup (SqT.of (up_get hb8.nb ht)) rfl ?_
          have sU := up_same (β := β8) hb8.nb
          have hg8 := (hg7.up s8).up sU
          have hC8 := (hC7.up s8).up sU
          have hf8 := sU _ _ hf
          have hf28 := sU _ _ (s8 _ _ hf2)
          walk_at "ss"
          refine ⟨rfl, ?_⟩
          refine ⟨_, rfl, ?_⟩
          refine k_n (fun z => by cases z) (fun _ => ?_)
          walk_at "ss"
          refine ⟨rfl, ?_⟩
          refine ⟨_, rfl, ?_⟩
          refine k_dt rfl ?_
          walk_at "ss"
          refine ⟨_, _, rfl, eqd_row (e := e) hf8 hf28 (row_eqd fun u hu => ?_), fun H9 s9 => ?_⟩
          · rcases edgesBad_val hbad hu with rfl | ⟨i, rfl⟩
            · exact hg8.eqd
            · exact Eqd.sc (.int _) 2
          · have fin : ∀ H', Same (upd G8 b β8) H' → Q (.bl true) H' := fun H' s => by
              obtain ⟨G', nb', s', rfl⟩ := split_up hb8.nb s
              exact k l G' β8 (hb8.up s' nb').re (Tabs.bag T1 hb7 (s8.trans s') nb') (hK7.up (s8.trans s')) hne (by omega)
            have hC9 := hC8.up s9
            refine ⟨_, rfl, ?_⟩
            refine k_t ?_
            walk_at "ss"
            refine ⟨rfl, ?_⟩
            refine ⟨_, rfl, ?_⟩
            rcases hC9 with ⟨rfl, rfl, _⟩ | ⟨L, C, xs, rfl, rfl, rfl, q4, q5, q6, q7, q8, q9⟩
            · refine k_dt rfl ?_
              walk_at "ss"
              exact fin _ s9
            · refine k_df (fun z => by cases z) ?_
              walk_at "ss"
              refine k_listLT q4 ?_
              intro q nq
              generalize eD : upd H9 q _ = HA
              have sA := upd_sm eD nq
              have hq := upd_at eD
              clear eD
              walk_at "ss"
              refine ⟨_, _, rfl, eqd_list (d := 2) hq (sA _ _ q5) (by omega) (fun y hy => (((q9 y hy).up sA).eqd).succ), fun HB sB => fin _ ((s9.trans sA).trans sB)⟩
        · rintro x G8 β8 t s8 hb8 ⟨hnone, bs, p, rfl, rfl, hok, hx⟩ ht
          obtain rfl : dv = .non := by
            rcases hD7 with ⟨_, h⟩ | ⟨e2, f2, h1, _⟩
            · exact h
            · rw [hnone] at h1; cases h1
          have hC8 := hC7.up s8
          have hK8 := hK7.up s8
          have hT8 : Tabs (TL_ T) (upd G8 b β8) := Tabs.bag T1 hb7 s8 hb8.nb
          obtain ⟨L, C, xs, e1, rfl, rfl, q4, q5, q6, q7, q8, q9⟩ : ∃ L C xs, some (bs.map V.int) = some xs ∧ v = V.ref L ∧ cv = V.ref C ∧ SqAt G8 L xs ∧ G8 C = some (.lst xs) ∧ C ≠ L ∧ L ≠ B ∧ xs.length ≤ 20 ∧ ∀ x ∈ xs, Gd NoF G8 1 x := by
            rcases hC8 with ⟨h, _⟩ | h
            · cases h
            · exact h
          cases e1
          refine k_gTup (SqT.of (up_get hb8.nb ht)) rfl ?_
          walk_at "ss"
          refine ⟨rfl, ?_⟩
          refine ⟨_, rfl, ?_⟩
          refine k_n (fun _ => ?_) (fun z => (z rfl).elim)
          walk_at "ss"
          refine ⟨rfl, ?_⟩
          refine ⟨_, rfl, ?_⟩
          refine k_n (fun _ => ?_) (fun z => (z rfl).elim)
          obtain ⟨dx, l2, hw, hl2, hF2⟩ := hx.daysO
          have hwu := up_get (β := β8) hb8.nb hw
          walk_at "ss"
          refine k_isiO (ty_own T.ty_Days hwu) T.kt_Days_Days ?_
          walk_at "ss"
          refine k_isiO (ty_own T.ty_Days hwu) T.kt_Days_Rest ?_
          walk_at "ss"
          have eG8 : ExtN G G8 := ext_trans (ext_trans (same_ext ((s04.trans s5).trans s6)) e7) (same_ext s8)
          have nLG : G L = none := hL0 L rfl (by intro z; cases z)
          have hlen : bs.length ≤ 20 := by simpa using q8
          refine k_meet (fun σ H' => ∃ (G' : Hp), σ = [some (.ref b), some (.ref B), some (.ref C), some .non, some (.ref x), some .non, none, some (.ref L), some (.int p)] ∧ H' = upd G' b β8 ∧ Bag K Gm G' b β8 ∧ Tabs (TL_ T) (upd G' b β8) ∧ KeptAt T G' B l ∧ RestAt T (OnlyL B) G' x (.days bs p) ∧ G' C = some (.lst (bs.map V.int))) ?_ ?_
          · rcases q4 with hL | hL
            · have hLu := up_get (β := β8) hb8.nb hL
              have nLb : L ≠ b := ne_of_none hL hb8.nb
              walk_at "ss"
              refine k_bm ?_
              walk_at "ss"
              refine ⟨.inl ⟨rfl, _, SqL.of hLu⟩, ?_⟩
              walk_at "ss"
              refine k_app hLu (by omega) ?_
              rw [upd_swap nLb]
              have hT9 := Tabs.put (ys := bs.map V.int ++ [.int 999]) hT8 hLu
              rw [upd_swap nLb] at hT9
              refine ⟨_, rfl, rfl, hb8.put (hGm L nLG) nLb, hT9, hK.off eG8 nLG hL, ?_, (upd_ne q6).trans q5⟩
              refine (hx.keep (fun a hF C dx fs z => ?_) (fun a o hF ho _ => (upd_ne (fun z => hF (.inr (by rw [z])))).trans ho)).weak fun a hF => .inl hF
              rcases hF with rfl | hF
              · rw [hK8.at_] at z; cases z
              · cases hF
                rw [hL] at z
                cases z
            · have hLu := up_get (β := β8) hb8.nb hL
              walk_at "ss"
              exact ⟨G8, rfl, rfl, hb8, hT8, hK8, hx.weak fun a hF => .inl hF, q5⟩
          · rintro σ H' ⟨G9, rfl, rfl, hb9, hT9, hK9, hx9, hC9⟩
            obtain ⟨dx9, l9, hw9, hl9, _⟩ := hx9.daysO
            have sU := up_same (β := β8) hb9.nb
            walk_at "ss"
            refine k_fldAt (sU _ _ hw9) T.cl_Days T.no_Days_every (i := 4) (by decide +kernel) rfl ?_
            walk_at "ss"
            refine k_bord (hx9.up sU) (fun Q q => by walk_at "ss"; exact q) ?_
            intro l1 nt_l1
            rw [upd_swap (up_none nt_l1).2]
            generalize eG_l1 : upd _ l1 _ = GA
            obtain ⟨nbA, sA, hl1, nt_l1, nG_l1⟩ := new_facts hb9.nb nt_l1 eG_l1
            clear eG_l1
            walk_at "ss"
            intro q1 nt_q1
            rw [upd_swap (up_none nt_q1).2]
            generalize eG_q1 : upd _ q1 _ = GB
            obtain ⟨nbB, sB, hq1, nt_q1, nG_q1⟩ := new_facts nbA nt_q1 eG_q1
            clear eG_q1
            walk_at "ss"
            intro q2 nt_q2
            rw [upd_swap (up_none nt_q2).2]
            generalize eG_q2 : upd _ q2 _ = GC
            obtain ⟨nbC, sC, hq2, nt_q2, nG_q2⟩ := new_facts nbB nt_q2 eG_q2
            clear eG_q2
            have hbC := hb9.up ((sA.trans sB).trans sC) nbC
            have sUC := up_same (β := β8) nbC
            walk_at "ss"
            refine ⟨_, _, rfl, .inr (.inr ⟨q1, q2, _, _, rfl, rfl, .inl ⟨sUC _ _ (sC _ _ hq1), sUC _ _ hq2⟩, rfl, by simp, fun i u v hu hv => ?_⟩), fun HD sD => ?_⟩
            · match i, hu, hv with
              | 0, hu, hv =>
                cases hu
                cases hv
                exact Eqd.sc (.int _) 2
              | 1, hu, hv =>
                cases hu
                cases hv
                exact ints_eqd (sUC _ _ ((sB.trans sC) _ _ hl1)) (sUC _ _ (((sA.trans sB).trans sC) _ _ hC9)) (by omega) 1
              | i + 2, hu, hv => cases hu
            · obtain ⟨GD, nbD, sCD, rfl⟩ := split_up hbC.nb sD
              have s9D := ((sA.trans sB).trans sC).trans sCD
              walk_at "ss"
              refine k_bord ((hx9.up s9D).up (up_same nbD)) (fun Q q => by walk_at "ss"; exact q) ?_
              intro l3 nt_l3
              rw [upd_swap (up_none nt_l3).2]
              generalize eG_l3 : upd _ l3 _ = GE
              obtain ⟨nbE, sE, hl3, nt_l3, nG_l3⟩ := new_facts nbD nt_l3 eG_l3
              clear eG_l3
              walk_at "ss"
              refine k_bm ?_
              walk_at "ss"
              refine ⟨.inl ⟨rfl, _, SqL.of (up_get nbE hl3)⟩, ?_⟩
              walk_at "ss"
              refine k_app (up_get nbE hl3) (by rw [List.length_map]; omega) ?_
              rw [upd_swap nt_l3]
              generalize eG : upd GE l3 _ = GF
              have sDF : Same GD GF := by rw [← eG]; exact same_put sE nG_l3
              have nbF : GF b = none := by rw [← eG, upd_ne (Ne.symm nt_l3)]; exact nbE
              clear eG
              have s9F := s9D.trans sDF
              have hbF := hb9.up s9F nbF
              have hKF := hK9.up s9F
              have hxF := hx9.up s9F
              have hCF := s9F _ _ hC9
              walk_at "ss"
              refine k_bm ?_
              walk_at "ss"
              refine ⟨.inl ⟨rfl, _, SqL.of (up_get nbF hKF.at_)⟩, ?_⟩
              walk_at "ss"
              refine k_tupleL (SqL.of (up_get nbF hCF)) ?_
              intro te nt_te
              rw [upd_swap (up_none nt_te).2]
              generalize eG_te : upd _ te _ = GG
              obtain ⟨nbG, sG, hte, nt_te, nG_te⟩ := new_facts nbF nt_te eG_te
              clear eG_te
              walk_at "ss"
              intro pa nt_pa
              rw [upd_swap (up_none nt_pa).2]
              generalize eG_pa : upd _ pa _ = GH
              obtain ⟨nbH, sH, hpa, nt_pa, nG_pa⟩ := new_facts nbG nt_pa eG_pa
              clear eG_pa
              walk_at "ss"
              intro pt nt_pt
              rw [upd_swap (up_none nt_pt).2]
              generalize eG_pt : upd _ pt _ = GI
              obtain ⟨nbI, sI, hpt, nt_pt, nG_pt⟩ := new_facts nbH nt_pt eG_pt
              clear eG_pt
              have sFI := (sG.trans sH).trans sI
              have hKI := hKF.up sFI
              walk_at "ss"
              refine k_app (up_get nbI hKI.at_) (by rw [List.length_map]; omega) ?_
              have nBb : B ≠ b := ne_of_none hKI.at_ nbI
              rw [upd_swap nBb]
              have hxI := hxF.up sFI
              have hKJ := hKI.push hpt (.days (sI _ _ hpa) ((sH.trans sI) _ _ hte)) hxI hok
              have hxJ := rest_put (o := .lst (rfK l ++ [.ref pt])) hKI.at_ hxI
              have hTI : Tabs (TL_ T) (upd GI b β8) := Tabs.bag hT9 hb9 (s9F.trans sFI) nbI
              have hTJ := Tabs.put (ys := rfK l ++ [.ref pt]) hTI (up_get nbI hKI.at_)
              rw [upd_swap nBb] at hTJ
              have hbJ : Bag K (upd GI B (.lst (rfK l ++ [.ref pt]))) (upd GI B (.lst (rfK l ++ [.ref pt]))) b β8 := Bag.bump (hbF.up sFI nbI).re hKI.at_ hne nBb
              have hCI := sFI _ _ hCF
              have hCJ : (upd GI B (.lst (rfK l ++ [.ref pt]))) C = some (.lst (bs.map V.int)) := (upd_ne (fun z => by
                have hB8 := hK8.at_
                rw [← z, q5] at hB8
                cases l with
                | nil => exact hne rfl
                | cons y r => cases bs <;> cases hB8)).trans hCI
              generalize eG : upd GI B _ = GJ
              rw [eG] at hKJ hxJ hTJ hbJ hCJ
              clear eG
              walk_at "ss"
              refine k_bord (hxJ.up (up_same hbJ.nb)) (fun Q q => by walk_at "ss"; exact q) ?_
              intro l5 nt_l5
              rw [upd_swap (up_none nt_l5).2]
              generalize eG_l5 : upd _ l5 _ = GK
              obtain ⟨nbK, sK, hl5, nt_l5, nG_l5⟩ := new_facts hbJ.nb nt_l5 eG_l5
              clear eG_l5
              have sUK := up_same (β := β8) nbK
              walk_at "ss"
              refine ⟨_, _, rfl, ints_eqd (sUK _ _ hl5) (sUK _ _ (sK _ _ hCJ)) (by omega) 2, fun HL sL => ?_⟩
              obtain ⟨GL, nbL, sKL, rfl⟩ := split_up nbK sL
              have sJL := sK.trans sKL
              exact k _ GL β8 (hbJ.up sJL nbL).re (Tabs.bag hTJ hbJ sJL nbL) (hKJ.up sJL) (by simp) (by simp)
        · intro E2 Q2 G8 s8 hb8 hE hQ
          have hC8 := hC7.up s8
          have hK8 := hK7.up s8
          have hg8 := hg7.up s8
          walk_at "ss"
          refine k_draw hb8 (by decide) (by decide) fun wy β9 _ _ hb9 => ?_
          have fin : ∀ x dx, upd G8 b β9 x = none → upd G8 b β9 dx = none → dx ≠ x → spDaysInit T [.ref x, v, g] (upd (upd (upd G8 b β9) dx (.own x)) x (.ins T.C_Days dx [])) (fun u H3 => u = .non ∧ Q2 (.ref x) H3) E2 := fun x dx nx ndx ne => by
            have sM := same_made (C := T.C_Days) (fs := []) nx ndx ne
            have sU := (up_same (β := β9) hb9.nb).trans sM
            have hCM := hC8.up sU
            refine ⟨fun a => a = B ∨ v = .ref a, x, dx, v, g, fun y hy => ?_, rfl, upd_same, ?_, (hg8.up sU).gv, fun hno => ?_, fun l9 xs9 el hl9 => ?_⟩
            · rcases hy with rfl | hy
              · rw [sU _ _ hK8.at_]; intro z; cases z
              · exact hCM.there y hy
            · have q := hCM.seqOr
              cases q with
              | seq h l g => exact SqAt.gv h
              | oth g n => exact g
            · refine (hE _ ?_ G8 β9 s8 hb9).up sM
              rcases hCM with ⟨rfl, _⟩ | ⟨L, C, xs, rfl, rfl, q3, q4, _⟩
              · rfl
              · exact (hno _ _ rfl q4).elim
            · have ho : o = some xs9 ∧ xs9.length ≤ 20 ∧ ∀ y ∈ xs9, Gd NoF (upd (upd (upd G8 b β9) dx (.own x)) x (.ins T.C_Days dx [])) 1 y := by
                rcases hCM with ⟨_, _, q⟩ | ⟨L, C, xs, rfl, rfl, q3, q4, q5, q6, q7, q8, q9⟩
                · have q := q.seqOr
                  cases q with
                  | oth g n => exact (n _ _ el hl9).elim
                · cases el
                  have := SqAt.inj q4 hl9
                  subst this
                  exact ⟨rfl, q8, q9⟩
              obtain ⟨rfl, l20, g9⟩ := ho
              refine ⟨by omega, fun y hy => (g9 y hy).gv, fun e he => (hE e he G8 β9 s8 hb9).up sM, fun hn bs p ex eg hok H' sb hr => ⟨rfl, ?_⟩⟩
              obtain ⟨GA, rfl, sA, hbA, hrA⟩ := made_rest hb9 nx ndx ne sb hr
              exact hQ x GA β9 (s8.trans sA) hbA ⟨hn, bs, p, by rw [ex], eg, hok, hrA⟩
          walk_at "ss"
          refine k_d (fun _ => ?_) (fun _ => ?_)
          · refine k_make ?_
            walk_at "ss"
            exact fin
          · refine k_makeKS ?_
            walk_at "ss"
            exact fin
end

section
variable {w : World} {K : PySem.W.Frag} {mg : Str → Option Value} {base : Heap}
/-! ### rests of two -/
def spPair (T : Tx K mg) : Sp := fun vs H Q E => ∃ (F : Addr → Prop) (G0 G : Hp) (b : Addr) (β : HO) (o : Op) (x y : V) (px py : Option Plan), vs = [.ref b, .str (opS o), x, y] ∧ H = upd G b β ∧ Bag K G0 G b β ∧ ArgAt T F G x px ∧ ArgAt T F G y py ∧
  (∀ e, pairBad x px y py = some e → ∀ β', Bag K G0 G b β' → Goes T (upd G b β') E e) ∧
  (pairBad x px y py = none → ∀ p q, px = some p → py = some q → (Plan.op o p q).Ok → ∀ (r : Addr) (G' : Hp) (β' : HO), Same G G' → Bag K G0 G' b β' → RestAt T F G' r (.op o p q) → Q (.ref r) (upd G' b β'))
theorem ok_pair (T : Tx K mg) : FnOk P w K mg base (L2.CX P w) 6 T.a_pair T.fd_pair P_pair (spPair T) := by
  refine T.F_pair.okX sc_pair (fun vs H Q E h => ?_) (fun cdv A outer s H vs Q E hr h => ?_)
  · obtain ⟨F, G0, G, b, β, o, x, y, px, py, rfl, _⟩ := h
    rfl
  · obtain ⟨F, G0, G, b, β, o, x, y, px, py, rfl, rfl, hb, hx, hy, kb, k⟩ := h
    have nd := sc_pair.nd
    refine ⟨_, (pss_cons (ks_setL (i := 4) nd l_pair_law_way (pe_call (ok_draw T) (hr.mono (by first | decide | omega)) g_pair_law_draw T.m_draw T.k_draw T.b_draw .nil pass0 (pa_cons (kv (i := 0) v_pair_law_bag_here) (pa_cons pe_int pa_nil))))
      (pss_cons (ps_if (pt_cmpR op_eq (kv (i := 1) v_pair_law_pick) pe_str (nomark _)) (pss_one (ps_ret (pe_ifExp (pt_cmpR op_eq (kv (i := 4) v_pair_law_way) pe_int (nomark _)) (pe_make T.mk_Later (ok_Later_init T) (hr.mono (by first | decide | omega)) g_pair_Later T.m_Later T.b_Later_init .nil (passes_call (takes_of rfl rfl rfl rfl) (fun _ _ _ _ h => h)) (pa_cons (kv (i := 2) v_pair_law_a) (pa_cons (kv (i := 3) v_pair_law_b) pa_nil))) (pe_makeKS (E := fun _ => E) T.mk_Later (ok_Later_init T) (hr.mono (by first | decide | omega)) g_pair_Later T.m_Later T.kb_Later_init_second_first (fun σ pins H s e s' I h => passes_call (takes_of rfl rfl rfl rfl) (fun _ _ _ _ h => h) pins σ H s e s' I h) (pk_cons (kv (i := 3) v_pair_law_b) (pk_cons (kv (i := 2) v_pair_law_a) pk_nil)))))) pss_nil)
      (pss_cons (ps_if (pt_cmpR op_eq (kv (i := 1) v_pair_law_pick) pe_str (nomark _)) (pss_one (ps_ret (pe_ifExp (pt_cmpR op_eq (kv (i := 4) v_pair_law_way) pe_int (nomark _)) (pe_make T.mk_Sooner (ok_Sooner_init T) (hr.mono (by first | decide | omega)) g_pair_Sooner T.m_Sooner T.b_Sooner_init .nil (passes_call (takes_of rfl rfl rfl rfl) (fun _ _ _ _ h => h)) (pa_cons (kv (i := 2) v_pair_law_a) (pa_cons (kv (i := 3) v_pair_law_b) pa_nil))) (pe_makeKS (E := fun _ => E) T.mk_Sooner (ok_Sooner_init T) (hr.mono (by first | decide | omega)) g_pair_Sooner T.m_Sooner T.kb_Sooner_init_second_first (fun σ pins H s e s' I h => passes_call (takes_of rfl rfl rfl rfl) (fun _ _ _ _ h => h) pins σ H s e s' I h) (pk_cons (kv (i := 3) v_pair_law_b) (pk_cons (kv (i := 2) v_pair_law_a) pk_nil)))))) pss_nil)
      (pss_one (ps_ret (pe_ifExp (pt_cmpR op_eq (kv (i := 4) v_pair_law_way) pe_int (nomark _)) (pe_make T.mk_Next (ok_Next_init T) (hr.mono (by first | decide | omega)) g_pair_Next T.m_Next T.b_Next_init .nil (passes_call (takes_of rfl rfl rfl rfl) (fun _ _ _ _ h => h)) (pa_cons (kv (i := 2) v_pair_law_a) (pa_cons (kv (i := 3) v_pair_law_b) pa_nil))) (pe_makeKS (E := fun _ => E) T.mk_Next (ok_Next_init T) (hr.mono (by first | decide | omega)) g_pair_Next T.m_Next T.kb_Next_init_second_first (fun σ pins H s e s' I h => passes_call (takes_of rfl rfl rfl rfl) (fun _ _ _ _ h => h) pins σ H s e s' I h) (pk_cons (kv (i := 3) v_pair_law_b) (pk_cons (kv (i := 2) v_pair_law_a) pk_nil))))))))), ?_⟩
    walk_at "ss"
    refine k_draw hb (by decide) (by decide) fun wy β5 _ _ hb5 => ?_
    have fin : ∀ r dx, upd G b β5 r = none → upd G b β5 dx = none → dx ≠ r → spOpInit T o [.ref r, x, y] (upd (upd (upd G b β5) dx (.own r)) r (.ins (cOp T o) dx [])) (fun u H3 => u = .non ∧ Q (.ref r) H3) E := fun r dx nx ndx ne => by
      have sM := same_made (C := cOp T o) (fs := []) nx ndx ne
      have sU := (up_same (β := β5) hb5.nb).trans sM
      refine ⟨F, r, dx, x, y, px, py, rfl, upd_same, hx.up sU, hy.up sU, fun e he => (kb e he β5 hb5).up sM, fun hn p q ep eq hok H' sb hr => ⟨rfl, ?_⟩⟩
      obtain ⟨G5, rfl, s5, hb6, hr5⟩ := made_rest hb5 nx ndx ne sb hr
      exact k hn p q ep eq hok r G5 β5 s5 hb6 hr5
    cases o with
    | later =>
      walk_at "ss"
      refine k_eqT ?_
      walk_at "ss"
      refine k_d (fun _ => ?_) (fun _ => ?_)
      · refine k_make ?_
        walk_at "ss"
        exact fin
      · refine k_makeKS ?_
        walk_at "ss"
        exact fin
    | sooner =>
      walk_at "ss"
      refine k_eqF (by decide +kernel) ?_
      walk_at "ss"
      refine k_eqT ?_
      walk_at "ss"
      refine k_d (fun _ => ?_) (fun _ => ?_)
      · refine k_make ?_
        walk_at "ss"
        exact fin
      · refine k_makeKS ?_
        walk_at "ss"
        exact fin
    | next =>
      walk_at "ss"
      refine k_eqF (by decide +kernel) ?_
      walk_at "ss"
      refine k_eqF (by decide +kernel) ?_
      walk_at "ss"
      refine k_d (fun _ => ?_) (fun _ => ?_)
      · refine k_make ?_
        walk_at "ss"
        exact fin
      · refine k_makeKS ?_
        walk_at "ss"
        exact fin
theorem Plan.Ok.forms6 {p : Plan} (h : p.Ok) : p.forms ≤ 6 := by
  cases p with
  | win => exact (by decide : 1 ≤ 6)
  | days => exact (by decide : 1 ≤ 6)
  | op o a b => exact h.2.2.1
inductive PrAt (T : Tx K mg) (F : Addr → Prop) (H : Hp) : Addr → V → Option Plan → V → Prop where
  | rest {t a r : Addr} {p : Plan} (h : H t = some (.tup [.ref a, .ref r])) (hp : PlanAt H a p) (hr : RestAt T F H r p) (ok : p.Ok) : PrAt T F H t (.ref r) (some p) (.ref a)
  | dat {t : Addr} {v : V} (h : H t = some (.tup [.non, v])) (g : Gd NoF H 2 v) : PrAt T F H t v none .non
def spPairDue (T : Tx K mg) : Sp := fun vs H Q _ => ∃ (F : Addr → Prop) (t1 t2 : Addr) (x y l1 l2 : V) (px py : Option Plan), vs = [.ref t1, .ref t2] ∧ PrAt T F H t1 x px l1 ∧ PrAt T F H t2 y py l2 ∧
  (pairBad x px y py = none → ∀ H', Same H H' → Q .non H') ∧ (∀ e, pairBad x px y py = some e → ∀ (f : Addr) (H' : Hp), Same H H' → H' f = some (.lst e.row) → Q (.ref f) H')
theorem ok_pair_due (T : Tx K mg) : FnOk P w K mg base CX0 9 T.a_pair_due T.fd_pair_due P_pair_due (spPairDue T) := by
  refine T.F_pair_due.ok sc_pair_due (fun vs H Q E h => ?_) (fun cdv A outer s H vs Q E hr h => ?_)
  · obtain ⟨F, t1, t2, x, y, l1, l2, px, py, rfl, _⟩ := h
    rfl
  · obtain ⟨F, t1, t2, x, y, l1, l2, px, py, rfl, h1, h2, kn, kb⟩ := h
    have nd := sc_pair_due.nd
    refine ⟨_, (pss_cons (ps_if (pt_cmpR op_isN (pe_ix (kix K) (kv (i := 0) v_pair_due_law_one) pe_int (fun _ _ => rfl)) pe_non (nomark _)) (pss_one (ps_ret (pe_lst (pa_cons pe_str (pa_cons (pe_ix (kix K) (kv (i := 0) v_pair_due_law_one) pe_int (fun _ _ => rfl)) pa_nil))))) pss_nil)
      (pss_cons (ps_if (pt_cmpR op_isN (pe_ix (kix K) (kv (i := 1) v_pair_due_law_two) pe_int (fun _ _ => rfl)) pe_non (nomark _)) (pss_one (ps_ret (pe_lst (pa_cons pe_str (pa_cons (pe_ix (kix K) (kv (i := 1) v_pair_due_law_two) pe_int (fun _ _ => rfl)) pa_nil))))) pss_nil)
      (pss_cons (ps_par (i := 2) (j := 3) rfl nd rfl rfl (by decide) (locB_ok l_pair_due_law_a) (locB_ok l_pair_due_law_b) (pa_cons (pe_call (ok_facts T) (hr.mono (by first | decide | omega)) g_pair_due_law_facts T.m_facts T.k_facts T.b_facts .nil pass0 (pa_cons (pe_ix (kix K) (kv (i := 0) v_pair_due_law_one) pe_int (fun _ _ => rfl)) pa_nil)) (pa_cons (pe_call (ok_facts T) (hr.mono (by first | decide | omega)) g_pair_due_law_facts T.m_facts T.k_facts T.b_facts .nil pass0 (pa_cons (pe_ix (kix K) (kv (i := 1) v_pair_due_law_two) pe_int (fun _ _ => rfl)) pa_nil)) pa_nil)) (by rfl))
      (pss_cons (ps_if (pt_cmpR op_gt (pe_op kop_add (pe_op kop_add (pe_ix (kix K) (kv (i := 2) v_pair_due_law_a) pe_int (fun _ _ => rfl)) (pe_ix (kix K) (kv (i := 3) v_pair_due_law_b) pe_int (fun _ _ => rfl))) pe_int) pe_int (nomark _)) (pss_one (ps_ret (pe_lst (pa_cons pe_str (pa_cons pe_str (pa_cons (pe_op kop_add (pe_op kop_add (pe_ix (kix K) (kv (i := 2) v_pair_due_law_a) pe_int (fun _ _ => rfl)) (pe_ix (kix K) (kv (i := 3) v_pair_due_law_b) pe_int (fun _ _ => rfl))) pe_int) pa_nil)))))) pss_nil)
      (pss_cons (ks_setL (i := 4) nd l_pair_due_law_both (pe_call (ok_llcm T) (hr.mono (by first | decide | omega)) g_pair_due_law_lcm T.m_llcm T.k_llcm T.b_llcm .nil pass0 (pa_cons (pe_ix (kix K) (kv (i := 2) v_pair_due_law_a) pe_int (fun _ _ => rfl)) (pa_cons (pe_ix (kix K) (kv (i := 3) v_pair_due_law_b) pe_int (fun _ _ => rfl)) pa_nil))))
      (pss_one (ps_ret (pe_ifExp (pt_cmpR op_gt (kv (i := 4) v_pair_due_law_both) pe_int (nomark _)) (pe_lst (pa_cons pe_str (pa_cons pe_str (pa_cons (kv (i := 4) v_pair_due_law_both) pa_nil)))) pe_non)))))))), ?_⟩
    cases h1 with
    | dat h g =>
      walk_at "ss"
      refine ⟨rfl, ?_⟩
      refine ⟨_, rfl, ?_⟩
      refine k_dt rfl ?_
      walk_at "ss"
      intro f nf
      exact kb (.rest _) rfl f _ (same_new nf) upd_same
    | @rest a1 r1 p h hp hr1 op =>
      walk_at "ss"
      refine ⟨rfl, ?_⟩
      refine ⟨_, rfl, ?_⟩
      refine k_df (fun z => by cases z) ?_
      cases h2 with
      | dat h2 g =>
        walk_at "ss"
        refine ⟨rfl, ?_⟩
        refine ⟨_, rfl, ?_⟩
        refine k_dt rfl ?_
        walk_at "ss"
        intro f nf
        exact kb (.rest _) rfl f _ (same_new nf) upd_same
      | @rest a2 r2 q h2 hq hr2 oq =>
        have hbd : pairBad (.ref r1) (some p) (.ref r2) (some q) = if 6 < 1 + p.forms + q.forms then some (.many "forms" ((1 + p.forms + q.forms : Nat) : Int)) else if 2000 < lcmI p.period q.period then some (.many "period" (lcmI p.period q.period)) else none := rfl
        have f1 := op.forms6
        have f2 := oq.forms6
        walk_at "ss"
        refine ⟨rfl, ?_⟩
        refine ⟨_, rfl, ?_⟩
        refine k_df (fun z => by cases z) ?_
        walk_at "ss"
        refine ⟨a1, p, rfl, hp, op, f1, f1, fun u1 H1 s1 hu1 => ?_⟩
        have h2a := s1 _ _ h2
        walk_at "ss"
        refine ⟨a2, q, rfl, hq.up s1, oq, f2, f2, fun u2 H2 s2 hu2 => ?_⟩
        have hu1b := s2 _ _ hu1
        have s12 := s1.trans s2
        have pp := period_pos op
        have pq := period_pos oq
        walk_at "ss"
        refine k_d (fun hf => ?_) (fun hf => ?_)
        · walk_at "ss"
          intro f nf
          refine kb (.many "forms" ((1 + p.forms + q.forms : Nat) : Int)) (by rw [hbd, if_pos (by omega)]) f _ (s12.trans (same_new nf)) ?_
          rw [upd_same]
          have e : ((p.forms : Nat) : Int) + (q.forms : Nat) + 1 = ((1 + p.forms + q.forms : Nat) : Int) := by omega
          rw [e]
          rfl
        · walk_at "ss"
          refine ⟨p.period, q.period, rfl, pp.1, pq.1, by omega, by omega, .inl (by omega), ?_⟩
          walk_at "ss"
          show if decide (2000 < lcmI p.period q.period) = true then _ else _
          refine k_d (fun hp => ?_) (fun hp => ?_)
          · walk_at "ss"
            intro f nf
            exact kb (.many "period" (lcmI p.period q.period)) (by rw [hbd, if_neg (by omega), if_pos hp]) f _ (s12.trans (same_new nf)) upd_same
          · walk_at "ss"
            exact kn (by rw [hbd, if_neg (by omega), if_neg hp]) _ s12
def spClass (T : Tx K mg) : Sp := fun vs H Q _ => ∃ (F : Addr → Prop) (o : Op) (r : Addr) (p q : Plan), vs = [.str (opS o), .ref r] ∧ RestAt T F H r (.op o p q) ∧ Q (.bl true) H
theorem ok_class_so (T : Tx K mg) : FnOk P w K mg base CX0 1 T.a_class_so T.fd_class_so P_class_so (spClass T) := by
  refine T.F_class_so.ok sc_class_so (fun vs H Q E h => ?_) (fun cdv A outer s H vs Q E hr h => ?_)
  · obtain ⟨F, o, r, p, q, rfl, _⟩ := h
    rfl
  · obtain ⟨F, o, r, p, q, rfl, hr1, k⟩ := h
    have nd := sc_class_so.nd
    refine ⟨_, (pss_cons (ps_if (pt_cmpR op_eq (kv (i := 0) v_class_so_law_pick) pe_str (nomark _)) (pss_one (ps_ret (kcB b_isinstance (by decide) (by decide) (kc_isi K) g_class_so_isinstance T.n_isinstance (pa_cons (kv (i := 1) v_class_so_law_told) (pa_cons (kcls g_class_so_Later T.m_Later) pa_nil))))) pss_nil)
      (pss_one (ps_ret (pe_ifExp (pt_cmpR op_eq (kv (i := 0) v_class_so_law_pick) pe_str (nomark _)) (kcB b_isinstance (by decide) (by decide) (kc_isi K) g_class_so_isinstance T.n_isinstance (pa_cons (kv (i := 1) v_class_so_law_told) (pa_cons (kcls g_class_so_Sooner T.m_Sooner) pa_nil))) (kcB b_isinstance (by decide) (by decide) (kc_isi K) g_class_so_isinstance T.n_isinstance (pa_cons (kv (i := 1) v_class_so_law_told) (pa_cons (kcls g_class_so_Next T.m_Next) pa_nil))))))), ?_⟩
    cases hr1 with
    | @op _ dx a1 a2 _ _ _ hw h1 h2 =>
    cases o with
    | later =>
      have hw : H r = some (.ins T.C_Later dx _) := hw
      walk_at "ss"
      refine k_eqT ?_
      walk_at "ss"
      refine k_isiO (ty_own T.ty_Later hw) T.kt_Later_Later ?_
      exact k
    | sooner =>
      have hw : H r = some (.ins T.C_Sooner dx _) := hw
      walk_at "ss"
      refine k_eqF (by decide +kernel) ?_
      walk_at "ss"
      refine k_eqT ?_
      walk_at "ss"
      refine k_isiO (ty_own T.ty_Sooner hw) T.kt_Sooner_Sooner ?_
      exact k
    | next =>
      have hw : H r = some (.ins T.C_Next dx _) := hw
      walk_at "ss"
      refine k_eqF (by decide +kernel) ?_
      walk_at "ss"
      refine k_eqF (by decide +kernel) ?_
      walk_at "ss"
      refine k_isiO (ty_own T.ty_Next hw) T.kt_Next_Next ?_
      exact k
end

section
open LamX
variable {w : World} {K : PySem.W.Frag} {mg : Str → Option Value} {base : Heap}
theorem PrAt.tup {T : Tx K mg} {F : Addr → Prop} {H : Hp} {t : Addr} {x pl : V} {px : Option Plan} (h : PrAt T F H t x px pl) : H t = some (.tup [pl, x]) := by
  cases h with
  | rest h hp hr ok => exact h
  | dat h g => exact h
theorem PrAt.arg {T : Tx K mg} {F : Addr → Prop} {H : Hp} {t : Addr} {x pl : V} {px : Option Plan} (h : PrAt T F H t x px pl) : ArgAt T F H x px := by
  cases h with
  | rest h hp hr ok => exact .rest hr ok
  | dat h g => exact .dat g.gv
theorem PrAt.ext {T : Tx K mg} {F : Addr → Prop} {H H' : Hp} {t : Addr} {x pl : V} {px : Option Plan} (h : PrAt T F H t x px pl) (e : ExtN H H') : PrAt T F H' t x px pl := by
  cases h with
  | rest h hp hr ok => exact .rest (e _ _ h (fun ps z => by cases z)) (hp.ext e) (hr.ext e) ok
  | dat h g => exact .dat (e _ _ h (fun ps z => by cases z)) (g.keep (ext_keep e))
theorem PrAt.up {T : Tx K mg} {F : Addr → Prop} {H H' : Hp} {t : Addr} {x pl : V} {px : Option Plan} (h : PrAt T F H t x px pl) (e : Same H H') : PrAt T F H' t x px pl := h.ext (same_ext e)
theorem PrAt.gd {T : Tx K mg} {F : Addr → Prop} {H : Hp} {t : Addr} {x pl : V} {px : Option Plan} (h : PrAt T F H t x px pl) (n : px = none) : Gd NoF H 2 x := by
  cases h with
  | rest h hp hr ok => cases n
  | dat h g => exact g
theorem PrAt.of {T : Tx K mg} {G : Hp} {B : Addr} {l : KL} (h : KeptAt T G B l) {z : Addr × Addr × Addr × Plan} (hz : z ∈ l) : PrAt T (OnlyL B) G z.1 (.ref z.2.2.1) (some z.2.2.2) (.ref z.2.1) := by
  obtain ⟨h1, h2, h3, h4⟩ := h.prs z hz
  exact .rest h1 h2 h3 h4
theorem pairBad_val {x y v : V} {px py : Option Plan} {e : Ev} (h : pairBad x px y py = some e) (k : e = .num v ∨ e = .rest v ∨ e = .bord v) : (px = none ∧ v = x) ∨ (py = none ∧ v = y) := by
  cases px with
  | none =>
    cases h
    rcases k with k | k | k <;> cases k
    exact .inl ⟨rfl, rfl⟩
  | some p =>
    cases py with
    | none =>
      cases h
      rcases k with k | k | k <;> cases k
      exact .inr ⟨rfl, rfl⟩
    | some q =>
      have h : (if 6 < 1 + p.forms + q.forms then some (Ev.many "forms" ((1 + p.forms + q.forms : Nat) : Int)) else if 2000 < lcmI p.period q.period then some (.many "period" (lcmI p.period q.period)) else none) = some e := h
      split at h
      · cases h
        rcases k with k | k | k <;> cases k
      · split at h
        · cases h
          rcases k with k | k | k <;> cases k
        · cases h
theorem cOp_first (T : Tx K mg) (o : Op) : NoAttr K (cOp T o) "first" ∧ NoAttr K (cOp T o) "second" := by
  cases o with
  | later => exact ⟨T.no_Later_first, T.no_Later_second⟩
  | sooner => exact ⟨T.no_Sooner_first, T.no_Sooner_second⟩
  | next => exact ⟨T.no_Next_first, T.no_Next_second⟩
theorem ok_under (T : Tx K mg) (TB_under : TabB base mg T.cda_under T.tb_under) : FnOk P w K mg base CX0 12 T.a_under T.fd_under P_under (spStep T) := by
  refine T.F_under.ok sc_under (fun vs H Q E h => ?_) (fun A outer s H vs Q E hr h => ?_)
  · obtain ⟨G, b, B, β, l, rfl, _⟩ := h
    rfl
  · obtain ⟨G, b, B, β, l, rfl, rfl, hb, hT, hK, hne, hl, k⟩ := h
    have nd := sc_under.nd
    obtain ⟨oc9, od9, kV9, doc9, pm9, an9, cdv9, ct9, osl9, efd9, lk_ask, hc_ask⟩ := T.F_ask.ex
    have hb_ask := T.b_ask
    rw [efd9] at lk_ask hb_ask
    refine ⟨_, (pss_cons (ks_setC (i := 7) nd c_under_law_pick (pe_call (ok_of T) (hr.mono (by first | decide | omega)) g_under_law_of T.m_of T.k_of T.b_of .nil pass0 (pa_cons (kv (i := 0) v_under_law_bag_here) (pa_cons (pe_lst (pa_cons pe_str (pa_cons pe_str (pa_cons pe_str pa_nil)))) pa_nil))))
      (pss_cons (ks_setC (i := 6) nd c_under_law_pair_here (pe_lc (own := [("_law_k", 8)]) rfl nd (pi_range1 g_under_range T.n_range (pa_cons pe_int pa_nil)) ok_cs_under_1 (fun _ _ _ _ _ => (kgL (i := 8) nd l_under_1_law_k)) (fun _ _ _ _ _ => pts_nil) (fun _ _ _ _ _ => (pe_call (ok_of T) (hr.mono (by first | decide | omega)) g_under_1_law_of T.m_of T.k_of T.b_of .nil pass0 (pa_cons (kv (i := 0) v_under_1_law_bag_here) (pa_cons (kv (i := 1) v_under_1_law_kept) pa_nil))))))
      (kss_meet (ps_if (pt_cmpR op_eq (pe_call (ok_draw T) (hr.mono (by first | decide | omega)) g_under_law_draw T.m_draw T.k_draw T.b_draw .nil pass0 (pa_cons (kv (i := 0) v_under_law_bag_here) (pa_cons pe_int pa_nil))) pe_int (nomark _)) (pss_one (ps_asg (pe_tup (pa_cons pe_non (pa_cons (pe_call (ok_odd T) (hr.mono (by first | decide | omega)) g_under_law_odd T.m_odd T.k_odd T.b_odd .nil pass0 (pa_cons (kv (i := 0) v_under_law_bag_here) pa_nil)) pa_nil))) (pg_sub (kv (i := 6) v_under_law_pair_here) (pe_call (ok_draw T) (hr.mono (by first | decide | omega)) g_under_law_draw T.m_draw T.k_draw T.b_draw .nil pass0 (pa_cons (kv (i := 0) v_under_law_bag_here) (pa_cons pe_int pa_nil))) set_list))) pss_nil)
      (kss_meet (ks_setL (i := 2) nd l_under_law_due (pe_call (ok_pair_due T) (hr.mono (by first | decide | omega)) g_under_law_pair_due T.m_pair_due T.k_pair_due T.b_pair_due .nil pass0 (pa_cons (pe_ix (kix K) (kv (i := 6) v_under_law_pair_here) pe_int (fun _ _ => rfl)) (pa_cons (pe_ix (kix K) (kv (i := 6) v_under_law_pair_here) pe_int (fun _ _ => rfl)) pa_nil))))
      (pss_cons (ps_asg (pe_lamA (k := 8) (T := TL_ T) (TT := TT_ask T) g_under_law_ask T.m_ask T.k_ask lk_ask hc_ask hb_ask sc_ask rfl vl_ask (gives_ask T) TB_under rfl (TM_under T) (TU_under T) (hr.mono (by first | decide | omega)) (LamX.lamS_by lam_under_ls_under_1) (fun A outer s H E lf lc hr => (pe_call (ok_pair T) (hr.mono (by first | decide | omega)) g_under_L1_law_pair T.m_pair T.k_pair T.b_pair .nil (passes_call (takes_of rfl rfl rfl rfl) (fun _ _ _ _ h => h)) (pa_cons (kv (i := 0) v_under_L1_law_bag_here) (pa_cons (kv (i := 7) v_under_L1_law_pick) (pa_cons (pe_ix (kix K) (pe_ix (kix K) (kv (i := 6) v_under_L1_law_pair_here) pe_int (fun _ _ => rfl)) pe_int (fun _ _ => rfl)) (pa_cons (pe_ix (kix K) (pe_ix (kix K) (kv (i := 6) v_under_L1_law_pair_here) pe_int (fun _ _ => rfl)) pe_int (fun _ _ => rfl)) pa_nil))))))) (kpg_tup K 2 rfl (pgs_cons (kgL (i := 3) nd l_under_law_told) (pgs_cons (kgL (i := 4) nd l_under_law_fault) pgs_nil))))
      (pss_cons (ps_if (pt_cmpR op_notN (kv (i := 2) v_under_law_due) pe_non (nomark _)) (pss_one (ps_ret (pe_and (pe_cmpR op_isN (kv (i := 3) v_under_law_told) pe_non (nomark _)) (pe_one (pe_call (ok_like T) (hr.mono (by first | decide | omega)) g_under_law_like T.m_like T.k_like T.b_like .nil pass0 (pa_cons (kv (i := 4) v_under_law_fault) (pa_cons (kv (i := 2) v_under_law_due) pa_nil))))))) pss_nil)
      (pss_cons (ps_if (PW.pt (pw_or (pt_cmpR op_notN (kv (i := 4) v_under_law_fault) pe_non (nomark _)) (pw_or (pt_not (pt_val (pe_call (ok_class_so T) (hr.mono (by first | decide | omega)) g_under_law_class_so T.m_class_so T.k_class_so T.b_class_so .nil pass0 (pa_cons (kv (i := 7) v_under_law_pick) (pa_cons (kv (i := 3) v_under_law_told) pa_nil))))) (pw_or1 (pt_not (pt_val (kcB b_isinstance (by decide) (by decide) (kc_isi K) g_under_isinstance T.n_isinstance (pa_cons (kv (i := 3) v_under_law_told) (pa_cons (kcls g_under_Rest T.m_Rest) pa_nil))))))))) (pss_one (ps_ret pe_bl)) pss_nil)
      (pss_cons (ks_setL (i := 5) nd l_under_law_plan (pe_tup (pa_cons (kv (i := 7) v_under_law_pick) (pa_cons (pe_ix (kix K) (pe_ix (kix K) (kv (i := 6) v_under_law_pair_here) pe_int (fun _ _ => rfl)) pe_int (fun _ _ => rfl)) (pa_cons (pe_ix (kix K) (pe_ix (kix K) (kv (i := 6) v_under_law_pair_here) pe_int (fun _ _ => rfl)) pe_int (fun _ _ => rfl)) pa_nil)))))
      (pss_cons (ps_expr (pe_bm PySem.F.plainAttrs_list PySem.F.slot_list_append PySem.F.type_list_append mt_append (kv (i := 1) v_under_law_kept) (pa_cons (pe_tup (pa_cons (kv (i := 5) v_under_law_plan) (pa_cons (kv (i := 3) v_under_law_told) pa_nil))) pa_nil)))
      (pss_one (ps_ret (pe_and (pe_cmpR (kop_eqR T (ok_Rest_eq T) (hr.mono (by first | decide | omega))) (kpe_fld K (kv (i := 3) v_under_law_told)) (pe_ix (kix K) (pe_ix (kix K) (kv (i := 6) v_under_law_pair_here) pe_int (fun _ _ => rfl)) pe_int (fun _ _ => rfl)) (nomark _)) (pe_and (pe_cmpR (kop_eqR T (ok_Rest_eq T) (hr.mono (by first | decide | omega))) (kpe_fld K (kv (i := 3) v_under_law_told)) (pe_ix (kix K) (pe_ix (kix K) (kv (i := 6) v_under_law_pair_here) pe_int (fun _ _ => rfl)) pe_int (fun _ _ => rfl)) (nomark _)) (pe_one (pe_call (ok_like T) (hr.mono (by first | decide | omega)) g_under_law_like T.m_like T.k_like T.b_like .nil pass0 (pa_cons (pe_lst (pa_cons (kpe_methP0 (disp_written T) (hr.mono (by first | decide | omega)) pass0 (kpe_fld K (kv (i := 3) v_under_law_told))) (pa_cons (kpe_methP0 (disp_written T) (hr.mono (by first | decide | omega)) pass0 (kpe_fld K (kv (i := 3) v_under_law_told))) pa_nil))) (pa_cons (pe_lst (pa_cons (pe_call (ok_text T) (hr.mono (by first | decide | omega)) g_under_law_text T.m_text T.k_text T.b_text .nil pass0 (pa_cons (pe_ix (kix K) (kv (i := 5) v_under_law_plan) pe_int (fun _ _ => rfl)) pa_nil)) (pa_cons (pe_call (ok_text T) (hr.mono (by first | decide | omega)) g_under_law_text T.m_text T.k_text T.b_text .nil pass0 (pa_cons (pe_ix (kix K) (kv (i := 5) v_under_law_plan) pe_int (fun _ _ => rfl)) pa_nil)) pa_nil))) pa_nil))))))))))))))))), ?_⟩
    have hlen : (rfK l).length = l.length := List.length_map _
    have hpos : 0 < l.length := List.length_pos_iff.mpr hne
    have pick : ∀ v ∈ rfK l, ∃ z ∈ l, v = V.ref z.1 := fun v hv => by
      obtain ⟨z, hz, rfl⟩ := List.mem_map.mp hv
      exact ⟨z, hz, rfl⟩
    walk_at "ss"
    intro t0 nt_t0
    rw [upd_swap (up_none nt_t0).2]
    generalize eG_t0 : upd _ t0 _ = G1
    obtain ⟨nb1, sm1, ht0, nt_t0, nG_t0⟩ := new_facts hb.nb nt_t0 eG_t0
    clear eG_t0
    have hb1 := hb.up sm1 nb1
    walk_at "ss"
    refine k_of hb1 (SqL.of ht0) (by simp) (by simp) fun vo β1 hvo hb1 => ?_
    obtain ⟨op, rfl⟩ : ∃ o : Op, vo = V.str (opS o) := by
      simp only [List.mem_cons, List.not_mem_nil, or_false] at hvo
      rcases hvo with rfl | rfl | rfl
      · exact ⟨.later, rfl⟩
      · exact ⟨.sooner, rfl⟩
      · exact ⟨.next, rfl⟩
    walk_at "ss"
    refine k_r1 ⟨by decide, by decide⟩ ?_
    intro D nD
    obtain ⟨nD1, nDb⟩ := up_none nD
    have nDG : G D = none := g_none sm1 nD1
    refine k_lcRange (n := 2) (fun i H' => ∃ (xs : List V) (G' : Hp) (β' : HO), H' = upd G' b β' ∧ Bag K G G' b β' ∧ Same G G' ∧ G' D = some (.lst xs) ∧ xs.length = i ∧ ∀ x ∈ xs, ∃ z ∈ l, x = V.ref z.1)
      ⟨[], _, β1, upd_swap nDb, hb1.up (same_new nD1) (by rw [upd_ne (Ne.symm nDb)]; exact hb1.nb), sm1.trans (same_new nD1), upd_same, rfl, fun x hx => (by cases hx)⟩ ?_ ?_
    · rintro i H' hi ⟨xs, G2, β2, rfl, hb2, s2, hD2, hl2, hall⟩
      have hK2 := hK.up s2
      refine k_gName ?_
      refine ⟨rfl, ?_⟩
      walk_at "ss"
      refine k_of hb2 (SqL.of hK2.at_) (by omega) (by omega) fun v β3 hv hb3 => ?_
      refine ⟨_, up_get hb3.nb hD2, small_lt (by omega), xs ++ [v], upd G2 D (.lst (xs ++ [v])), β3, upd_swap nDb, hb3.put nDG nDb, same_put s2 nDG, upd_same, by simp [hl2], fun x hx => ?_⟩
      rcases List.mem_append.mp hx with hx | hx
      · exact hall x hx
      · rw [List.mem_singleton.mp hx]
        exact pick v hv
    · rintro H' ⟨xs, G2, β2, rfl, hb2, s2, hD2, hl2, hall⟩
      obtain ⟨z1, z2, hz1, hz2, rfl⟩ : ∃ z1 z2, z1 ∈ l ∧ z2 ∈ l ∧ xs = [V.ref z1.1, V.ref z2.1] := by
        match xs, hl2, hall with
        | [u, v], _, hall =>
          obtain ⟨z1, h1, rfl⟩ := hall u (by simp)
          obtain ⟨z2, h2, rfl⟩ := hall v (by simp)
          exact ⟨z1, z2, h1, h2, rfl⟩
      walk_at "ss"
      refine k_meet (fun σ H' => ∃ (t1 t2 : Addr) (x y l1 l2 : V) (px py : Option Plan) (G' : Hp) (β' : HO), σ = [some (.ref b), some (.ref B), none, none, none, none, some (.ref D), some (.str (opS op)), none] ∧ H' = upd G' b β' ∧ Bag K G G' b β' ∧ Same G G' ∧ G' D = some (.lst [.ref t1, .ref t2]) ∧ PrAt T (OnlyL B) G' t1 x px l1 ∧ PrAt T (OnlyL B) G' t2 y py l2) ?_ ?_
      · walk_at "ss"
        refine k_draw hb2 (by decide) (by decide) fun d5 β3 _ _ hb3 => ?_
        walk_at "ss"
        refine k_d (fun _ => ?_) (fun _ => ?_)
        · walk_at "ss"
          refine ⟨OnlyL D, G, G2, b, β3, rfl, rfl, hb3, fun a z n => (by cases (show a = D from z); rw [hD2] at n; cases n), fun v G6 β6 s6 hb6 hv => ?_⟩
          walk_at "ss"
          intro tn nt_tn
          rw [upd_swap (up_none nt_tn).2]
          generalize eG_tn : upd _ tn _ = G7
          obtain ⟨nb7, s7, htn, nt_tn, nG_tn⟩ := new_facts hb6.nb nt_tn eG_tn
          clear eG_tn
          have hb7 := hb6.up s7 nb7
          have hD7 := (s6.trans s7) _ _ hD2
          have hv7 := Gd.up hv s7
          walk_at "ss"
          refine k_draw hb7 (by decide) (by decide) fun d β8 d0 d1 hb8 => ?_
          have s27 := (s2.trans s6).trans s7
          have set : ∀ (ys : List V), Same G (upd G7 D (.lst ys)) := fun ys => same_put s27 nDG
          have htn' : ∀ ys, (upd G7 D (.lst ys)) tn = some (.tup [.non, v]) := fun ys => (upd_ne (ne_of htn hD7 (by intro q; cases q))).trans htn
          have hvn : ∀ ys, Gd NoF (upd G7 D (.lst ys)) 2 v := fun ys => (hv7.keep keep_put).weak fun a z => z.elim
          have hd : d = 0 ∨ d = 1 := by omega
          rcases hd with rfl | rfl
          · refine k_setL (up_get hb8.nb hD7) (j := 0) rfl ?_
            rw [upd_swap nDb]
            exact ⟨tn, z2.1, v, _, _, _, none, _, _, β8, rfl, rfl, hb8.put nDG nDb, set _, upd_same, .dat (htn' _) (hvn _), (PrAt.of hK hz2).up (set _)⟩
          · refine k_setL (up_get hb8.nb hD7) (j := 1) rfl ?_
            rw [upd_swap nDb]
            exact ⟨z1.1, tn, _, v, _, _, _, none, _, β8, rfl, rfl, hb8.put nDG nDb, set _, upd_same, (PrAt.of hK hz1).up (set _), .dat (htn' _) (hvn _)⟩
        · walk_at "ss"
          exact ⟨z1.1, z2.1, _, _, _, _, _, _, G2, β3, rfl, rfl, hb3, s2, hD2, (PrAt.of hK hz1).up s2, (PrAt.of hK hz2).up s2⟩
      · rintro σ H' ⟨t1, t2, x, y, l1, l2, px, py, G3, β3, rfl, rfl, hb3, s3, hD3, hp1, hp2⟩
        have hDu := up_get (β := β3) hb3.nb hD3
        have hK3 := hK.up s3
        have hT3 : Tabs (TL_ T) (upd G3 b β3) := Tabs.bag hT hb s3 hb3.nb
        walk_at "ss"
        refine k_meet (fun σ H' => ∃ (G' : Hp) (dv : V), σ = [some (.ref b), some (.ref B), some dv, none, none, none, some (.ref D), some (.str (opS op)), none] ∧ H' = upd G' b β3 ∧ Same G3 G' ∧ Bag K G G' b β3 ∧ DueAt G' dv (pairBad x px y py)) ?_ ?_
        · walk_at "ss"
          have sU := up_same (β := β3) hb3.nb
          refine ⟨OnlyL B, t1, t2, x, y, l1, l2, px, py, rfl, hp1.up sU, hp2.up sU, fun hn H6 s6 => ?_, fun e hbad f H6 s6 hf => ?_⟩
          · obtain ⟨G6, nb6, s56, rfl⟩ := split_up hb3.nb s6
            walk_at "ss"
            exact ⟨G6, _, rfl, rfl, s56, hb3.up s56 nb6, .inl ⟨hn, rfl⟩⟩
          · obtain ⟨G6, nb6, s56, rfl⟩ := split_up hb3.nb s6
            walk_at "ss"
            exact ⟨G6, _, rfl, rfl, s56, hb3.up s56 nb6, .inr ⟨e, f, hbad, rfl, off_bag (by cases e <;> exact hb3.noS _ _) hf⟩⟩
        · rintro σ H' ⟨G6, dv, rfl, rfl, s6, hb6, hD6⟩
          have hK6 := hK3.up s6
          have hT6 : Tabs (TL_ T) (upd G6 b β3) := Tabs.bag hT3 hb3 s6 hb6.nb
          walk_at "ss"
          refine k_lam hT6 fun H1 eN T1 => ?_
          obtain ⟨G7, nb7, e7, rfl⟩ := split_ext hb6.nb hb6.nt eN
          have hb7 := hb6.ext e7 nb7
          have hK7 := hK6.ext e7
          have hE7 := hD6.ext e7
          have hD7 := e7 _ _ (s6 _ _ hD3) (fun ps z => by cases z)
          have hp17 := (hp1.up s6).ext e7
          have hp27 := (hp2.up s6).ext e7
          refine ask_any (bad := pairBad x px y py) (good := fun G r => pairBad x px y py = none ∧ ∃ (p q : Plan), px = some p ∧ py = some q ∧ (Plan.op op p q).Ok ∧ RestAt T (OnlyL B) G r (.op op p q)) hb7 (fun G G' x e ⟨h0, p, q, h1, h2, h3, h4⟩ => ⟨h0, p, q, h1, h2, h3, h4.up e⟩) ?_ ?_ ?_
          · intro e hbad G8 β8 f t s8 hb8 hf ht
            obtain ⟨f2, rfl, hf2⟩ : ∃ f2, dv = .ref f2 ∧ G7 f2 = some (.lst e.row) := by
              rcases hE7 with ⟨h, _⟩ | ⟨e2, f2, h1, h2, h3⟩
              · rw [hbad] at h; cases h
              · rw [hbad] at h1
                cases h1
                exact ⟨f2, h2, h3⟩
            refine k_gTup (SqT.of (up_get hb8.nb ht)) rfl ?_
            have sU := up_same (β := β8) hb8.nb
            have hf8 := sU _ _ hf
            have hf28 := sU _ _ (s8 _ _ hf2)
            walk_at "ss"
            refine ⟨rfl, ?_⟩
            refine ⟨_, rfl, ?_⟩
            refine k_n (fun z => by cases z) (fun _ => ?_)
            walk_at "ss"
            refine ⟨rfl, ?_⟩
            refine ⟨_, rfl, ?_⟩
            refine k_dt rfl ?_
            walk_at "ss"
            refine ⟨_, _, rfl, eqd_row (e := e) hf8 hf28 (row_eqd fun u hu => ?_), fun H9 s9 => ?_⟩
            · rcases pairBad_val hbad hu with ⟨hn, rfl⟩ | ⟨hn, rfl⟩
              · exact (((hp17.up s8).up sU).gd hn).eqd
              · exact (((hp27.up s8).up sU).gd hn).eqd
            · obtain ⟨G9, nb9, s89, rfl⟩ := split_up hb8.nb s9
              exact k l G9 β8 (hb8.up s89 nb9).re (Tabs.bag T1 hb7 (s8.trans s89) nb9) (hK7.up (s8.trans s89)) hne (by omega)
          · rintro r G8 β8 t s8 hb8 ⟨hnone, p, q, rfl, rfl, hok, hr8⟩ ht
            obtain rfl : dv = .non := by
              rcases hE7 with ⟨_, h⟩ | ⟨e2, f2, h1, _⟩
              · exact h
              · rw [hnone] at h1; cases h1
            have hK8 := hK7.up s8
            have hT8 : Tabs (TL_ T) (upd G8 b β8) := Tabs.bag T1 hb7 s8 hb8.nb
            have hD8 := s8 _ _ hD7
            have hp18 := hp17.up s8
            have hp28 := hp27.up s8
            cases hp18 with
            | @rest a1 r1 _ ht1 hpl1 hrr1 ok1 =>
            cases hp28 with
            | @rest a2 r2 _ ht2 hpl2 hrr2 ok2 =>
            obtain ⟨C, dx, ns, vs, hC, hn, hw⟩ := hr8.four
            have sU := up_same (β := β8) hb8.nb
            have hDu := sU _ _ hD8
            have ht1u := sU _ _ ht1
            have ht2u := sU _ _ ht2
            refine k_gTup (SqT.of (up_get hb8.nb ht)) rfl ?_
            walk_at "ss"
            refine ⟨rfl, ?_⟩
            refine ⟨_, rfl, ?_⟩
            refine k_n (fun _ => ?_) (fun z => (z rfl).elim)
            walk_at "ss"
            refine ⟨rfl, ?_⟩
            refine ⟨_, rfl, ?_⟩
            refine k_n (fun _ => ?_) (fun z => (z rfl).elim)
            walk_at "ss"
            refine ⟨OnlyL B, op, r, p, q, rfl, hr8.up sU, ?_⟩
            walk_at "ss"
            refine k_isiO (ty_own hC.ty (sU _ _ hw)) hC.kt ?_
            walk_at "ss"
            intro pl nt_pl
            rw [upd_swap (up_none nt_pl).2]
            generalize eG_pl : upd _ pl _ = G9
            obtain ⟨nb9, s9, hpl, nt_pl, nG_pl⟩ := new_facts hb8.nb nt_pl eG_pl
            clear eG_pl
            have hDv := up_get (β := β8) nb9 (s9 _ _ hD8)
            walk_at "ss"
            refine k_bm ?_
            walk_at "ss"
            refine ⟨.inl ⟨rfl, _, SqL.of (up_get nb9 (hK8.up s9).at_)⟩, ?_⟩
            walk_at "ss"
            intro pt nt_pt
            rw [upd_swap (up_none nt_pt).2]
            generalize eG_pt : upd _ pt _ = GA
            obtain ⟨nbA, sA, hpt, nt_pt, nG_pt⟩ := new_facts nb9 nt_pt eG_pt
            clear eG_pt
            walk_at "ss"
            have s8A := s9.trans sA
            have hKA := hK8.up s8A
            refine k_app (up_get nbA hKA.at_) (by rw [List.length_map]; omega) ?_
            have nBb : B ≠ b := ne_of_none hKA.at_ nbA
            rw [upd_swap nBb]
            have hKB := hKA.push hpt (.op (sA _ _ hpl) (hpl1.up s8A) (hpl2.up s8A)) (hr8.up s8A) hok
            have sb : SameBut B GA (upd GA B (.lst (rfK l ++ [.ref pt]))) := (SameBut.refl _ _).put
            have hrB := rest_put (o := .lst (rfK l ++ [.ref pt])) hKA.at_ (hr8.up s8A)
            have hr1B := rest_put (o := .lst (rfK l ++ [.ref pt])) hKA.at_ (hrr1.up s8A)
            have hr2B := rest_put (o := .lst (rfK l ++ [.ref pt])) hKA.at_ (hrr2.up s8A)
            have hp1B := (hpl1.up s8A).upB hKA.at_ sb
            have hp2B := (hpl2.up s8A).upB hKA.at_ sb
            have hplB := sb _ _ (ne_of (sA _ _ hpl) hKA.at_ (by intro z; cases z)) (sA _ _ hpl)
            have ht1B := sb _ _ (ne_of (s8A _ _ ht1) hKA.at_ (by intro z; cases z)) (s8A _ _ ht1)
            have ht2B := sb _ _ (ne_of (s8A _ _ ht2) hKA.at_ (by intro z; cases z)) (s8A _ _ ht2)
            have hDB := sb _ _ (fun z => by rw [z, hK.at_] at nDG; cases nDG) (s8A _ _ hD8)
            have hTA : Tabs (TL_ T) (upd GA b β8) := Tabs.bag hT8 hb8 s8A nbA
            have hTB := Tabs.put (ys := rfK l ++ [.ref pt]) hTA (up_get nbA hKA.at_)
            rw [upd_swap nBb] at hTB
            have hbB : Bag K (upd GA B (.lst (rfK l ++ [.ref pt]))) (upd GA B (.lst (rfK l ++ [.ref pt]))) b β8 := Bag.bump (hb8.up s8A nbA).re hKA.at_ hne nBb
            generalize eG : upd GA B _ = GB
            rw [eG] at hKB hrB hr1B hr2B hp1B hp2B hplB ht1B ht2B hDB hTB hbB
            clear eG
            have sV := up_same (β := β8) hbB.nb
            have hDw := sV _ _ hDB
            have ht1w := sV _ _ ht1B
            have ht2w := sV _ _ ht2B
            cases hrB with
            | @op _ dxB b1 b2 _ _ _ hwB hb1r hb2r =>
            have hwV := sV _ _ hwB
            walk_at "ss"
            refine k_fldAt hwV (IsC.op op).cl (cOp_first T op).1 (i := 4) (by decide +kernel) rfl ?_
            walk_at "ss"
            refine ⟨OnlyL B, b1, p, rfl, hb1r.up sV, .inr ⟨OnlyL B, r1, p, rfl, hr1B.up sV, ?_⟩⟩
            refine ⟨_, rfl, ?_⟩
            refine k_dt rfl ?_
            walk_at "ss"
            refine k_fldAt hwV (IsC.op op).cl (cOp_first T op).2 (i := 5) (by decide +kernel) rfl ?_
            walk_at "ss"
            refine ⟨OnlyL B, b2, q, rfl, hb2r.up sV, .inr ⟨OnlyL B, r2, q, rfl, hr2B.up sV, ?_⟩⟩
            refine ⟨_, rfl, ?_⟩
            refine k_dt rfl ?_
            walk_at "ss"
            refine k_rest (hb1r.up sV) (by decide +kernel) (by decide +kernel) (fun Q q => k_fld (k_var rfl (k_fldAt hwV (IsC.op op).cl (cOp_first T op).1 (i := 4) (by decide +kernel) rfl q))) ⟨OnlyL B, b1, p, rfl, hb1r.up sV, ?_⟩
            walk_at "ss"
            refine k_rest (hb2r.up sV) (by decide +kernel) (by decide +kernel) (fun Q q => k_fld (k_var rfl (k_fldAt hwV (IsC.op op).cl (cOp_first T op).2 (i := 5) (by decide +kernel) rfl q))) ⟨OnlyL B, b2, q, rfl, hb2r.up sV, ?_⟩
            walk_at "ss"
            intro q1 nt_q1
            rw [upd_swap (up_none nt_q1).2]
            generalize eG_q1 : upd _ q1 _ = GC
            obtain ⟨nbC, sC, hq1, nt_q1, nG_q1⟩ := new_facts hbB.nb nt_q1 eG_q1
            clear eG_q1
            have hplC := up_get (β := β8) nbC (sC _ _ hplB)
            walk_at "ss"
            refine ⟨a1, p, rfl, (hp1B.up sC).up (up_same nbC), ok1, ok1.forms6, fun HD sD => ?_⟩
            obtain ⟨GD, nbD, sCD, rfl⟩ := split_up nbC sD
            have hplD := up_get (β := β8) nbD (sCD _ _ (sC _ _ hplB))
            walk_at "ss"
            refine ⟨a2, q, rfl, (hp2B.up (sC.trans sCD)).up (up_same nbD), ok2, ok2.forms6, fun HE sE => ?_⟩
            obtain ⟨GE, nbE, sDE, rfl⟩ := split_up nbD sE
            walk_at "ss"
            intro q2 nt_q2
            rw [upd_swap (up_none nt_q2).2]
            generalize eG_q2 : upd _ q2 _ = GF
            obtain ⟨nbF, sF, hq2, nt_q2, nG_q2⟩ := new_facts nbE nt_q2 eG_q2
            clear eG_q2
            walk_at "ss"
            have sCF := (sCD.trans sDE).trans sF
            refine ⟨_, _, rfl, eqd_list (d := 2) (up_get nbF (sCF _ _ hq1)) (up_get nbF hq2) (by simp) (fun y hy => ?_), fun HG sG => ?_⟩
            · simp only [List.mem_cons, List.not_mem_nil, or_false] at hy
              rcases hy with rfl | rfl <;> exact Eqd.sc (.str _) 2
            · obtain ⟨GG, nbG, sFG, rfl⟩ := split_up nbF sG
              have sBG := (sC.trans sCF).trans sFG
              exact k _ GG β8 (hbB.up sBG nbG).re (Tabs.bag hTB hbB sBG nbG) (hKB.up sBG) (by simp) (by simp)
          · intro E2 Q2 G8 s8 hb8 hE hQ
            have hDv := up_get (β := β3) hb8.nb (s8 _ _ hD7)
            have ht1 := up_get (β := β3) hb8.nb (hp17.up s8).tup
            have ht2 := up_get (β := β3) hb8.nb (hp27.up s8).tup
            walk_at "ss"
            exact ⟨OnlyL B, _, G8, b, β3, op, x, y, px, py, rfl, rfl, hb8, (hp17.up s8).arg, (hp27.up s8).arg, fun e he β' hb' => hE e he G8 β' s8 hb', fun hn p q ep eq hok r G' β' s' hb' hr' => hQ r G' β' (s8.trans s') hb' ⟨hn, p, q, ep, eq, hok, hr'⟩⟩
end

section
variable {w : World} {K : PySem.W.Frag} {mg : Str → Option Value} {base : Heap}
/-! ### what a rest tells, and == -/
theorem b_repr : bootBuiltins "repr" = some (.builtin "repr") := by decide +kernel
def spToldSo (T : Tx K mg) : Sp := fun vs H Q _ => ∃ (F : Addr → Prop) (a r : Addr) (p : Plan), vs = [.ref a, .ref r] ∧ PlanAt H a p ∧ RestAt T F H r p ∧ p.Ok ∧ ∀ H', Same H H' → Q (.bl true) H'
theorem ok_told_so (T : Tx K mg) : FnOk P w K mg base CX0 9 T.a_told_so T.fd_told_so P_told_so (spToldSo T) := by
  refine T.F_told_so.ok sc_told_so (fun vs H Q E h => ?_) (fun cdv A outer s H vs Q E hr h => ?_)
  · obtain ⟨F, a, r, p, rfl, _⟩ := h
    rfl
  · obtain ⟨F, a, r, p, rfl, hp, hr1, ok, k⟩ := h
    have nd := sc_told_so.nd
    refine ⟨_, (pss_cons (ks_setL (i := 2) nd l_told_so_law_text_here (pe_call (ok_text T) (hr.mono (by first | decide | omega)) g_told_so_law_text T.m_text T.k_text T.b_text .nil pass0 (pa_cons (kv (i := 0) v_told_so_law_plan) pa_nil)))
      (pss_cons (ps_if (pt_not (pt_val (pe_call (ok_like T) (hr.mono (by first | decide | omega)) g_told_so_law_like T.m_like T.k_like T.b_like .nil pass0 (pa_cons (pe_lst (pa_cons (kpe_methP0 (disp_written T) (hr.mono (by first | decide | omega)) pass0 (kv (i := 1) v_told_so_law_thing)) (pa_cons (kcT b_str (by decide) (by decide) (kc_strR T (ok_Rest_str T) (hr.mono (by first | decide | omega))) g_told_so_str T.n_str (pa_cons (kv (i := 1) v_told_so_law_thing) pa_nil)) (pa_cons (kcB b_repr (by decide) (by decide) (kc_reprR T (ok_Rest_repr T) (hr.mono (by first | decide | omega))) g_told_so_repr T.n_repr (pa_cons (kv (i := 1) v_told_so_law_thing) pa_nil)) pa_nil)))) (pa_cons (pe_lst (pa_cons (kv (i := 2) v_told_so_law_text_here) (pa_cons (kv (i := 2) v_told_so_law_text_here) (pa_cons (pe_joined (.cons pe_str (.cons (pe_fmt (kv (i := 2) v_told_so_law_text_here)) (.cons pe_str .nil)))) pa_nil)))) pa_nil))))) (pss_one (ps_ret pe_bl)) pss_nil)
      (pss_one (ps_ret (pe_call (ok_like T) (hr.mono (by first | decide | omega)) g_told_so_law_like T.m_like T.k_like T.b_like .nil pass0 (pa_cons (pe_tup (pa_cons (kpe_methP0 (disp_forms T) (hr.mono (by first | decide | omega)) pass0 (kv (i := 1) v_told_so_law_thing)) (pa_cons (kpe_methP0 (disp_period T) (hr.mono (by first | decide | omega)) pass0 (kv (i := 1) v_told_so_law_thing)) (pa_cons (kpe_methP0 (disp_bend T) (hr.mono (by first | decide | omega)) pass0 (kv (i := 1) v_told_so_law_thing)) pa_nil)))) (pa_cons (pe_call (ok_facts T) (hr.mono (by first | decide | omega)) g_told_so_law_facts T.m_facts T.k_facts T.b_facts .nil pass0 (pa_cons (kv (i := 0) v_told_so_law_plan) pa_nil)) pa_nil))))))), ?_⟩
    have f6 := ok.forms6
    have tl := tx_len ok
    have l1 : ("Rest(" : Str).length = 5 := by decide +kernel
    have l2 : (")" : Str).length = 1 := by decide +kernel
    walk_at "ss"
    refine ⟨a, p, rfl, hp, ok, f6, fun H1 s1 => ?_⟩
    have hr2 := hr1.up s1
    walk_at "ss"
    refine k_rest hr2 (by decide +kernel) (by decide +kernel) (fun Q q => by walk_at "ss"; exact q) ⟨F, r, p, rfl, hr2, ?_⟩
    walk_at "ss"
    refine ⟨F, r, p, rfl, hr2, ?_⟩
    walk_at "ss"
    refine ⟨F, r, p, rfl, hr2, by omega, ?_⟩
    walk_at "ss"
    intro q1 nq1
    generalize e2 : upd H1 q1 _ = H2
    have s2 := upd_sm e2 nq1
    have hq1 := upd_at e2
    clear e2
    walk_at "ss"
    refine k_jsV (by simp only [PySem.Str.length_append, len_empty, l1]; omega) ?_
    walk_at "ss"
    refine k_fmtS (by omega) ?_
    refine k_jsV (by simp only [PySem.Str.length_append, len_empty, l1]; omega) ?_
    walk_at "ss"
    refine k_jsV (by simp only [PySem.Str.length_append, len_empty, l1, l2]; omega) ?_
    walk_at "ss"
    intro q2 nq2
    generalize e3 : upd H2 q2 _ = H3
    have s3 := upd_sm e3 nq2
    have hq2 := upd_at e3
    clear e3
    walk_at "ss"
    refine ⟨_, _, rfl, eqd_list (d := 2) (s3 _ _ hq1) hq2 (by simp) (fun y hy => ?_), fun H4 s4 => ?_⟩
    · simp only [List.mem_cons, List.not_mem_nil, or_false] at hy
      rcases hy with rfl | rfl | rfl <;> exact Eqd.sc (.str _) 2
    · have s14 := (s1.trans s2).trans (s3.trans s4)
      have hr4 := hr1.up s14
      walk_at "ss"
      refine k_rest hr4 (by decide +kernel) (by decide +kernel) (fun Q q => by walk_at "ss"; exact q) ⟨F, r, p, rfl, hr4, ?_⟩
      walk_at "ss"
      refine k_rest hr4 (by decide +kernel) (by decide +kernel) (fun Q q => by walk_at "ss"; exact q) ⟨F, r, p, rfl, hr4, ?_⟩
      walk_at "ss"
      refine k_rest hr4 (by decide +kernel) (by decide +kernel) (fun Q q => by walk_at "ss"; exact q) ⟨F, r, p, rfl, hr4, ?_⟩
      walk_at "ss"
      intro q5 nq5
      generalize e5 : upd H4 q5 _ = H5
      have s5 := upd_sm e5 nq5
      have hq5 := upd_at e5
      clear e5
      walk_at "ss"
      refine ⟨a, p, rfl, (hp.up s14).up s5, ok, f6, f6, fun u H6 s6 hu => ?_⟩
      walk_at "ss"
      refine ⟨_, _, rfl, .inr (.inr ⟨q5, u, _, _, rfl, rfl, .inr ⟨s6 _ _ hq5, hu⟩, rfl, by simp, fun i x y hx hy => ?_⟩), fun H7 s7 => k _ (((s14.trans s5).trans s6).trans s7)⟩
      rw [hx] at hy
      cases hy
      have hm := List.mem_of_getElem? hx
      simp only [List.mem_cons, List.not_mem_nil, or_false] at hm
      rcases hm with rfl | rfl | rfl <;> exact Eqd.sc (.int _) 2
def spEqualSo (T : Tx K mg) : Sp := fun vs H Q _ => ∃ (G0 G : Hp) (b B : Addr) (β : HO) (l : KL), vs = [.ref b, .ref B] ∧ H = upd G b β ∧ Bag K G0 G b β ∧ KeptAt T G B l ∧ l ≠ [] ∧ l.length ≤ 30 ∧ ∀ (G' : Hp) (β' : HO), Same G G' → Bag K G0 G' b β' → Q (.bl true) (upd G' b β')
theorem ok_equal_so (T : Tx K mg) : FnOk P w K mg base CX0 9 T.a_equal_so T.fd_equal_so P_equal_so (spEqualSo T) := by
  refine T.F_equal_so.ok sc_equal_so (fun vs H Q E h => ?_) (fun cdv A outer s H vs Q E hr h => ?_)
  · obtain ⟨G0, G, b, B, β, l, rfl, _⟩ := h
    rfl
  · obtain ⟨G0, G, b, B, β, l, rfl, rfl, hb, hK, hne, hl, k⟩ := h
    have nd := sc_equal_so.nd
    refine ⟨_, (pss_cons (ps_par (i := 2) (j := 3) rfl nd rfl rfl (by decide) (locB_ok l_equal_so_law_one) (locB_ok l_equal_so_law_two) (pa_cons (pe_call (ok_of T) (hr.mono (by first | decide | omega)) g_equal_so_law_of T.m_of T.k_of T.b_of .nil pass0 (pa_cons (kv (i := 0) v_equal_so_law_bag_here) (pa_cons (kv (i := 1) v_equal_so_law_kept) pa_nil))) (pa_cons (pe_call (ok_of T) (hr.mono (by first | decide | omega)) g_equal_so_law_of T.m_of T.k_of T.b_of .nil pass0 (pa_cons (kv (i := 0) v_equal_so_law_bag_here) (pa_cons (kv (i := 1) v_equal_so_law_kept) pa_nil))) pa_nil)) (by rfl))
      (pss_cons (ks_setL (i := 4) nd l_equal_so_law_told (pe_cmpR (kop_eqR T (ok_Rest_eq T) (hr.mono (by first | decide | omega))) (pe_ix (kix K) (kv (i := 2) v_equal_so_law_one) pe_int (fun _ _ => rfl)) (pe_ix (kix K) (kv (i := 3) v_equal_so_law_two) pe_int (fun _ _ => rfl)) (nomark _)))
      (pss_cons (ps_if (pt_not (pt_val (pe_call (ok_like T) (hr.mono (by first | decide | omega)) g_equal_so_law_like T.m_like T.k_like T.b_like .nil pass0 (pa_cons (kv (i := 4) v_equal_so_law_told) (pa_cons (pe_cmpR op_eq (pe_call (ok_text T) (hr.mono (by first | decide | omega)) g_equal_so_law_text T.m_text T.k_text T.b_text .nil pass0 (pa_cons (pe_ix (kix K) (kv (i := 2) v_equal_so_law_one) pe_int (fun _ _ => rfl)) pa_nil)) (pe_call (ok_text T) (hr.mono (by first | decide | omega)) g_equal_so_law_text T.m_text T.k_text T.b_text .nil pass0 (pa_cons (pe_ix (kix K) (kv (i := 3) v_equal_so_law_two) pe_int (fun _ _ => rfl)) pa_nil)) (nomark _)) pa_nil))))) (pss_one (ps_ret pe_bl)) pss_nil)
      (pss_cons (ks_setL (i := 5) nd l_equal_so_law_other (pe_call (ok_of T) (hr.mono (by first | decide | omega)) g_equal_so_law_of T.m_of T.k_of T.b_of .nil pass0 (pa_cons (kv (i := 0) v_equal_so_law_bag_here) (pa_cons (pe_lst (pa_cons pe_non (pa_cons pe_int (pa_cons pe_bl (pa_cons (pe_call (ok_text T) (hr.mono (by first | decide | omega)) g_equal_so_law_text T.m_text T.k_text T.b_text .nil pass0 (pa_cons (pe_ix (kix K) (kv (i := 2) v_equal_so_law_one) pe_int (fun _ _ => rfl)) pa_nil)) (pa_cons (pe_tup (pa_cons pe_int pa_nil)) (pa_cons (pe_lst pa_nil) (pa_cons pe_str pa_nil)))))))) pa_nil))))
      (pss_one (ps_ret (pe_call (ok_like T) (hr.mono (by first | decide | omega)) g_equal_so_law_like T.m_like T.k_like T.b_like .nil pass0 (pa_cons (pe_lst (pa_cons (pe_cmpR (kop_eqR T (ok_Rest_eq T) (hr.mono (by first | decide | omega))) (pe_ix (kix K) (kv (i := 2) v_equal_so_law_one) pe_int (fun _ _ => rfl)) (kv (i := 5) v_equal_so_law_other) (nomark _)) (pa_cons (pe_cmpR (kop_neR T (ok_Rest_eq T) (hr.mono (by first | decide | omega))) (pe_ix (kix K) (kv (i := 2) v_equal_so_law_one) pe_int (fun _ _ => rfl)) (kv (i := 5) v_equal_so_law_other) (nomark _)) pa_nil))) (pa_cons (pe_lst (pa_cons pe_bl (pa_cons pe_bl pa_nil))) pa_nil))))))))), ?_⟩
    have hlen : (rfK l).length = l.length := List.length_map _
    have hpos : 0 < l.length := List.length_pos_iff.mpr hne
    have pick : ∀ v ∈ rfK l, ∃ z ∈ l, v = V.ref z.1 := fun v hv => by
      obtain ⟨z, hz, rfl⟩ := List.mem_map.mp hv
      exact ⟨z, hz, rfl⟩
    walk_at "ss"
    refine k_of hb (SqL.of hK.at_) (by omega) (by omega) fun v1 β1 hv1 hb1 => ?_
    obtain ⟨⟨t1, a1, r1, p1⟩, hz1, rfl⟩ := pick v1 hv1
    walk_at "ss"
    refine k_of hb1 (SqL.of hK.at_) (by omega) (by omega) fun v2 β2 hv2 hb2 => ?_
    obtain ⟨⟨t2, a2, r2, p2⟩, hz2, rfl⟩ := pick v2 hv2
    obtain ⟨ht1, hp1, hr1, ok1⟩ := hK.prs _ hz1
    obtain ⟨ht2, hp2, hr2, ok2⟩ := hK.prs _ hz2
    dsimp only at ht1 hp1 hr1 ok1 ht2 hp2 hr2 ok2
    have sU := up_same (β := β2) hb2.nb
    have ht1u := sU _ _ ht1
    have ht2u := sU _ _ ht2
    walk_at "ss"
    refine ⟨OnlyL B, r1, p1, rfl, hr1.up sU, .inr ⟨OnlyL B, r2, p2, rfl, hr2.up sU, ?_⟩⟩
    walk_at "ss"
    refine ⟨a1, p1, rfl, hp1.up sU, ok1, ok1.forms6, fun H3 s3 => ?_⟩
    have ht2v := s3 _ _ ht2u
    walk_at "ss"
    refine ⟨a2, p2, rfl, (hp2.up sU).up s3, ok2, ok2.forms6, fun H4 s4 => ?_⟩
    refine k_eq rfl ?_
    have e : decide (V.str p1.tx = V.str p2.tx) = decide (p1.tx = p2.tx) := by simp
    rw [e]
    walk_at "ss"
    refine ⟨_, _, rfl, Eqd.sc (.bl _) 3, fun H5 s5 => ?_⟩
    obtain ⟨G5, nb5, s05, rfl⟩ := split_up hb2.nb ((s3.trans s4).trans s5)
    have hb5 := hb2.up s05 nb5
    have sV := up_same (β := β2) nb5
    have ht1w := sV _ _ (s05 _ _ ht1)
    walk_at "ss"
    refine ⟨a1, p1, rfl, (hp1.up s05).up sV, ok1, ok1.forms6, fun H6 s6 => ?_⟩
    obtain ⟨G6, nb6, s56, rfl⟩ := split_up nb5 s6
    have hb6 := hb5.up s56 nb6
    walk_at "ss"
    intro q1 nt_q1
    rw [upd_swap (up_none nt_q1).2]
    generalize eG_q1 : upd _ q1 _ = G7
    obtain ⟨nb7, s7, hq1, nt_q1, nG_q1⟩ := new_facts nb6 nt_q1 eG_q1
    clear eG_q1
    walk_at "ss"
    intro q2 nt_q2
    rw [upd_swap (up_none nt_q2).2]
    generalize eG_q2 : upd _ q2 _ = G8
    obtain ⟨nb8, s8, hq2, nt_q2, nG_q2⟩ := new_facts nb7 nt_q2 eG_q2
    clear eG_q2
    walk_at "ss"
    intro q3 nt_q3
    rw [upd_swap (up_none nt_q3).2]
    generalize eG_q3 : upd _ q3 _ = G9
    obtain ⟨nb9, s9, hq3, nt_q3, nG_q3⟩ := new_facts nb8 nt_q3 eG_q3
    clear eG_q3
    have s69 := (s7.trans s8).trans s9
    have hb9 := hb6.up s69 nb9
    walk_at "ss"
    refine k_of hb9 (SqL.of hq3) (by simp) (by simp) fun v β9 hv hb10 => ?_
    have s09 := (s05.trans s56).trans s69
    have sW := up_same (β := β9) nb9
    have tl := tx_len ok1
    have f6 := ok1.forms6
    have hq1u := sW _ _ ((s8.trans s9) _ _ hq1)
    have hq2u := sW _ _ (s9 _ _ hq2)
    have hv9 : Gx (upd G9 b β9) v ∧ ∀ b' ks, v = .ref b' → (upd G9 b β9) b' ≠ some (.dK ks) := by
      simp only [List.mem_cons, List.not_mem_nil, or_false] at hv
      rcases hv with rfl | rfl | rfl | rfl | rfl | rfl | rfl
      · exact ⟨.inl .non, fun _ _ e => by cases e⟩
      · exact ⟨.inl (.int _), fun _ _ e => by cases e⟩
      · exact ⟨.inl (.bl _), fun _ _ e => by cases e⟩
      · exact ⟨.inr ⟨_, rfl⟩, fun _ _ e => by cases e⟩
      · exact ⟨.inl (.tup hq1u), fun b' ks e z => by cases e; rw [hq1u] at z; cases z⟩
      · exact ⟨.inl (.lst hq2u), fun b' ks e z => by cases e; rw [hq2u] at z; cases z⟩
      · exact ⟨.inr ⟨_, rfl⟩, fun _ _ e => by cases e⟩
    obtain ⟨gv, gn⟩ := hv9
    have hr9 := (hr1.up s09).up sW
    have ht9 := sW _ _ (s09 _ _ ht1)
    walk_at "ss"
    refine ⟨OnlyL B, r1, p1, rfl, hr9, .inl ⟨gv, gn, ?_⟩⟩
    walk_at "ss"
    refine ⟨OnlyL B, r1, p1, rfl, hr9, gv, gn, ?_⟩
    walk_at "ss"
    intro q4 nt_q4
    rw [upd_swap (up_none nt_q4).2]
    generalize eG_q4 : upd _ q4 _ = GA
    obtain ⟨nbA, sA, hq4, nt_q4, nG_q4⟩ := new_facts nb9 nt_q4 eG_q4
    clear eG_q4
    walk_at "ss"
    intro q5 nt_q5
    rw [upd_swap (up_none nt_q5).2]
    generalize eG_q5 : upd _ q5 _ = GB
    obtain ⟨nbB, sB, hq5, nt_q5, nG_q5⟩ := new_facts nbA nt_q5 eG_q5
    clear eG_q5
    walk_at "ss"
    refine ⟨_, _, rfl, eqd_list (d := 2) (up_get nbB (sB _ _ hq4)) (up_get nbB hq5) (by simp) (fun y hy => ?_), fun HC sC => ?_⟩
    · simp only [List.mem_cons, List.not_mem_nil, or_false] at hy
      rcases hy with rfl | rfl <;> exact Eqd.sc (.bl _) 2
    · obtain ⟨GC, nbC, sBC, rfl⟩ := split_up nbB sC
      exact k GC β9 (((s09.trans sA).trans sB).trans sBC) (hb10.up ((sA.trans sB).trans sBC) nbC)
end

section
open LamX
variable {w : World} {K : PySem.W.Frag} {mg : Str → Option Value} {base : Heap}
def spLaw (T : Tx K mg) : Sp := fun vs H Q _ => ∃ (a : Addr) (ns : List Int), vs = [.ref a] ∧ SqL K H a (ns.map V.int) ∧ Tabs (TL_ T) H ∧ ∀ H', Q (.bl true) H'
theorem ok_law (T : Tx K mg) (TB_window : TabB base mg T.cda_window T.tb_window) (TB_days : TabB base mg T.cda_days T.tb_days) (TB_under : TabB base mg T.cda_under T.tb_under) : FnOk P w K mg base CX0 14 T.a_law T.fd_law P_law (spLaw T) := by
  refine T.F_law.ok sc_law (fun vs H Q E h => ?_) (fun cdv A outer s H vs Q E hr h => ?_)
  · obtain ⟨a, ns, rfl, _⟩ := h
    rfl
  · obtain ⟨a, ns, rfl, hl, hT, k⟩ := h
    have nd := sc_law.nd
    refine ⟨_, (pss_cons (ks_setL (i := 1) nd l_law_law_bag_here (pe_call (ok_bag T) (hr.mono (by first | decide | omega)) g_law_law_bag T.m_bag T.k_bag T.b_bag .nil pass0 (pa_cons (kv (i := 0) v_law_law_script) pa_nil)))
      (pss_cons (ks_setL (i := 2) nd l_law_law_kept (pe_lst (pa_cons (pe_tup (pa_cons (pe_tup (pa_cons pe_str (pa_cons pe_int pa_nil))) (pa_cons (pe_make T.mk_Window (ok_Window_init T) (hr.mono (by first | decide | omega)) g_law_Window T.m_Window T.b_Window_init .nil passE (pa_cons pe_int pa_nil)) pa_nil))) (pa_cons (pe_tup (pa_cons (pe_tup (pa_cons pe_str (pa_cons (pe_tup pa_nil) (pa_cons pe_int pa_nil)))) (pa_cons (pe_make T.mk_Days (ok_Days_init T) (hr.mono (by first | decide | omega)) g_law_Days T.m_Days T.b_Days_init .nil passE (pa_cons (pe_tup pa_nil) (pa_cons pe_int pa_nil))) pa_nil))) (pa_cons (pe_tup (pa_cons (pe_tup (pa_cons pe_str (pa_cons (pe_tup (pa_cons pe_int pa_nil)) (pa_cons pe_int pa_nil)))) (pa_cons (pe_make T.mk_Days (ok_Days_init T) (hr.mono (by first | decide | omega)) g_law_Days T.m_Days T.b_Days_init .nil passE (pa_cons (pe_lst (pa_cons pe_int pa_nil)) (pa_cons pe_int pa_nil))) pa_nil))) pa_nil)))))
      (pss_cons (ps_for PassesOwn.never rfl (pi_range1 g_law_range T.n_range (pa_cons pe_int pa_nil)) (kgL (i := 3) nd l_law_law_k) (pss_one (ps_if (PW.pt (pw_or (pt_not (pt_val (pe_call (ok_window T TB_window) (hr.mono (by first | decide | omega)) g_law_law_window T.m_window T.k_window T.b_window .nil pass0 (pa_cons (kv (i := 1) v_law_law_bag_here) (pa_cons (kv (i := 2) v_law_law_kept) pa_nil))))) (pw_or (pt_not (pt_val (pe_call (ok_days T TB_days) (hr.mono (by first | decide | omega)) g_law_law_days T.m_days T.k_days T.b_days .nil pass0 (pa_cons (kv (i := 1) v_law_law_bag_here) (pa_cons (kv (i := 2) v_law_law_kept) pa_nil))))) (pw_or1 (pt_not (pt_val (pe_call (ok_days T TB_days) (hr.mono (by first | decide | omega)) g_law_law_days T.m_days T.k_days T.b_days .nil pass0 (pa_cons (kv (i := 1) v_law_law_bag_here) (pa_cons (kv (i := 2) v_law_law_kept) pa_nil))))))))) (pss_one (ps_ret pe_bl)) pss_nil)))
      (pss_cons (ps_for PassesOwn.never rfl (pi_range1 g_law_range T.n_range (pa_cons pe_int pa_nil)) (kgL (i := 3) nd l_law_law_k) (pss_one (ps_if (pt_not (pt_val (pe_call (ok_under T TB_under) (hr.mono (by first | decide | omega)) g_law_law_under T.m_under T.k_under T.b_under .nil pass0 (pa_cons (kv (i := 1) v_law_law_bag_here) (pa_cons (kv (i := 2) v_law_law_kept) pa_nil))))) (pss_one (ps_ret pe_bl)) pss_nil)))
      (pss_cons (ps_for PassesOwn.never rfl (kpi_list K (kv (i := 2) v_law_law_kept)) (kpg_tup K 2 rfl (pgs_cons (kgL (i := 4) nd l_law_law_plan) (pgs_cons (kgL (i := 5) nd l_law_law_thing) pgs_nil))) (pss_one (ps_if (pt_not (pt_val (pe_call (ok_told_so T) (hr.mono (by first | decide | omega)) g_law_law_told_so T.m_told_so T.k_told_so T.b_told_so .nil pass0 (pa_cons (kv (i := 4) v_law_law_plan) (pa_cons (kv (i := 5) v_law_law_thing) pa_nil))))) (pss_one (ps_ret pe_bl)) pss_nil)))
      (pss_cons (ps_for PassesOwn.never rfl (pi_range1 g_law_range T.n_range (pa_cons pe_int pa_nil)) (kgL (i := 3) nd l_law_law_k) (pss_one (ps_if (pt_not (pt_val (pe_call (ok_equal_so T) (hr.mono (by first | decide | omega)) g_law_law_equal_so T.m_equal_so T.k_equal_so T.b_equal_so .nil pass0 (pa_cons (kv (i := 1) v_law_law_bag_here) (pa_cons (kv (i := 2) v_law_law_kept) pa_nil))))) (pss_one (ps_ret pe_bl)) pss_nil)))
      (pss_one (ps_ret pe_bl)))))))), ?_⟩
    walk_at "ss"
    refine ⟨a, ns, rfl, hl, fun b G β sG hb => ?_⟩
    have hT0 : Tabs (TL_ T) (upd G b β) := hT.ext (sG.trans (up_same hb.nb))
    walk_at "ss"
    intro p1 nt_p1
    rw [upd_swap (up_none nt_p1).2]
    generalize eG_p1 : upd _ p1 _ = G1
    obtain ⟨nb1, s1, hp1, nt_p1, nG_p1⟩ := new_facts hb.nb nt_p1 eG_p1
    clear eG_p1
    have hb1 := hb.up s1 nb1
    walk_at "ss"
    refine k_make ?_
    walk_at "ss"
    intro x1 dx1 nx1 ndx1 ne1
    refine ⟨NoF, x1, dx1, .int 5, rfl, .int 5, upd_same, fun h => (by rw [numV_t (by decide) (by decide)] at h; cases h), fun n e h0 h1 H' sb hr => ⟨rfl, ?_⟩⟩
    cases e
    obtain ⟨G2, rfl, s2, hb2, hr1⟩ := made_rest hb1 nx1 ndx1 ne1 sb hr
    walk_at "ss"
    intro t1 nt_t1
    rw [upd_swap (up_none nt_t1).2]
    generalize eG_t1 : upd _ t1 _ = G3
    obtain ⟨nb3, s3, ht1, nt_t1, nG_t1⟩ := new_facts hb2.nb nt_t1 eG_t1
    clear eG_t1
    walk_at "ss"
    intro e1 nt_e1
    rw [upd_swap (up_none nt_e1).2]
    generalize eG_e1 : upd _ e1 _ = G4
    obtain ⟨nb4, s4, he1, nt_e1, nG_e1⟩ := new_facts nb3 nt_e1 eG_e1
    clear eG_e1
    walk_at "ss"
    intro p2 nt_p2
    rw [upd_swap (up_none nt_p2).2]
    generalize eG_p2 : upd _ p2 _ = G5
    obtain ⟨nb5, s5, hp2, nt_p2, nG_p2⟩ := new_facts nb4 nt_p2 eG_p2
    clear eG_p2
    walk_at "ss"
    refine k_make ?_
    walk_at "ss"
    intro e2 nt_e2
    rw [upd_swap (up_none nt_e2).2]
    generalize eG_e2 : upd _ e2 _ = G6
    obtain ⟨nb6, s6, he2, nt_e2, nG_e2⟩ := new_facts nb5 nt_e2 eG_e2
    clear eG_e2
    have s26 := ((s3.trans s4).trans s5).trans s6
    have hb6 := hb2.up s26 nb6
    walk_at "ss"
    intro x2 dx2 nx2 ndx2 ne2
    have sM2 := same_made (C := T.C_Days) (fs := []) nx2 ndx2 ne2
    have he2M := sM2 _ _ (up_get (β := β) nb6 he2)
    refine ⟨NoF, x2, dx2, .ref e2, .int 5, fun z hz => hz.elim, rfl, upd_same, .tup he2M, .int 5, fun hno => (hno _ _ rfl (.inr he2M)).elim, fun l9 xs9 el hl9 => ?_⟩
    cases el
    have := SqAt.inj (.inr he2M) hl9
    subst this
    refine ⟨by simp, fun y hy => (by cases hy), fun e he => (by cases he), fun hn bs p ex eg hok H' sb hr => ⟨rfl, ?_⟩⟩
    cases eg
    obtain rfl : bs = [] := by
      cases bs with
      | nil => rfl
      | cons y r => cases ex
    obtain ⟨G7, rfl, s7, hb7, hr2⟩ := made_rest hb6 nx2 ndx2 ne2 sb hr
    walk_at "ss"
    intro t2 nt_t2
    rw [upd_swap (up_none nt_t2).2]
    generalize eG_t2 : upd _ t2 _ = G8
    obtain ⟨nb8, s8, ht2, nt_t2, nG_t2⟩ := new_facts hb7.nb nt_t2 eG_t2
    clear eG_t2
    walk_at "ss"
    intro e3 nt_e3
    rw [upd_swap (up_none nt_e3).2]
    generalize eG_e3 : upd _ e3 _ = G9
    obtain ⟨nb9, s9, he3, nt_e3, nG_e3⟩ := new_facts nb8 nt_e3 eG_e3
    clear eG_e3
    walk_at "ss"
    intro p3 nt_p3
    rw [upd_swap (up_none nt_p3).2]
    generalize eG_p3 : upd _ p3 _ = GA
    obtain ⟨nbA, sA, hp3, nt_p3, nG_p3⟩ := new_facts nb9 nt_p3 eG_p3
    clear eG_p3
    walk_at "ss"
    refine k_make ?_
    walk_at "ss"
    intro e4 nt_e4
    rw [upd_swap (up_none nt_e4).2]
    generalize eG_e4 : upd _ e4 _ = GB
    obtain ⟨nbB, sB, he4, nt_e4, nG_e4⟩ := new_facts nbA nt_e4 eG_e4
    clear eG_e4
    have s7B := ((s8.trans s9).trans sA).trans sB
    have hbB := hb7.up s7B nbB
    walk_at "ss"
    intro x3 dx3 nx3 ndx3 ne3
    have sM3 := same_made (C := T.C_Days) (fs := []) nx3 ndx3 ne3
    have he4M := sM3 _ _ (up_get (β := β) nbB he4)
    refine ⟨NoF, x3, dx3, .ref e4, .int 1999, fun z hz => hz.elim, rfl, upd_same, .lst he4M, .int 1999, fun hno => (hno _ _ rfl (.inl he4M)).elim, fun l9 xs9 el hl9 => ?_⟩
    cases el
    have := SqAt.inj (.inl he4M) hl9
    subst this
    refine ⟨by simp, fun y hy => (by rw [List.mem_singleton.mp hy]; exact .int _), fun e he => (by cases he), fun hn bs p ex eg hok3 H' sb hr => ⟨rfl, ?_⟩⟩
    cases eg
    obtain rfl : bs = [3] := by
      match bs, ex with
      | [y], ex => cases ex; rfl
    obtain ⟨GC, rfl, sC, hbC, hr3⟩ := made_rest hbB nx3 ndx3 ne3 sb hr
    walk_at "ss"
    intro t3 nt_t3
    rw [upd_swap (up_none nt_t3).2]
    generalize eG_t3 : upd _ t3 _ = GD
    obtain ⟨nbD, sD, ht3, nt_t3, nG_t3⟩ := new_facts hbC.nb nt_t3 eG_t3
    clear eG_t3
    walk_at "ss"
    intro B nt_B
    rw [upd_swap (up_none nt_B).2]
    generalize eG_B : upd _ B _ = GE
    obtain ⟨nbE, sE, hB, nt_B, nG_B⟩ := new_facts nbD nt_B eG_B
    clear eG_B
    have sCE := sD.trans sE
    have sBE := sC.trans sCE
    have s7E := s7B.trans sBE
    have s2E := (s26.trans s7).trans s7E
    have hbE := hbC.up sCE nbE
    have hTE : Tabs (TL_ T) (upd GE b β) := Tabs.bag hT0 hb ((s1.trans s2).trans s2E) nbE
    have fresh : ∀ {x : Addr} {p : Plan}, RestAt T NoF GD x p → RestAt T (OnlyL B) GE x p := fun h => ((h.fresh nG_B).weak fun a hF => .inr hF).up sE
    have hKE : KeptAt T GE B [(t1, p1, x1, .win 5), (t2, p2, x2, .days [] 5), (t3, p3, x3, .days [3] 1999)] := by
      refine ⟨hB, fun z hz => ?_⟩
      simp only [List.mem_cons, List.not_mem_nil, or_false] at hz
      rcases hz with rfl | rfl | rfl
      · exact ⟨(((s4.trans s5).trans s6).trans (s7.trans s7E)) _ _ ht1, .win ((s2.trans s2E) _ _ hp1), fresh (hr1.up ((s26.trans s7).trans ((s7B.trans sC).trans sD))), by decide, by decide⟩
      · exact ⟨(((s9.trans sA).trans sB).trans sBE) _ _ ht2, .days ((s6.trans (s7.trans s7E)) _ _ hp2) (((s5.trans s6).trans (s7.trans s7E)) _ _ he1), fresh (hr2.up ((s7B.trans sC).trans sD)), trivial, fun y hy => (by cases hy), by decide, by decide, by decide⟩
      · exact ⟨sE _ _ ht3, .days ((sB.trans sBE) _ _ hp3) (((sA.trans sB).trans sBE) _ _ he3), fresh (hr3.up sD), hok3⟩
    walk_at "ss"
    refine k_r1 ⟨by decide, by decide⟩ ?_
    refine k_forRange (n := 3) (fun i σ H' => ∃ (l : KL) (G' : Hp) (β' : HO) (u : Option V), σ = [some (.ref a), some (.ref b), some (.ref B), u, none, none] ∧ H' = upd G' b β' ∧ Bag K G' G' b β' ∧ Tabs (TL_ T) (upd G' b β') ∧ KeptAt T G' B l ∧ l ≠ [] ∧ l.length ≤ 3 + 3 * i)
      ⟨_, GE, β, none, rfl, rfl, hbE.re, hTE, hKE, by simp, by simp⟩ ?_ ?_
    · rintro i σ H' hi ⟨l1, G1, β1, u, rfl, rfl, hb1, hT1, hK1, hn1, hl1⟩
      walk_at "ss"
      refine ⟨G1, b, B, β1, l1, rfl, rfl, hb1, hT1, hK1, hn1, by omega, fun l2 G2 β2 hb2 hT2 hK2 hn2 hl2 => ?_⟩
      walk_at "ss"
      refine ⟨G2, b, B, β2, l2, rfl, rfl, hb2, hT2, hK2, hn2, by omega, fun l3 G3 β3 hb3 hT3 hK3 hn3 hl3 => ?_⟩
      walk_at "ss"
      refine ⟨G3, b, B, β3, l3, rfl, rfl, hb3, hT3, hK3, hn3, by omega, fun l4 G4 β4 hb4 hT4 hK4 hn4 hl4 => ?_⟩
      walk_at "ss"
      exact ⟨l4, G4, β4, _, rfl, rfl, hb4, hT4, hK4, hn4, by omega⟩
    · rintro σ H' ⟨l1, G1, β1, u, rfl, rfl, hb1, hT1, hK1, hn1, hl1⟩
      walk_at "ss"
      refine k_r1 ⟨by decide, by decide⟩ ?_
      refine k_forRange (n := 8) (fun i σ H' => ∃ (l : KL) (G' : Hp) (β' : HO) (u : Option V), σ = [some (.ref a), some (.ref b), some (.ref B), u, none, none] ∧ H' = upd G' b β' ∧ Bag K G' G' b β' ∧ Tabs (TL_ T) (upd G' b β') ∧ KeptAt T G' B l ∧ l ≠ [] ∧ l.length ≤ 12 + i)
        ⟨l1, G1, β1, _, rfl, rfl, hb1, hT1, hK1, hn1, by omega⟩ ?_ ?_
      · rintro i σ H' hi ⟨l1, G1, β1, u, rfl, rfl, hb1, hT1, hK1, hn1, hl1⟩
        walk_at "ss"
        refine ⟨G1, b, B, β1, l1, rfl, rfl, hb1, hT1, hK1, hn1, by omega, fun l2 G2 β2 hb2 hT2 hK2 hn2 hl2 => ?_⟩
        walk_at "ss"
        exact ⟨l2, G2, β2, _, rfl, rfl, hb2, hT2, hK2, hn2, by omega⟩
      · rintro σ H' ⟨l2, G2, β2, u, rfl, rfl, hb2, hT2, hK2, hn2, hl2⟩
        have hBu := up_get (β := β2) hb2.nb hK2.at_
        walk_at "ss"
        refine k_iL (SqL.of hBu) ?_
        refine k_forList (rfK l2) (fun i σ H' => ∃ (G' : Hp) (v4 v5 : Option V), σ = [some (.ref a), some (.ref b), some (.ref B), u, v4, v5] ∧ H' = upd G' b β2 ∧ Same G2 G' ∧ G' b = none) ⟨G2, none, none, rfl, rfl, Same.refl _, hb2.nb⟩ ?_ ?_ ?_
        · rintro i σ H' _ ⟨G', v4, v5, rfl, rfl, s, nb⟩
          exact SqL.of (up_get nb (s _ _ hK2.at_))
        · rintro i x σ H' hx ⟨G', v4, v5, rfl, rfl, s, nb⟩
          obtain ⟨⟨tz, az, rz, pz⟩, hz, rfl⟩ := List.mem_map.mp (List.mem_of_getElem? hx)
          obtain ⟨h1, h2, h3, h4⟩ := hK2.prs _ hz
          dsimp only at h1 h2 h3 h4
          have sU := s.trans (up_same (β := β2) nb)
          refine k_gTup (SqT.of (sU _ _ h1)) rfl ?_
          walk_at "ss"
          refine ⟨OnlyL B, az, rz, pz, rfl, h2.up sU, h3.up sU, h4, fun H5 s5 => ?_⟩
          obtain ⟨G5, nb5, s05, rfl⟩ := split_up nb s5
          walk_at "ss"
          exact ⟨G5, _, _, rfl, rfl, s.trans s05, nb5⟩
        · rintro σ H' ⟨G', v4, v5, rfl, rfl, s, nb⟩
          have hb3 := hb2.up s nb
          have hK3 := hK2.up s
          walk_at "ss"
          refine k_r1 ⟨by decide, by decide⟩ ?_
          refine k_forRange (n := 8) (fun i σ H' => ∃ (G4 : Hp) (β' : HO) (u : Option V), σ = [some (.ref a), some (.ref b), some (.ref B), u, v4, v5] ∧ H' = upd G4 b β' ∧ Same G' G4 ∧ Bag K G2 G4 b β') ⟨G', β2, _, rfl, rfl, Same.refl _, hb3⟩ ?_ ?_
          · rintro i σ H' hi ⟨G4, β4, u, rfl, rfl, s4, hb4⟩
            walk_at "ss"
            refine ⟨G2, G4, b, B, β4, l2, rfl, rfl, hb4, hK3.up s4, hn2, by omega, fun G5 β5 s5 hb5 => ?_⟩
            walk_at "ss"
            exact ⟨G5, β5, _, rfl, rfl, s4.trans s5, hb5⟩
          · rintro σ H' ⟨G4, β4, u, rfl, rfl, s4, hb4⟩
            walk_at "ss"
            exact k _
end

set_option maxHeartbeats 0 in
def tx_mk {K : PySem.W.Frag} {h : Heap} {mg : Str → Option Value} (X : K.In h) (G : h.Ns mainGlobals mg) {C_SureletError : Addr} {C_InvalidNumber : Addr} {C_InvalidBorders : Addr} {C_InvalidRest : Addr} {C_TooMany : Addr} {C_Rest : Addr} {C_Window : Addr} {C_Days : Addr} {C_Later : Addr} {C_Sooner : Addr} {C_Next : Addr} {A_InvalidNumber_init : Addr} {oc_InvalidNumber_init kV_InvalidNumber_init doc_InvalidNumber_init pm_InvalidNumber_init ct_InvalidNumber_init : Value} {od_InvalidNumber_init an_InvalidNumber_init : Option Addr} {sl_InvalidNumber_init : Array (Option Value)} {cc_InvalidNumber_init cda_InvalidNumber_init : Addr} {cl_InvalidNumber_init ccl_InvalidNumber_init : Value} {cld_InvalidNumber_init cdd_InvalidNumber_init : Option Addr} {csl_InvalidNumber_init ccs_InvalidNumber_init : Array (Option Value)} {vs_InvalidNumber_init : Array Value} {file_InvalidNumber_init : Str} {tf_InvalidNumber_init : Tok} {cd_InvalidNumber_init : PySem.ClassData} {A_InvalidBorders_init : Addr} {oc_InvalidBorders_init kV_InvalidBorders_init doc_InvalidBorders_init pm_InvalidBorders_init ct_InvalidBorders_init : Value} {od_InvalidBorders_init an_InvalidBorders_init : Option Addr} {sl_InvalidBorders_init : Array (Option Value)} {cc_InvalidBorders_init cda_InvalidBorders_init : Addr} {cl_InvalidBorders_init ccl_InvalidBorders_init : Value} {cld_InvalidBorders_init cdd_InvalidBorders_init : Option Addr} {csl_InvalidBorders_init ccs_InvalidBorders_init : Array (Option Value)} {vs_InvalidBorders_init : Array Value} {file_InvalidBorders_init : Str} {tf_InvalidBorders_init : Tok} {cd_InvalidBorders_init : PySem.ClassData} {A_InvalidRest_init : Addr} {oc_InvalidRest_init kV_InvalidRest_init doc_InvalidRest_init pm_InvalidRest_init ct_InvalidRest_init : Value} {od_InvalidRest_init an_InvalidRest_init : Option Addr} {sl_InvalidRest_init : Array (Option Value)} {cc_InvalidRest_init cda_InvalidRest_init : Addr} {cl_InvalidRest_init ccl_InvalidRest_init : Value} {cld_InvalidRest_init cdd_InvalidRest_init : Option Addr} {csl_InvalidRest_init ccs_InvalidRest_init : Array (Option Value)} {vs_InvalidRest_init : Array Value} {file_InvalidRest_init : Str} {tf_InvalidRest_init : Tok} {cd_InvalidRest_init : PySem.ClassData} {A_TooMany_init : Addr} {oc_TooMany_init kV_TooMany_init doc_TooMany_init pm_TooMany_init ct_TooMany_init : Value} {od_TooMany_init an_TooMany_init : Option Addr} {sl_TooMany_init : Array (Option Value)} {cc_TooMany_init cda_TooMany_init : Addr} {cl_TooMany_init ccl_TooMany_init : Value} {cld_TooMany_init cdd_TooMany_init : Option Addr} {csl_TooMany_init ccs_TooMany_init : Array (Option Value)} {vs_TooMany_init : Array Value} {file_TooMany_init : Str} {tf_TooMany_init : Tok} {cd_TooMany_init : PySem.ClassData} {A_is_number : Addr} {oc_is_number kV_is_number doc_is_number pm_is_number ct_is_number : Value} {od_is_number an_is_number : Option Addr} {sl_is_number : Array (Option Value)} {cdv_is_number : Value} {A_Rest_init : Addr} {oc_Rest_init kV_Rest_init doc_Rest_init pm_Rest_init ct_Rest_init : Value} {od_Rest_init an_Rest_init : Option Addr} {sl_Rest_init : Array (Option Value)} {cdv_Rest_init : Value} {A_Rest_forms : Addr} {oc_Rest_forms kV_Rest_forms doc_Rest_forms pm_Rest_forms ct_Rest_forms : Value} {od_Rest_forms an_Rest_forms : Option Addr} {sl_Rest_forms : Array (Option Value)} {cdv_Rest_forms : Value} {A_Rest_period : Addr} {oc_Rest_period kV_Rest_period doc_Rest_period pm_Rest_period ct_Rest_period : Value} {od_Rest_period an_Rest_period : Option Addr} {sl_Rest_period : Array (Option Value)} {cdv_Rest_period : Value} {A_Rest_bend : Addr} {oc_Rest_bend kV_Rest_bend doc_Rest_bend pm_Rest_bend ct_Rest_bend : Value} {od_Rest_bend an_Rest_bend : Option Addr} {sl_Rest_bend : Array (Option Value)} {cdv_Rest_bend : Value} {A_Rest_written : Addr} {oc_Rest_written kV_Rest_written doc_Rest_written pm_Rest_written ct_Rest_written : Value} {od_Rest_written an_Rest_written : Option Addr} {sl_Rest_written : Array (Option Value)} {cdv_Rest_written : Value} {A_Rest_str : Addr} {oc_Rest_str kV_Rest_str doc_Rest_str pm_Rest_str ct_Rest_str : Value} {od_Rest_str an_Rest_str : Option Addr} {sl_Rest_str : Array (Option Value)} {cdv_Rest_str : Value} {A_Rest_repr : Addr} {oc_Rest_repr kV_Rest_repr doc_Rest_repr pm_Rest_repr ct_Rest_repr : Value} {od_Rest_repr an_Rest_repr : Option Addr} {sl_Rest_repr : Array (Option Value)} {cdv_Rest_repr : Value} {A_Rest_eq : Addr} {oc_Rest_eq kV_Rest_eq doc_Rest_eq pm_Rest_eq ct_Rest_eq : Value} {od_Rest_eq an_Rest_eq : Option Addr} {sl_Rest_eq : Array (Option Value)} {cdv_Rest_eq : Value} {A_Window_init : Addr} {oc_Window_init kV_Window_init doc_Window_init pm_Window_init ct_Window_init : Value} {od_Window_init an_Window_init : Option Addr} {sl_Window_init : Array (Option Value)} {cc_Window_init cda_Window_init : Addr} {cl_Window_init ccl_Window_init : Value} {cld_Window_init cdd_Window_init : Option Addr} {csl_Window_init ccs_Window_init : Array (Option Value)} {vs_Window_init : Array Value} {file_Window_init : Str} {tf_Window_init : Tok} {cd_Window_init : PySem.ClassData} {A_Days_init : Addr} {oc_Days_init kV_Days_init doc_Days_init pm_Days_init ct_Days_init : Value} {od_Days_init an_Days_init : Option Addr} {sl_Days_init : Array (Option Value)} {cc_Days_init cda_Days_init : Addr} {cl_Days_init ccl_Days_init : Value} {cld_Days_init cdd_Days_init : Option Addr} {csl_Days_init ccs_Days_init : Array (Option Value)} {vs_Days_init : Array Value} {file_Days_init : Str} {tf_Days_init : Tok} {cd_Days_init : PySem.ClassData} {A_Days_borders : Addr} {oc_Days_borders kV_Days_borders doc_Days_borders pm_Days_borders ct_Days_borders : Value} {od_Days_borders an_Days_borders : Option Addr} {sl_Days_borders : Array (Option Value)} {cdv_Days_borders : Value} {A_joined : Addr} {oc_joined kV_joined doc_joined pm_joined ct_joined : Value} {od_joined an_joined : Option Addr} {sl_joined : Array (Option Value)} {cdv_joined : Value} {A_Later_init : Addr} {oc_Later_init kV_Later_init doc_Later_init pm_Later_init ct_Later_init : Value} {od_Later_init an_Later_init : Option Addr} {sl_Later_init : Array (Option Value)} {cc_Later_init cda_Later_init : Addr} {cl_Later_init ccl_Later_init : Value} {cld_Later_init cdd_Later_init : Option Addr} {csl_Later_init ccs_Later_init : Array (Option Value)} {vs_Later_init : Array Value} {file_Later_init : Str} {tf_Later_init : Tok} {cd_Later_init : PySem.ClassData} {A_Sooner_init : Addr} {oc_Sooner_init kV_Sooner_init doc_Sooner_init pm_Sooner_init ct_Sooner_init : Value} {od_Sooner_init an_Sooner_init : Option Addr} {sl_Sooner_init : Array (Option Value)} {cc_Sooner_init cda_Sooner_init : Addr} {cl_Sooner_init ccl_Sooner_init : Value} {cld_Sooner_init cdd_Sooner_init : Option Addr} {csl_Sooner_init ccs_Sooner_init : Array (Option Value)} {vs_Sooner_init : Array Value} {file_Sooner_init : Str} {tf_Sooner_init : Tok} {cd_Sooner_init : PySem.ClassData} {A_Next_init : Addr} {oc_Next_init kV_Next_init doc_Next_init pm_Next_init ct_Next_init : Value} {od_Next_init an_Next_init : Option Addr} {sl_Next_init : Array (Option Value)} {cc_Next_init cda_Next_init : Addr} {cl_Next_init ccl_Next_init : Value} {cld_Next_init cdd_Next_init : Option Addr} {csl_Next_init ccs_Next_init : Array (Option Value)} {vs_Next_init : Array Value} {file_Next_init : Str} {tf_Next_init : Tok} {cd_Next_init : PySem.ClassData} {A_bag : Addr} {oc_bag kV_bag doc_bag pm_bag ct_bag : Value} {od_bag an_bag : Option Addr} {sl_bag : Array (Option Value)} {cdv_bag : Value} {A_draw : Addr} {oc_draw kV_draw doc_draw pm_draw ct_draw : Value} {od_draw an_draw : Option Addr} {sl_draw : Array (Option Value)} {cdv_draw : Value} {A_of : Addr} {oc_of kV_of doc_of pm_of ct_of : Value} {od_of an_of : Option Addr} {sl_of : Array (Option Value)} {cdv_of : Value} {A_like : Addr} {oc_like kV_like doc_like pm_like ct_like : Value} {od_like an_like : Option Addr} {sl_like : Array (Option Value)} {cdv_like : Value} {A_odd : Addr} {oc_odd kV_odd doc_odd pm_odd ct_odd : Value} {od_odd an_odd : Option Addr} {sl_odd : Array (Option Value)} {cdv_odd : Value} {A_llcm : Addr} {oc_llcm kV_llcm doc_llcm pm_llcm ct_llcm : Value} {od_llcm an_llcm : Option Addr} {sl_llcm : Array (Option Value)} {cdv_llcm : Value} {A_text : Addr} {oc_text kV_text doc_text pm_text ct_text : Value} {od_text an_text : Option Addr} {sl_text : Array (Option Value)} {cdv_text : Value} {A_facts : Addr} {oc_facts kV_facts doc_facts pm_facts ct_facts : Value} {od_facts an_facts : Option Addr} {sl_facts : Array (Option Value)} {cdv_facts : Value} {A_ask : Addr} {oc_ask kV_ask doc_ask pm_ask ct_ask : Value} {od_ask an_ask : Option Addr} {sl_ask : Array (Option Value)} {cdv_ask : Value} {A_in : Addr} {oc_in kV_in doc_in pm_in ct_in : Value} {od_in an_in : Option Addr} {sl_in : Array (Option Value)} {cdv_in : Value} {A_number : Addr} {oc_number kV_number doc_number pm_number ct_number : Value} {od_number an_number : Option Addr} {sl_number : Array (Option Value)} {cdv_number : Value} {A_borders : Addr} {oc_borders kV_borders doc_borders pm_borders ct_borders : Value} {od_borders an_borders : Option Addr} {sl_borders : Array (Option Value)} {cdv_borders : Value} {A_days_due : Addr} {oc_days_due kV_days_due doc_days_due pm_days_due ct_days_due : Value} {od_days_due an_days_due : Option Addr} {sl_days_due : Array (Option Value)} {cdv_days_due : Value} {A_window : Addr} {oc_window kV_window doc_window pm_window ct_window : Value} {od_window an_window : Option Addr} {sl_window : Array (Option Value)} {cda_window tb_window : Addr} {tcl_window : Value} {tcd_window : Option Addr} {tvs_window : Array Value} {tsl_window : Array (Option Value)} {A_days : Addr} {oc_days kV_days doc_days pm_days ct_days : Value} {od_days an_days : Option Addr} {sl_days : Array (Option Value)} {cda_days tb_days : Addr} {tcl_days : Value} {tcd_days : Option Addr} {tvs_days : Array Value} {tsl_days : Array (Option Value)} {A_pair : Addr} {oc_pair kV_pair doc_pair pm_pair ct_pair : Value} {od_pair an_pair : Option Addr} {sl_pair : Array (Option Value)} {cdv_pair : Value} {A_pair_due : Addr} {oc_pair_due kV_pair_due doc_pair_due pm_pair_due ct_pair_due : Value} {od_pair_due an_pair_due : Option Addr} {sl_pair_due : Array (Option Value)} {cdv_pair_due : Value} {A_class_so : Addr} {oc_class_so kV_class_so doc_class_so pm_class_so ct_class_so : Value} {od_class_so an_class_so : Option Addr} {sl_class_so : Array (Option Value)} {cdv_class_so : Value} {A_under : Addr} {oc_under kV_under doc_under pm_under ct_under : Value} {od_under an_under : Option Addr} {sl_under : Array (Option Value)} {cda_under tb_under : Addr} {tcl_under : Value} {tcd_under : Option Addr} {tvs_under : Array Value} {tsl_under : Array (Option Value)} {A_told_so : Addr} {oc_told_so kV_told_so doc_told_so pm_told_so ct_told_so : Value} {od_told_so an_told_so : Option Addr} {sl_told_so : Array (Option Value)} {cdv_told_so : Value} {A_equal_so : Addr} {oc_equal_so kV_equal_so doc_equal_so pm_equal_so ct_equal_so : Value} {od_equal_so an_equal_so : Option Addr} {sl_equal_so : Array (Option Value)} {cdv_equal_so : Value} {A_law : Addr} {oc_law kV_law doc_law pm_law ct_law : Value} {od_law an_law : Option Addr} {sl_law : Array (Option Value)} {cdv_law : Value} {t_BORDERS : Tok} {t_FORMS : Tok} {t_PERIOD : Tok} {nm_InvalidNumber q_InvalidNumber : Str} {N_InvalidNumber : Addr} {bs_InvalidNumber : List Value} {sn_InvalidNumber : List Str} {sb_InvalidNumber : List Value} {ab_InvalidNumber : Bool} {co_InvalidNumber : Option Bool} {dd_InvalidNumber : Option Addr} {e0_InvalidNumber e1_InvalidNumber e2_InvalidNumber e3_InvalidNumber e5_InvalidNumber : Option Value} {nm_InvalidBorders q_InvalidBorders : Str} {N_InvalidBorders : Addr} {bs_InvalidBorders : List Value} {sn_InvalidBorders : List Str} {sb_InvalidBorders : List Value} {ab_InvalidBorders : Bool} {co_InvalidBorders : Option Bool} {dd_InvalidBorders : Option Addr} {e0_InvalidBorders e1_InvalidBorders e2_InvalidBorders e3_InvalidBorders e5_InvalidBorders : Option Value} {nm_InvalidRest q_InvalidRest : Str} {N_InvalidRest : Addr} {bs_InvalidRest : List Value} {sn_InvalidRest : List Str} {sb_InvalidRest : List Value} {ab_InvalidRest : Bool} {co_InvalidRest : Option Bool} {dd_InvalidRest : Option Addr} {e0_InvalidRest e1_InvalidRest e2_InvalidRest e3_InvalidRest e5_InvalidRest : Option Value} {nm_TooMany q_TooMany : Str} {N_TooMany : Addr} {bs_TooMany : List Value} {sn_TooMany : List Str} {sb_TooMany : List Value} {ab_TooMany : Bool} {co_TooMany : Option Bool} {dd_TooMany : Option Addr} {e0_TooMany e1_TooMany e2_TooMany e3_TooMany e5_TooMany : Option Value}
    (aC_SureletError : PySem.W.nsIn K mainGlobals "SureletError" = some (some (.ref C_SureletError))) (aC_InvalidNumber : PySem.W.nsIn K mainGlobals "InvalidNumber" = some (some (.ref C_InvalidNumber))) (aC_InvalidBorders : PySem.W.nsIn K mainGlobals "InvalidBorders" = some (some (.ref C_InvalidBorders))) (aC_InvalidRest : PySem.W.nsIn K mainGlobals "InvalidRest" = some (some (.ref C_InvalidRest))) (aC_TooMany : PySem.W.nsIn K mainGlobals "TooMany" = some (some (.ref C_TooMany))) (aC_Rest : PySem.W.nsIn K mainGlobals "Rest" = some (some (.ref C_Rest))) (aC_Window : PySem.W.nsIn K mainGlobals "Window" = some (some (.ref C_Window))) (aC_Days : PySem.W.nsIn K mainGlobals "Days" = some (some (.ref C_Days))) (aC_Later : PySem.W.nsIn K mainGlobals "Later" = some (some (.ref C_Later))) (aC_Sooner : PySem.W.nsIn K mainGlobals "Sooner" = some (some (.ref C_Sooner))) (aC_Next : PySem.W.nsIn K mainGlobals "Next" = some (some (.ref C_Next))) (a_InvalidNumber_init : PySem.W.findIn K (.ref C_InvalidNumber) "__init__" = some (some (.ref A_InvalidNumber_init))) (i_InvalidNumber_init : PySem.W.isFn K (.ref A_InvalidNumber_init) = true) (l_InvalidNumber_init : K.lookup A_InvalidNumber_init = some ⟨oc_InvalidNumber_init, od_InvalidNumber_init, .func (PySem.W.fnX "__init__" "InvalidNumber.__init__" (defArgs s_InvalidNumber_init) (defBody s_InvalidNumber_init) (defScope s_InvalidNumber_init) [("__class__", cc_InvalidNumber_init)] .none kV_InvalidNumber_init doc_InvalidNumber_init pm_InvalidNumber_init an_InvalidNumber_init (.ref cda_InvalidNumber_init) ct_InvalidNumber_init), sl_InvalidNumber_init⟩) (c_InvalidNumber_init : PySem.W.codeIn K (.ref cda_InvalidNumber_init) "InvalidNumber.__init__" = true) (k_InvalidNumber_init : PySem.W.keepIn K (.ref A_InvalidNumber_init) = true) (cell_InvalidNumber_init : K.lookup cc_InvalidNumber_init = some ⟨cl_InvalidNumber_init, cld_InvalidNumber_init, .cell (some (.ref C_InvalidNumber)), csl_InvalidNumber_init⟩) (code_InvalidNumber_init : K.lookup cda_InvalidNumber_init = some ⟨ccl_InvalidNumber_init, cdd_InvalidNumber_init, .fields vs_InvalidNumber_init, ccs_InvalidNumber_init⟩) (vs_InvalidNumber_init : vs_InvalidNumber_init[2]? = some (.str file_InvalidNumber_init tf_InvalidNumber_init)) (fl_InvalidNumber_init : ((P.main.file : Str) == file_InvalidNumber_init) = true) (cd_InvalidNumber_init : PySem.W.clsIn K C_InvalidNumber = some cd_InvalidNumber_init) (a_InvalidBorders_init : PySem.W.findIn K (.ref C_InvalidBorders) "__init__" = some (some (.ref A_InvalidBorders_init))) (i_InvalidBorders_init : PySem.W.isFn K (.ref A_InvalidBorders_init) = true) (l_InvalidBorders_init : K.lookup A_InvalidBorders_init = some ⟨oc_InvalidBorders_init, od_InvalidBorders_init, .func (PySem.W.fnX "__init__" "InvalidBorders.__init__" (defArgs s_InvalidBorders_init) (defBody s_InvalidBorders_init) (defScope s_InvalidBorders_init) [("__class__", cc_InvalidBorders_init)] .none kV_InvalidBorders_init doc_InvalidBorders_init pm_InvalidBorders_init an_InvalidBorders_init (.ref cda_InvalidBorders_init) ct_InvalidBorders_init), sl_InvalidBorders_init⟩) (c_InvalidBorders_init : PySem.W.codeIn K (.ref cda_InvalidBorders_init) "InvalidBorders.__init__" = true) (k_InvalidBorders_init : PySem.W.keepIn K (.ref A_InvalidBorders_init) = true) (cell_InvalidBorders_init : K.lookup cc_InvalidBorders_init = some ⟨cl_InvalidBorders_init, cld_InvalidBorders_init, .cell (some (.ref C_InvalidBorders)), csl_InvalidBorders_init⟩) (code_InvalidBorders_init : K.lookup cda_InvalidBorders_init = some ⟨ccl_InvalidBorders_init, cdd_InvalidBorders_init, .fields vs_InvalidBorders_init, ccs_InvalidBorders_init⟩) (vs_InvalidBorders_init : vs_InvalidBorders_init[2]? = some (.str file_InvalidBorders_init tf_InvalidBorders_init)) (fl_InvalidBorders_init : ((P.main.file : Str) == file_InvalidBorders_init) = true) (cd_InvalidBorders_init : PySem.W.clsIn K C_InvalidBorders = some cd_InvalidBorders_init) (a_InvalidRest_init : PySem.W.findIn K (.ref C_InvalidRest) "__init__" = some (some (.ref A_InvalidRest_init))) (i_InvalidRest_init : PySem.W.isFn K (.ref A_InvalidRest_init) = true) (l_InvalidRest_init : K.lookup A_InvalidRest_init = some ⟨oc_InvalidRest_init, od_InvalidRest_init, .func (PySem.W.fnX "__init__" "InvalidRest.__init__" (defArgs s_InvalidRest_init) (defBody s_InvalidRest_init) (defScope s_InvalidRest_init) [("__class__", cc_InvalidRest_init)] .none kV_InvalidRest_init doc_InvalidRest_init pm_InvalidRest_init an_InvalidRest_init (.ref cda_InvalidRest_init) ct_InvalidRest_init), sl_InvalidRest_init⟩) (c_InvalidRest_init : PySem.W.codeIn K (.ref cda_InvalidRest_init) "InvalidRest.__init__" = true) (k_InvalidRest_init : PySem.W.keepIn K (.ref A_InvalidRest_init) = true) (cell_InvalidRest_init : K.lookup cc_InvalidRest_init = some ⟨cl_InvalidRest_init, cld_InvalidRest_init, .cell (some (.ref C_InvalidRest)), csl_InvalidRest_init⟩) (code_InvalidRest_init : K.lookup cda_InvalidRest_init = some ⟨ccl_InvalidRest_init, cdd_InvalidRest_init, .fields vs_InvalidRest_init, ccs_InvalidRest_init⟩) (vs_InvalidRest_init : vs_InvalidRest_init[2]? = some (.str file_InvalidRest_init tf_InvalidRest_init)) (fl_InvalidRest_init : ((P.main.file : Str) == file_InvalidRest_init) = true) (cd_InvalidRest_init : PySem.W.clsIn K C_InvalidRest = some cd_InvalidRest_init) (a_TooMany_init : PySem.W.findIn K (.ref C_TooMany) "__init__" = some (some (.ref A_TooMany_init))) (i_TooMany_init : PySem.W.isFn K (.ref A_TooMany_init) = true) (l_TooMany_init : K.lookup A_TooMany_init = some ⟨oc_TooMany_init, od_TooMany_init, .func (PySem.W.fnX "__init__" "TooMany.__init__" (defArgs s_TooMany_init) (defBody s_TooMany_init) (defScope s_TooMany_init) [("__class__", cc_TooMany_init)] .none kV_TooMany_init doc_TooMany_init pm_TooMany_init an_TooMany_init (.ref cda_TooMany_init) ct_TooMany_init), sl_TooMany_init⟩) (c_TooMany_init : PySem.W.codeIn K (.ref cda_TooMany_init) "TooMany.__init__" = true) (k_TooMany_init : PySem.W.keepIn K (.ref A_TooMany_init) = true) (cell_TooMany_init : K.lookup cc_TooMany_init = some ⟨cl_TooMany_init, cld_TooMany_init, .cell (some (.ref C_TooMany)), csl_TooMany_init⟩) (code_TooMany_init : K.lookup cda_TooMany_init = some ⟨ccl_TooMany_init, cdd_TooMany_init, .fields vs_TooMany_init, ccs_TooMany_init⟩) (vs_TooMany_init : vs_TooMany_init[2]? = some (.str file_TooMany_init tf_TooMany_init)) (fl_TooMany_init : ((P.main.file : Str) == file_TooMany_init) = true) (cd_TooMany_init : PySem.W.clsIn K C_TooMany = some cd_TooMany_init) (a_is_number : PySem.W.nsIn K mainGlobals "is_number" = some (some (.ref A_is_number))) (l_is_number : K.lookup A_is_number = some ⟨oc_is_number, od_is_number, .func (PySem.W.fnOf "is_number" "is_number" (defArgs s_is_number) (defBody s_is_number) (defScope s_is_number) .none kV_is_number doc_is_number pm_is_number an_is_number cdv_is_number ct_is_number), sl_is_number⟩) (c_is_number : PySem.W.codeIn K cdv_is_number "is_number" = true) (k_is_number : PySem.W.keepIn K (.ref A_is_number) = true) (a_Rest_init : PySem.W.findIn K (.ref C_Rest) "__init__" = some (some (.ref A_Rest_init))) (i_Rest_init : PySem.W.isFn K (.ref A_Rest_init) = true) (l_Rest_init : K.lookup A_Rest_init = some ⟨oc_Rest_init, od_Rest_init, .func (PySem.W.fnOf "__init__" "Rest.__init__" (defArgs s_Rest_init) (defBody s_Rest_init) (defScope s_Rest_init) .none kV_Rest_init doc_Rest_init pm_Rest_init an_Rest_init cdv_Rest_init ct_Rest_init), sl_Rest_init⟩) (c_Rest_init : PySem.W.codeIn K cdv_Rest_init "Rest.__init__" = true) (k_Rest_init : PySem.W.keepIn K (.ref A_Rest_init) = true) (a_Rest_forms : PySem.W.findIn K (.ref C_Rest) "forms" = some (some (.ref A_Rest_forms))) (i_Rest_forms : PySem.W.isFn K (.ref A_Rest_forms) = true) (l_Rest_forms : K.lookup A_Rest_forms = some ⟨oc_Rest_forms, od_Rest_forms, .func (PySem.W.fnOf "forms" "Rest.forms" (defArgs s_Rest_forms) (defBody s_Rest_forms) (defScope s_Rest_forms) .none kV_Rest_forms doc_Rest_forms pm_Rest_forms an_Rest_forms cdv_Rest_forms ct_Rest_forms), sl_Rest_forms⟩) (c_Rest_forms : PySem.W.codeIn K cdv_Rest_forms "Rest.forms" = true) (k_Rest_forms : PySem.W.keepIn K (.ref A_Rest_forms) = true) (a_Rest_period : PySem.W.findIn K (.ref C_Rest) "period" = some (some (.ref A_Rest_period))) (i_Rest_period : PySem.W.isFn K (.ref A_Rest_period) = true) (l_Rest_period : K.lookup A_Rest_period = some ⟨oc_Rest_period, od_Rest_period, .func (PySem.W.fnOf "period" "Rest.period" (defArgs s_Rest_period) (defBody s_Rest_period) (defScope s_Rest_period) .none kV_Rest_period doc_Rest_period pm_Rest_period an_Rest_period cdv_Rest_period ct_Rest_period), sl_Rest_period⟩) (c_Rest_period : PySem.W.codeIn K cdv_Rest_period "Rest.period" = true) (k_Rest_period : PySem.W.keepIn K (.ref A_Rest_period) = true) (a_Rest_bend : PySem.W.findIn K (.ref C_Rest) "bend" = some (some (.ref A_Rest_bend))) (i_Rest_bend : PySem.W.isFn K (.ref A_Rest_bend) = true) (l_Rest_bend : K.lookup A_Rest_bend = some ⟨oc_Rest_bend, od_Rest_bend, .func (PySem.W.fnOf "bend" "Rest.bend" (defArgs s_Rest_bend) (defBody s_Rest_bend) (defScope s_Rest_bend) .none kV_Rest_bend doc_Rest_bend pm_Rest_bend an_Rest_bend cdv_Rest_bend ct_Rest_bend), sl_Rest_bend⟩) (c_Rest_bend : PySem.W.codeIn K cdv_Rest_bend "Rest.bend" = true) (k_Rest_bend : PySem.W.keepIn K (.ref A_Rest_bend) = true) (a_Rest_written : PySem.W.findIn K (.ref C_Rest) "written" = some (some (.ref A_Rest_written))) (i_Rest_written : PySem.W.isFn K (.ref A_Rest_written) = true) (l_Rest_written : K.lookup A_Rest_written = some ⟨oc_Rest_written, od_Rest_written, .func (PySem.W.fnOf "written" "Rest.written" (defArgs s_Rest_written) (defBody s_Rest_written) (defScope s_Rest_written) .none kV_Rest_written doc_Rest_written pm_Rest_written an_Rest_written cdv_Rest_written ct_Rest_written), sl_Rest_written⟩) (c_Rest_written : PySem.W.codeIn K cdv_Rest_written "Rest.written" = true) (k_Rest_written : PySem.W.keepIn K (.ref A_Rest_written) = true) (a_Rest_str : PySem.W.findIn K (.ref C_Rest) "__str__" = some (some (.ref A_Rest_str))) (i_Rest_str : PySem.W.isFn K (.ref A_Rest_str) = true) (l_Rest_str : K.lookup A_Rest_str = some ⟨oc_Rest_str, od_Rest_str, .func (PySem.W.fnOf "__str__" "Rest.__str__" (defArgs s_Rest_str) (defBody s_Rest_str) (defScope s_Rest_str) .none kV_Rest_str doc_Rest_str pm_Rest_str an_Rest_str cdv_Rest_str ct_Rest_str), sl_Rest_str⟩) (c_Rest_str : PySem.W.codeIn K cdv_Rest_str "Rest.__str__" = true) (k_Rest_str : PySem.W.keepIn K (.ref A_Rest_str) = true) (a_Rest_repr : PySem.W.findIn K (.ref C_Rest) "__repr__" = some (some (.ref A_Rest_repr))) (i_Rest_repr : PySem.W.isFn K (.ref A_Rest_repr) = true) (l_Rest_repr : K.lookup A_Rest_repr = some ⟨oc_Rest_repr, od_Rest_repr, .func (PySem.W.fnOf "__repr__" "Rest.__repr__" (defArgs s_Rest_repr) (defBody s_Rest_repr) (defScope s_Rest_repr) .none kV_Rest_repr doc_Rest_repr pm_Rest_repr an_Rest_repr cdv_Rest_repr ct_Rest_repr), sl_Rest_repr⟩) (c_Rest_repr : PySem.W.codeIn K cdv_Rest_repr "Rest.__repr__" = true) (k_Rest_repr : PySem.W.keepIn K (.ref A_Rest_repr) = true) (a_Rest_eq : PySem.W.findIn K (.ref C_Rest) "__eq__" = some (some (.ref A_Rest_eq))) (i_Rest_eq : PySem.W.isFn K (.ref A_Rest_eq) = true) (l_Rest_eq : K.lookup A_Rest_eq = some ⟨oc_Rest_eq, od_Rest_eq, .func (PySem.W.fnOf "__eq__" "Rest.__eq__" (defArgs s_Rest_eq) (defBody s_Rest_eq) (defScope s_Rest_eq) .none kV_Rest_eq doc_Rest_eq pm_Rest_eq an_Rest_eq cdv_Rest_eq ct_Rest_eq), sl_Rest_eq⟩) (c_Rest_eq : PySem.W.codeIn K cdv_Rest_eq "Rest.__eq__" = true) (k_Rest_eq : PySem.W.keepIn K (.ref A_Rest_eq) = true) (a_Window_init : PySem.W.findIn K (.ref C_Window) "__init__" = some (some (.ref A_Window_init))) (i_Window_init : PySem.W.isFn K (.ref A_Window_init) = true) (l_Window_init : K.lookup A_Window_init = some ⟨oc_Window_init, od_Window_init, .func (PySem.W.fnX "__init__" "Window.__init__" (defArgs s_Window_init) (defBody s_Window_init) (defScope s_Window_init) [("__class__", cc_Window_init)] .none kV_Window_init doc_Window_init pm_Window_init an_Window_init (.ref cda_Window_init) ct_Window_init), sl_Window_init⟩) (c_Window_init : PySem.W.codeIn K (.ref cda_Window_init) "Window.__init__" = true) (k_Window_init : PySem.W.keepIn K (.ref A_Window_init) = true) (cell_Window_init : K.lookup cc_Window_init = some ⟨cl_Window_init, cld_Window_init, .cell (some (.ref C_Window)), csl_Window_init⟩) (code_Window_init : K.lookup cda_Window_init = some ⟨ccl_Window_init, cdd_Window_init, .fields vs_Window_init, ccs_Window_init⟩) (vs_Window_init : vs_Window_init[2]? = some (.str file_Window_init tf_Window_init)) (fl_Window_init : ((P.main.file : Str) == file_Window_init) = true) (cd_Window_init : PySem.W.clsIn K C_Window = some cd_Window_init) (a_Days_init : PySem.W.findIn K (.ref C_Days) "__init__" = some (some (.ref A_Days_init))) (i_Days_init : PySem.W.isFn K (.ref A_Days_init) = true) (l_Days_init : K.lookup A_Days_init = some ⟨oc_Days_init, od_Days_init, .func (PySem.W.fnX "__init__" "Days.__init__" (defArgs s_Days_init) (defBody s_Days_init) (defScope s_Days_init) [("__class__", cc_Days_init)] .none kV_Days_init doc_Days_init pm_Days_init an_Days_init (.ref cda_Days_init) ct_Days_init), sl_Days_init⟩) (c_Days_init : PySem.W.codeIn K (.ref cda_Days_init) "Days.__init__" = true) (k_Days_init : PySem.W.keepIn K (.ref A_Days_init) = true) (cell_Days_init : K.lookup cc_Days_init = some ⟨cl_Days_init, cld_Days_init, .cell (some (.ref C_Days)), csl_Days_init⟩) (code_Days_init : K.lookup cda_Days_init = some ⟨ccl_Days_init, cdd_Days_init, .fields vs_Days_init, ccs_Days_init⟩) (vs_Days_init : vs_Days_init[2]? = some (.str file_Days_init tf_Days_init)) (fl_Days_init : ((P.main.file : Str) == file_Days_init) = true) (cd_Days_init : PySem.W.clsIn K C_Days = some cd_Days_init) (a_Days_borders : PySem.W.findIn K (.ref C_Days) "borders" = some (some (.ref A_Days_borders))) (i_Days_borders : PySem.W.isFn K (.ref A_Days_borders) = true) (l_Days_borders : K.lookup A_Days_borders = some ⟨oc_Days_borders, od_Days_borders, .func (PySem.W.fnOf "borders" "Days.borders" (defArgs s_Days_borders) (defBody s_Days_borders) (defScope s_Days_borders) .none kV_Days_borders doc_Days_borders pm_Days_borders an_Days_borders cdv_Days_borders ct_Days_borders), sl_Days_borders⟩) (c_Days_borders : PySem.W.codeIn K cdv_Days_borders "Days.borders" = true) (k_Days_borders : PySem.W.keepIn K (.ref A_Days_borders) = true) (a_joined : PySem.W.nsIn K mainGlobals "joined" = some (some (.ref A_joined))) (l_joined : K.lookup A_joined = some ⟨oc_joined, od_joined, .func (PySem.W.fnOf "joined" "joined" (defArgs s_joined) (defBody s_joined) (defScope s_joined) .none kV_joined doc_joined pm_joined an_joined cdv_joined ct_joined), sl_joined⟩) (c_joined : PySem.W.codeIn K cdv_joined "joined" = true) (k_joined : PySem.W.keepIn K (.ref A_joined) = true) (a_Later_init : PySem.W.findIn K (.ref C_Later) "__init__" = some (some (.ref A_Later_init))) (i_Later_init : PySem.W.isFn K (.ref A_Later_init) = true) (l_Later_init : K.lookup A_Later_init = some ⟨oc_Later_init, od_Later_init, .func (PySem.W.fnX "__init__" "Later.__init__" (defArgs s_Later_init) (defBody s_Later_init) (defScope s_Later_init) [("__class__", cc_Later_init)] .none kV_Later_init doc_Later_init pm_Later_init an_Later_init (.ref cda_Later_init) ct_Later_init), sl_Later_init⟩) (c_Later_init : PySem.W.codeIn K (.ref cda_Later_init) "Later.__init__" = true) (k_Later_init : PySem.W.keepIn K (.ref A_Later_init) = true) (cell_Later_init : K.lookup cc_Later_init = some ⟨cl_Later_init, cld_Later_init, .cell (some (.ref C_Later)), csl_Later_init⟩) (code_Later_init : K.lookup cda_Later_init = some ⟨ccl_Later_init, cdd_Later_init, .fields vs_Later_init, ccs_Later_init⟩) (vs_Later_init : vs_Later_init[2]? = some (.str file_Later_init tf_Later_init)) (fl_Later_init : ((P.main.file : Str) == file_Later_init) = true) (cd_Later_init : PySem.W.clsIn K C_Later = some cd_Later_init) (a_Sooner_init : PySem.W.findIn K (.ref C_Sooner) "__init__" = some (some (.ref A_Sooner_init))) (i_Sooner_init : PySem.W.isFn K (.ref A_Sooner_init) = true) (l_Sooner_init : K.lookup A_Sooner_init = some ⟨oc_Sooner_init, od_Sooner_init, .func (PySem.W.fnX "__init__" "Sooner.__init__" (defArgs s_Sooner_init) (defBody s_Sooner_init) (defScope s_Sooner_init) [("__class__", cc_Sooner_init)] .none kV_Sooner_init doc_Sooner_init pm_Sooner_init an_Sooner_init (.ref cda_Sooner_init) ct_Sooner_init), sl_Sooner_init⟩) (c_Sooner_init : PySem.W.codeIn K (.ref cda_Sooner_init) "Sooner.__init__" = true) (k_Sooner_init : PySem.W.keepIn K (.ref A_Sooner_init) = true) (cell_Sooner_init : K.lookup cc_Sooner_init = some ⟨cl_Sooner_init, cld_Sooner_init, .cell (some (.ref C_Sooner)), csl_Sooner_init⟩) (code_Sooner_init : K.lookup cda_Sooner_init = some ⟨ccl_Sooner_init, cdd_Sooner_init, .fields vs_Sooner_init, ccs_Sooner_init⟩) (vs_Sooner_init : vs_Sooner_init[2]? = some (.str file_Sooner_init tf_Sooner_init)) (fl_Sooner_init : ((P.main.file : Str) == file_Sooner_init) = true) (cd_Sooner_init : PySem.W.clsIn K C_Sooner = some cd_Sooner_init) (a_Next_init : PySem.W.findIn K (.ref C_Next) "__init__" = some (some (.ref A_Next_init))) (i_Next_init : PySem.W.isFn K (.ref A_Next_init) = true) (l_Next_init : K.lookup A_Next_init = some ⟨oc_Next_init, od_Next_init, .func (PySem.W.fnX "__init__" "Next.__init__" (defArgs s_Next_init) (defBody s_Next_init) (defScope s_Next_init) [("__class__", cc_Next_init)] .none kV_Next_init doc_Next_init pm_Next_init an_Next_init (.ref cda_Next_init) ct_Next_init), sl_Next_init⟩) (c_Next_init : PySem.W.codeIn K (.ref cda_Next_init) "Next.__init__" = true) (k_Next_init : PySem.W.keepIn K (.ref A_Next_init) = true) (cell_Next_init : K.lookup cc_Next_init = some ⟨cl_Next_init, cld_Next_init, .cell (some (.ref C_Next)), csl_Next_init⟩) (code_Next_init : K.lookup cda_Next_init = some ⟨ccl_Next_init, cdd_Next_init, .fields vs_Next_init, ccs_Next_init⟩) (vs_Next_init : vs_Next_init[2]? = some (.str file_Next_init tf_Next_init)) (fl_Next_init : ((P.main.file : Str) == file_Next_init) = true) (cd_Next_init : PySem.W.clsIn K C_Next = some cd_Next_init) (a_bag : PySem.W.nsIn K mainGlobals "_law_bag" = some (some (.ref A_bag))) (l_bag : K.lookup A_bag = some ⟨oc_bag, od_bag, .func (PySem.W.fnOf "_law_bag" "_law_bag" (defArgs s_bag) (defBody s_bag) (defScope s_bag) .none kV_bag doc_bag pm_bag an_bag cdv_bag ct_bag), sl_bag⟩) (c_bag : PySem.W.codeIn K cdv_bag "_law_bag" = true) (k_bag : PySem.W.keepIn K (.ref A_bag) = true) (a_draw : PySem.W.nsIn K mainGlobals "_law_draw" = some (some (.ref A_draw))) (l_draw : K.lookup A_draw = some ⟨oc_draw, od_draw, .func (PySem.W.fnOf "_law_draw" "_law_draw" (defArgs s_draw) (defBody s_draw) (defScope s_draw) .none kV_draw doc_draw pm_draw an_draw cdv_draw ct_draw), sl_draw⟩) (c_draw : PySem.W.codeIn K cdv_draw "_law_draw" = true) (k_draw : PySem.W.keepIn K (.ref A_draw) = true) (a_of : PySem.W.nsIn K mainGlobals "_law_of" = some (some (.ref A_of))) (l_of : K.lookup A_of = some ⟨oc_of, od_of, .func (PySem.W.fnOf "_law_of" "_law_of" (defArgs s_of) (defBody s_of) (defScope s_of) .none kV_of doc_of pm_of an_of cdv_of ct_of), sl_of⟩) (c_of : PySem.W.codeIn K cdv_of "_law_of" = true) (k_of : PySem.W.keepIn K (.ref A_of) = true) (a_like : PySem.W.nsIn K mainGlobals "_law_like" = some (some (.ref A_like))) (l_like : K.lookup A_like = some ⟨oc_like, od_like, .func (PySem.W.fnOf "_law_like" "_law_like" (defArgs s_like) (defBody s_like) (defScope s_like) .none kV_like doc_like pm_like an_like cdv_like ct_like), sl_like⟩) (c_like : PySem.W.codeIn K cdv_like "_law_like" = true) (k_like : PySem.W.keepIn K (.ref A_like) = true) (a_odd : PySem.W.nsIn K mainGlobals "_law_odd" = some (some (.ref A_odd))) (l_odd : K.lookup A_odd = some ⟨oc_odd, od_odd, .func (PySem.W.fnOf "_law_odd" "_law_odd" (defArgs s_odd) (defBody s_odd) (defScope s_odd) .none kV_odd doc_odd pm_odd an_odd cdv_odd ct_odd), sl_odd⟩) (c_odd : PySem.W.codeIn K cdv_odd "_law_odd" = true) (k_odd : PySem.W.keepIn K (.ref A_odd) = true) (a_llcm : PySem.W.nsIn K mainGlobals "_law_lcm" = some (some (.ref A_llcm))) (l_llcm : K.lookup A_llcm = some ⟨oc_llcm, od_llcm, .func (PySem.W.fnOf "_law_lcm" "_law_lcm" (defArgs s_llcm) (defBody s_llcm) (defScope s_llcm) .none kV_llcm doc_llcm pm_llcm an_llcm cdv_llcm ct_llcm), sl_llcm⟩) (c_llcm : PySem.W.codeIn K cdv_llcm "_law_lcm" = true) (k_llcm : PySem.W.keepIn K (.ref A_llcm) = true) (a_text : PySem.W.nsIn K mainGlobals "_law_text" = some (some (.ref A_text))) (l_text : K.lookup A_text = some ⟨oc_text, od_text, .func (PySem.W.fnOf "_law_text" "_law_text" (defArgs s_text) (defBody s_text) (defScope s_text) .none kV_text doc_text pm_text an_text cdv_text ct_text), sl_text⟩) (c_text : PySem.W.codeIn K cdv_text "_law_text" = true) (k_text : PySem.W.keepIn K (.ref A_text) = true) (a_facts : PySem.W.nsIn K mainGlobals "_law_facts" = some (some (.ref A_facts))) (l_facts : K.lookup A_facts = some ⟨oc_facts, od_facts, .func (PySem.W.fnOf "_law_facts" "_law_facts" (defArgs s_facts) (defBody s_facts) (defScope s_facts) .none kV_facts doc_facts pm_facts an_facts cdv_facts ct_facts), sl_facts⟩) (c_facts : PySem.W.codeIn K cdv_facts "_law_facts" = true) (k_facts : PySem.W.keepIn K (.ref A_facts) = true) (a_ask : PySem.W.nsIn K mainGlobals "_law_ask" = some (some (.ref A_ask))) (l_ask : K.lookup A_ask = some ⟨oc_ask, od_ask, .func (PySem.W.fnOf "_law_ask" "_law_ask" (defArgs s_ask) (defBody s_ask) (defScope s_ask) .none kV_ask doc_ask pm_ask an_ask cdv_ask ct_ask), sl_ask⟩) (c_ask : PySem.W.codeIn K cdv_ask "_law_ask" = true) (k_ask : PySem.W.keepIn K (.ref A_ask) = true) (a_in : PySem.W.nsIn K mainGlobals "_law_in" = some (some (.ref A_in))) (l_in : K.lookup A_in = some ⟨oc_in, od_in, .func (PySem.W.fnOf "_law_in" "_law_in" (defArgs s_in) (defBody s_in) (defScope s_in) .none kV_in doc_in pm_in an_in cdv_in ct_in), sl_in⟩) (c_in : PySem.W.codeIn K cdv_in "_law_in" = true) (k_in : PySem.W.keepIn K (.ref A_in) = true) (a_number : PySem.W.nsIn K mainGlobals "_law_number" = some (some (.ref A_number))) (l_number : K.lookup A_number = some ⟨oc_number, od_number, .func (PySem.W.fnOf "_law_number" "_law_number" (defArgs s_number) (defBody s_number) (defScope s_number) .none kV_number doc_number pm_number an_number cdv_number ct_number), sl_number⟩) (c_number : PySem.W.codeIn K cdv_number "_law_number" = true) (k_number : PySem.W.keepIn K (.ref A_number) = true) (a_borders : PySem.W.nsIn K mainGlobals "_law_borders" = some (some (.ref A_borders))) (l_borders : K.lookup A_borders = some ⟨oc_borders, od_borders, .func (PySem.W.fnOf "_law_borders" "_law_borders" (defArgs s_borders) (defBody s_borders) (defScope s_borders) .none kV_borders doc_borders pm_borders an_borders cdv_borders ct_borders), sl_borders⟩) (c_borders : PySem.W.codeIn K cdv_borders "_law_borders" = true) (k_borders : PySem.W.keepIn K (.ref A_borders) = true) (a_days_due : PySem.W.nsIn K mainGlobals "_law_days_due" = some (some (.ref A_days_due))) (l_days_due : K.lookup A_days_due = some ⟨oc_days_due, od_days_due, .func (PySem.W.fnOf "_law_days_due" "_law_days_due" (defArgs s_days_due) (defBody s_days_due) (defScope s_days_due) .none kV_days_due doc_days_due pm_days_due an_days_due cdv_days_due ct_days_due), sl_days_due⟩) (c_days_due : PySem.W.codeIn K cdv_days_due "_law_days_due" = true) (k_days_due : PySem.W.keepIn K (.ref A_days_due) = true) (a_window : PySem.W.nsIn K mainGlobals "_law_window" = some (some (.ref A_window))) (l_window : K.lookup A_window = some ⟨oc_window, od_window, .func (PySem.W.fnOf "_law_window" "_law_window" (defArgs s_window) (defBody s_window) (defScope s_window) .none kV_window doc_window pm_window an_window (.ref cda_window) ct_window), sl_window⟩) (c_window : PySem.W.codeIn K (.ref cda_window) "_law_window" = true) (k_window : PySem.W.keepIn K (.ref A_window) = true) (td_window : K.lookup cda_window = some ⟨tcl_window, tcd_window, .fields tvs_window, tsl_window⟩) (tp_window : tvs_window[11]? = some (.ref tb_window)) (tn_window : K.lookup tb_window = none) (a_days : PySem.W.nsIn K mainGlobals "_law_days" = some (some (.ref A_days))) (l_days : K.lookup A_days = some ⟨oc_days, od_days, .func (PySem.W.fnOf "_law_days" "_law_days" (defArgs s_days) (defBody s_days) (defScope s_days) .none kV_days doc_days pm_days an_days (.ref cda_days) ct_days), sl_days⟩) (c_days : PySem.W.codeIn K (.ref cda_days) "_law_days" = true) (k_days : PySem.W.keepIn K (.ref A_days) = true) (td_days : K.lookup cda_days = some ⟨tcl_days, tcd_days, .fields tvs_days, tsl_days⟩) (tp_days : tvs_days[11]? = some (.ref tb_days)) (tn_days : K.lookup tb_days = none) (a_pair : PySem.W.nsIn K mainGlobals "_law_pair" = some (some (.ref A_pair))) (l_pair : K.lookup A_pair = some ⟨oc_pair, od_pair, .func (PySem.W.fnOf "_law_pair" "_law_pair" (defArgs s_pair) (defBody s_pair) (defScope s_pair) .none kV_pair doc_pair pm_pair an_pair cdv_pair ct_pair), sl_pair⟩) (c_pair : PySem.W.codeIn K cdv_pair "_law_pair" = true) (k_pair : PySem.W.keepIn K (.ref A_pair) = true) (a_pair_due : PySem.W.nsIn K mainGlobals "_law_pair_due" = some (some (.ref A_pair_due))) (l_pair_due : K.lookup A_pair_due = some ⟨oc_pair_due, od_pair_due, .func (PySem.W.fnOf "_law_pair_due" "_law_pair_due" (defArgs s_pair_due) (defBody s_pair_due) (defScope s_pair_due) .none kV_pair_due doc_pair_due pm_pair_due an_pair_due cdv_pair_due ct_pair_due), sl_pair_due⟩) (c_pair_due : PySem.W.codeIn K cdv_pair_due "_law_pair_due" = true) (k_pair_due : PySem.W.keepIn K (.ref A_pair_due) = true) (a_class_so : PySem.W.nsIn K mainGlobals "_law_class_so" = some (some (.ref A_class_so))) (l_class_so : K.lookup A_class_so = some ⟨oc_class_so, od_class_so, .func (PySem.W.fnOf "_law_class_so" "_law_class_so" (defArgs s_class_so) (defBody s_class_so) (defScope s_class_so) .none kV_class_so doc_class_so pm_class_so an_class_so cdv_class_so ct_class_so), sl_class_so⟩) (c_class_so : PySem.W.codeIn K cdv_class_so "_law_class_so" = true) (k_class_so : PySem.W.keepIn K (.ref A_class_so) = true) (a_under : PySem.W.nsIn K mainGlobals "_law_under" = some (some (.ref A_under))) (l_under : K.lookup A_under = some ⟨oc_under, od_under, .func (PySem.W.fnOf "_law_under" "_law_under" (defArgs s_under) (defBody s_under) (defScope s_under) .none kV_under doc_under pm_under an_under (.ref cda_under) ct_under), sl_under⟩) (c_under : PySem.W.codeIn K (.ref cda_under) "_law_under" = true) (k_under : PySem.W.keepIn K (.ref A_under) = true) (td_under : K.lookup cda_under = some ⟨tcl_under, tcd_under, .fields tvs_under, tsl_under⟩) (tp_under : tvs_under[11]? = some (.ref tb_under)) (tn_under : K.lookup tb_under = none) (a_told_so : PySem.W.nsIn K mainGlobals "_law_told_so" = some (some (.ref A_told_so))) (l_told_so : K.lookup A_told_so = some ⟨oc_told_so, od_told_so, .func (PySem.W.fnOf "_law_told_so" "_law_told_so" (defArgs s_told_so) (defBody s_told_so) (defScope s_told_so) .none kV_told_so doc_told_so pm_told_so an_told_so cdv_told_so ct_told_so), sl_told_so⟩) (c_told_so : PySem.W.codeIn K cdv_told_so "_law_told_so" = true) (k_told_so : PySem.W.keepIn K (.ref A_told_so) = true) (a_equal_so : PySem.W.nsIn K mainGlobals "_law_equal_so" = some (some (.ref A_equal_so))) (l_equal_so : K.lookup A_equal_so = some ⟨oc_equal_so, od_equal_so, .func (PySem.W.fnOf "_law_equal_so" "_law_equal_so" (defArgs s_equal_so) (defBody s_equal_so) (defScope s_equal_so) .none kV_equal_so doc_equal_so pm_equal_so an_equal_so cdv_equal_so ct_equal_so), sl_equal_so⟩) (c_equal_so : PySem.W.codeIn K cdv_equal_so "_law_equal_so" = true) (k_equal_so : PySem.W.keepIn K (.ref A_equal_so) = true) (a_law : PySem.W.nsIn K mainGlobals "law" = some (some (.ref A_law))) (l_law : K.lookup A_law = some ⟨oc_law, od_law, .func (PySem.W.fnOf "law" "law" (defArgs s_law) (defBody s_law) (defScope s_law) .none kV_law doc_law pm_law an_law cdv_law ct_law), sl_law⟩) (c_law : PySem.W.codeIn K cdv_law "law" = true) (k_law : PySem.W.keepIn K (.ref A_law) = true) (tne_window_days : tb_window ≠ tb_days) (tne_window_under : tb_window ≠ tb_under) (tne_days_under : tb_days ≠ tb_under) (top_super : (P.main.scope.names.lookup ("super" : Str)).isSome = false) (st_thirdparty : PySem.W.nsIn K cStatics "thirdparty.any" = some none) (z_all : PySem.W.nsIn K mainGlobals "all" = some none) (z_bool : PySem.W.nsIn K mainGlobals "bool" = some none) (z_dict : PySem.W.nsIn K mainGlobals "dict" = some none) (z_enumerate : PySem.W.nsIn K mainGlobals "enumerate" = some none) (z_int : PySem.W.nsIn K mainGlobals "int" = some none) (z_isinstance : PySem.W.nsIn K mainGlobals "isinstance" = some none) (z_len : PySem.W.nsIn K mainGlobals "len" = some none) (z_list : PySem.W.nsIn K mainGlobals "list" = some none) (z_max : PySem.W.nsIn K mainGlobals "max" = some none) (z_range : PySem.W.nsIn K mainGlobals "range" = some none) (z_repr : PySem.W.nsIn K mainGlobals "repr" = some none) (z_str : PySem.W.nsIn K mainGlobals "str" = some none) (z_super : PySem.W.nsIn K mainGlobals "super" = some none) (z_tuple : PySem.W.nsIn K mainGlobals "tuple" = some none) (z_zip : PySem.W.nsIn K mainGlobals "zip" = some none) (ac_BORDERS : PySem.W.nsIn K mainGlobals "BORDERS" = some (some (.int 12 t_BORDERS))) (ac_FORMS : PySem.W.nsIn K mainGlobals "FORMS" = some (some (.int 6 t_FORMS))) (ac_PERIOD : PySem.W.nsIn K mainGlobals "PERIOD" = some (some (.int 2000 t_PERIOD))) (ab_lcm : PySem.W.nsIn K mainGlobals "lcm" = some (some (.builtin "math.lcm"))) (el_InvalidNumber : K.lookup C_InvalidNumber = some (excClassObj nm_InvalidNumber q_InvalidNumber C_InvalidNumber N_InvalidNumber bs_InvalidNumber [.ref C_SureletError, .type "ValueError", .type "Exception", .type "BaseException", .type "object"] true sn_InvalidNumber sb_InvalidNumber ab_InvalidNumber co_InvalidNumber dd_InvalidNumber e0_InvalidNumber e1_InvalidNumber e2_InvalidNumber e3_InvalidNumber e5_InvalidNumber "ValueError.__new__")) (es_InvalidNumber : PySem.W.findIn K (.ref C_InvalidNumber) "__setattr__" = some (some (.builtin "object.__setattr__"))) (eb_InvalidNumber : PySem.W.subIn K (.ref C_InvalidNumber) (.type "BaseException") = some true) (et_InvalidNumber : PySem.W.typeIn K (.ref C_InvalidNumber) = some (.type "type")) (ek_InvalidNumber : PySem.W.keepIn K (.ref C_InvalidNumber) = true) (em_InvalidNumber : PySem.W.mroIn K C_InvalidNumber (.ref C_InvalidNumber) = some true) (eu_InvalidNumber : PySem.W.ks_superIn K C_InvalidNumber C_InvalidNumber "__init__" = some (some (.builtin "ValueError.__init__"))) (ev_InvalidNumber : PySem.W.subIn K (.ref C_InvalidNumber) (.type "ValueError") = some true) (ega_InvalidNumber : PySem.W.findIn K (.ref C_InvalidNumber) "__getattribute__" = some (some (.builtin "BaseException.__getattribute__"))) (egg_InvalidNumber : PySem.W.findIn K (.ref C_InvalidNumber) "__getattr__" = some none) (ehd_InvalidNumber : PySem.W.hasDictIn K C_InvalidNumber = true) (eti_InvalidNumber : PySem.W.typeIn K (.ref A_InvalidNumber_init) = some (.type "function")) (xb_InvalidNumber_InvalidNumber : PySem.W.subIn K (.ref C_InvalidNumber) (.type "BaseException") = some true) (xi_InvalidNumber_InvalidNumber : PySem.W.isClsIn K C_InvalidNumber = true) (xt_InvalidNumber_InvalidNumber : PySem.W.typeIn K (.ref C_InvalidNumber) = some (.type "type")) (xs_InvalidNumber_InvalidNumber : PySem.W.subIn K (.ref C_InvalidNumber) (.ref C_InvalidNumber) = some true) (no_InvalidNumber_value : PySem.W.findIn K (.ref C_InvalidNumber) "value" = some none) (no_InvalidNumber_code : PySem.W.findIn K (.ref C_InvalidNumber) "code" = some none) (el_InvalidBorders : K.lookup C_InvalidBorders = some (excClassObj nm_InvalidBorders q_InvalidBorders C_InvalidBorders N_InvalidBorders bs_InvalidBorders [.ref C_SureletError, .type "ValueError", .type "Exception", .type "BaseException", .type "object"] true sn_InvalidBorders sb_InvalidBorders ab_InvalidBorders co_InvalidBorders dd_InvalidBorders e0_InvalidBorders e1_InvalidBorders e2_InvalidBorders e3_InvalidBorders e5_InvalidBorders "ValueError.__new__")) (es_InvalidBorders : PySem.W.findIn K (.ref C_InvalidBorders) "__setattr__" = some (some (.builtin "object.__setattr__"))) (eb_InvalidBorders : PySem.W.subIn K (.ref C_InvalidBorders) (.type "BaseException") = some true) (et_InvalidBorders : PySem.W.typeIn K (.ref C_InvalidBorders) = some (.type "type")) (ek_InvalidBorders : PySem.W.keepIn K (.ref C_InvalidBorders) = true) (em_InvalidBorders : PySem.W.mroIn K C_InvalidBorders (.ref C_InvalidBorders) = some true) (eu_InvalidBorders : PySem.W.ks_superIn K C_InvalidBorders C_InvalidBorders "__init__" = some (some (.builtin "ValueError.__init__"))) (ev_InvalidBorders : PySem.W.subIn K (.ref C_InvalidBorders) (.type "ValueError") = some true) (ega_InvalidBorders : PySem.W.findIn K (.ref C_InvalidBorders) "__getattribute__" = some (some (.builtin "BaseException.__getattribute__"))) (egg_InvalidBorders : PySem.W.findIn K (.ref C_InvalidBorders) "__getattr__" = some none) (ehd_InvalidBorders : PySem.W.hasDictIn K C_InvalidBorders = true) (eti_InvalidBorders : PySem.W.typeIn K (.ref A_InvalidBorders_init) = some (.type "function")) (xb_InvalidBorders_InvalidNumber : PySem.W.subIn K (.ref C_InvalidNumber) (.type "BaseException") = some true) (xi_InvalidBorders_InvalidNumber : PySem.W.isClsIn K C_InvalidNumber = true) (xt_InvalidBorders_InvalidNumber : PySem.W.typeIn K (.ref C_InvalidNumber) = some (.type "type")) (xs_InvalidBorders_InvalidNumber : PySem.W.subIn K (.ref C_InvalidBorders) (.ref C_InvalidNumber) = some false) (xb_InvalidBorders_InvalidBorders : PySem.W.subIn K (.ref C_InvalidBorders) (.type "BaseException") = some true) (xi_InvalidBorders_InvalidBorders : PySem.W.isClsIn K C_InvalidBorders = true) (xt_InvalidBorders_InvalidBorders : PySem.W.typeIn K (.ref C_InvalidBorders) = some (.type "type")) (xs_InvalidBorders_InvalidBorders : PySem.W.subIn K (.ref C_InvalidBorders) (.ref C_InvalidBorders) = some true) (no_InvalidBorders_at : PySem.W.findIn K (.ref C_InvalidBorders) "at" = some none) (no_InvalidBorders_code : PySem.W.findIn K (.ref C_InvalidBorders) "code" = some none) (el_InvalidRest : K.lookup C_InvalidRest = some (excClassObj nm_InvalidRest q_InvalidRest C_InvalidRest N_InvalidRest bs_InvalidRest [.ref C_SureletError, .type "ValueError", .type "Exception", .type "BaseException", .type "object"] true sn_InvalidRest sb_InvalidRest ab_InvalidRest co_InvalidRest dd_InvalidRest e0_InvalidRest e1_InvalidRest e2_InvalidRest e3_InvalidRest e5_InvalidRest "ValueError.__new__")) (es_InvalidRest : PySem.W.findIn K (.ref C_InvalidRest) "__setattr__" = some (some (.builtin "object.__setattr__"))) (eb_InvalidRest : PySem.W.subIn K (.ref C_InvalidRest) (.type "BaseException") = some true) (et_InvalidRest : PySem.W.typeIn K (.ref C_InvalidRest) = some (.type "type")) (ek_InvalidRest : PySem.W.keepIn K (.ref C_InvalidRest) = true) (em_InvalidRest : PySem.W.mroIn K C_InvalidRest (.ref C_InvalidRest) = some true) (eu_InvalidRest : PySem.W.ks_superIn K C_InvalidRest C_InvalidRest "__init__" = some (some (.builtin "ValueError.__init__"))) (ev_InvalidRest : PySem.W.subIn K (.ref C_InvalidRest) (.type "ValueError") = some true) (ega_InvalidRest : PySem.W.findIn K (.ref C_InvalidRest) "__getattribute__" = some (some (.builtin "BaseException.__getattribute__"))) (egg_InvalidRest : PySem.W.findIn K (.ref C_InvalidRest) "__getattr__" = some none) (ehd_InvalidRest : PySem.W.hasDictIn K C_InvalidRest = true) (eti_InvalidRest : PySem.W.typeIn K (.ref A_InvalidRest_init) = some (.type "function")) (xb_InvalidRest_InvalidNumber : PySem.W.subIn K (.ref C_InvalidNumber) (.type "BaseException") = some true) (xi_InvalidRest_InvalidNumber : PySem.W.isClsIn K C_InvalidNumber = true) (xt_InvalidRest_InvalidNumber : PySem.W.typeIn K (.ref C_InvalidNumber) = some (.type "type")) (xs_InvalidRest_InvalidNumber : PySem.W.subIn K (.ref C_InvalidRest) (.ref C_InvalidNumber) = some false) (xb_InvalidRest_InvalidBorders : PySem.W.subIn K (.ref C_InvalidBorders) (.type "BaseException") = some true) (xi_InvalidRest_InvalidBorders : PySem.W.isClsIn K C_InvalidBorders = true) (xt_InvalidRest_InvalidBorders : PySem.W.typeIn K (.ref C_InvalidBorders) = some (.type "type")) (xs_InvalidRest_InvalidBorders : PySem.W.subIn K (.ref C_InvalidRest) (.ref C_InvalidBorders) = some false) (xb_InvalidRest_InvalidRest : PySem.W.subIn K (.ref C_InvalidRest) (.type "BaseException") = some true) (xi_InvalidRest_InvalidRest : PySem.W.isClsIn K C_InvalidRest = true) (xt_InvalidRest_InvalidRest : PySem.W.typeIn K (.ref C_InvalidRest) = some (.type "type")) (xs_InvalidRest_InvalidRest : PySem.W.subIn K (.ref C_InvalidRest) (.ref C_InvalidRest) = some true) (no_InvalidRest_value : PySem.W.findIn K (.ref C_InvalidRest) "value" = some none) (no_InvalidRest_code : PySem.W.findIn K (.ref C_InvalidRest) "code" = some none) (el_TooMany : K.lookup C_TooMany = some (excClassObj nm_TooMany q_TooMany C_TooMany N_TooMany bs_TooMany [.ref C_SureletError, .type "ValueError", .type "Exception", .type "BaseException", .type "object"] true sn_TooMany sb_TooMany ab_TooMany co_TooMany dd_TooMany e0_TooMany e1_TooMany e2_TooMany e3_TooMany e5_TooMany "ValueError.__new__")) (es_TooMany : PySem.W.findIn K (.ref C_TooMany) "__setattr__" = some (some (.builtin "object.__setattr__"))) (eb_TooMany : PySem.W.subIn K (.ref C_TooMany) (.type "BaseException") = some true) (et_TooMany : PySem.W.typeIn K (.ref C_TooMany) = some (.type "type")) (ek_TooMany : PySem.W.keepIn K (.ref C_TooMany) = true) (em_TooMany : PySem.W.mroIn K C_TooMany (.ref C_TooMany) = some true) (eu_TooMany : PySem.W.ks_superIn K C_TooMany C_TooMany "__init__" = some (some (.builtin "ValueError.__init__"))) (ev_TooMany : PySem.W.subIn K (.ref C_TooMany) (.type "ValueError") = some true) (ega_TooMany : PySem.W.findIn K (.ref C_TooMany) "__getattribute__" = some (some (.builtin "BaseException.__getattribute__"))) (egg_TooMany : PySem.W.findIn K (.ref C_TooMany) "__getattr__" = some none) (ehd_TooMany : PySem.W.hasDictIn K C_TooMany = true) (eti_TooMany : PySem.W.typeIn K (.ref A_TooMany_init) = some (.type "function")) (xb_TooMany_InvalidNumber : PySem.W.subIn K (.ref C_InvalidNumber) (.type "BaseException") = some true) (xi_TooMany_InvalidNumber : PySem.W.isClsIn K C_InvalidNumber = true) (xt_TooMany_InvalidNumber : PySem.W.typeIn K (.ref C_InvalidNumber) = some (.type "type")) (xs_TooMany_InvalidNumber : PySem.W.subIn K (.ref C_TooMany) (.ref C_InvalidNumber) = some false) (xb_TooMany_InvalidBorders : PySem.W.subIn K (.ref C_InvalidBorders) (.type "BaseException") = some true) (xi_TooMany_InvalidBorders : PySem.W.isClsIn K C_InvalidBorders = true) (xt_TooMany_InvalidBorders : PySem.W.typeIn K (.ref C_InvalidBorders) = some (.type "type")) (xs_TooMany_InvalidBorders : PySem.W.subIn K (.ref C_TooMany) (.ref C_InvalidBorders) = some false) (xb_TooMany_InvalidRest : PySem.W.subIn K (.ref C_InvalidRest) (.type "BaseException") = some true) (xi_TooMany_InvalidRest : PySem.W.isClsIn K C_InvalidRest = true) (xt_TooMany_InvalidRest : PySem.W.typeIn K (.ref C_InvalidRest) = some (.type "type")) (xs_TooMany_InvalidRest : PySem.W.subIn K (.ref C_TooMany) (.ref C_InvalidRest) = some false) (xb_TooMany_TooMany : PySem.W.subIn K (.ref C_TooMany) (.type "BaseException") = some true) (xi_TooMany_TooMany : PySem.W.isClsIn K C_TooMany = true) (xt_TooMany_TooMany : PySem.W.typeIn K (.ref C_TooMany) = some (.type "type")) (xs_TooMany_TooMany : PySem.W.subIn K (.ref C_TooMany) (.ref C_TooMany) = some true) (no_TooMany_what : PySem.W.findIn K (.ref C_TooMany) "what" = some none) (no_TooMany_count : PySem.W.findIn K (.ref C_TooMany) "count" = some none) (no_TooMany_code : PySem.W.findIn K (.ref C_TooMany) "code" = some none) (kb_int_Rest : PySem.W.kitOne K (.type "int") (.ref C_Rest) = some false) (kb_bool_Rest : PySem.W.kitOne K (.type "bool") (.ref C_Rest) = some false) (kb_str_Rest : PySem.W.kitOne K (.type "str") (.ref C_Rest) = some false) (kb_NoneType_Rest : PySem.W.kitOne K (.type "NoneType") (.ref C_Rest) = some false) (kb_list_Rest : PySem.W.kitOne K (.type "list") (.ref C_Rest) = some false) (kb_tuple_Rest : PySem.W.kitOne K (.type "tuple") (.ref C_Rest) = some false) (kb_dict_Rest : PySem.W.kitOne K (.type "dict") (.ref C_Rest) = some false) (pg_Window : PySem.W.plainGet K C_Window Str.empty = true) (hd_Window : PySem.W.hasDictIn K C_Window = true) (po_Window : PySem.W.plainOver K C_Window = true) (sa_Window : PySem.W.findIn K (.ref C_Window) "__setattr__" = some (some (.builtin "object.__setattr__"))) (mk_Window : PySem.W.makesIn K C_Window = true) (kc_Window : PySem.W.keepIn K (.ref C_Window) = true) (th_Window : PySem.W.findIn K (.ref C_Window) "__class__" = some (some (.builtin "object.__class__"))) (tn_Window : PySem.W.specialIn K (.builtin "object.__class__") "__get__" = some (some (.builtin "getset_descriptor.__get__"))) (tk_Window : PySem.W.takesIn K (.builtin "object.__class__") = some true) (tm_Window : PySem.W.mroIn K C_Window (.type "object") = some true) (kt_Window_Rest : PySem.W.kitOne K (.ref C_Window) (.ref C_Rest) = some true) (kt_Window_Window : PySem.W.kitOne K (.ref C_Window) (.ref C_Window) = some true) (kt_Window_Days : PySem.W.kitOne K (.ref C_Window) (.ref C_Days) = some false) (kt_Window_Later : PySem.W.kitOne K (.ref C_Window) (.ref C_Later) = some false) (kt_Window_Sooner : PySem.W.kitOne K (.ref C_Window) (.ref C_Sooner) = some false) (kt_Window_Next : PySem.W.kitOne K (.ref C_Window) (.ref C_Next) = some false) (su_Window : PySem.W.mroIn K C_Window (.ref C_Window) = some true) (sm_Window : PySem.W.ks_superIn K C_Window C_Window "__init__" = some (some (.ref A_Rest_init))) (sf_Window : PySem.W.fnIn K A_Rest_init = true) (st_Window : PySem.W.typeIn K (.ref A_Rest_init) = some (.type "function")) (no_Window_text : PySem.W.findIn K (.ref C_Window) "_text" = some none) (no_Window_forms : PySem.W.findIn K (.ref C_Window) "_forms" = some none) (no_Window_period : PySem.W.findIn K (.ref C_Window) "_period" = some none) (no_Window_bend : PySem.W.findIn K (.ref C_Window) "_bend" = some none) (no_Window_width : PySem.W.findIn K (.ref C_Window) "width" = some none) (me_Window_forms : PySem.W.findIn K (.ref C_Window) "forms" = some (some (.ref A_Rest_forms))) (mi_Window_forms : PySem.W.isFn K (.ref A_Rest_forms) = true) (me_Window_period : PySem.W.findIn K (.ref C_Window) "period" = some (some (.ref A_Rest_period))) (mi_Window_period : PySem.W.isFn K (.ref A_Rest_period) = true) (me_Window_bend : PySem.W.findIn K (.ref C_Window) "bend" = some (some (.ref A_Rest_bend))) (mi_Window_bend : PySem.W.isFn K (.ref A_Rest_bend) = true) (me_Window_written : PySem.W.findIn K (.ref C_Window) "written" = some (some (.ref A_Rest_written))) (mi_Window_written : PySem.W.isFn K (.ref A_Rest_written) = true) (strf_Window : PySem.W.findIn K (.ref C_Window) "__str__" = some (some (.ref A_Rest_str))) (stri_Window : PySem.W.isFn K (.ref A_Rest_str) = true) (reprf_Window : PySem.W.findIn K (.ref C_Window) "__repr__" = some (some (.ref A_Rest_repr))) (repri_Window : PySem.W.isFn K (.ref A_Rest_repr) = true) (eqf_Window : PySem.W.findIn K (.ref C_Window) "__eq__" = some (some (.ref A_Rest_eq))) (eqi_Window : PySem.W.isFn K (.ref A_Rest_eq) = true) (nf_Window_str : PySem.W.notFirst K C_Window (.type "str") = true) (nf_Window_int : PySem.W.notFirst K C_Window (.type "int") = true) (nf_Window : PySem.W.notFirst K C_Window (.ref C_Window) = true) (nf_Window_NoneType : PySem.W.notFirst K C_Window (.type "NoneType") = true) (nf_Window_bool : PySem.W.notFirst K C_Window (.type "bool") = true) (nf_Window_list : PySem.W.notFirst K C_Window (.type "list") = true) (nf_Window_tuple : PySem.W.notFirst K C_Window (.type "tuple") = true) (nef_Window : PySem.W.findIn K (.ref C_Window) "__ne__" = some (some (.builtin "object.__ne__"))) (nem_Window : PySem.W.mroIn K C_Window (.type "object") = some true) (nf_Window_Days : PySem.W.notFirst K C_Window (.ref C_Days) = true) (nf_Window_Later : PySem.W.notFirst K C_Window (.ref C_Later) = true) (nf_Window_Sooner : PySem.W.notFirst K C_Window (.ref C_Sooner) = true) (nf_Window_Next : PySem.W.notFirst K C_Window (.ref C_Next) = true) (kb_int_Window : PySem.W.kitOne K (.type "int") (.ref C_Window) = some false) (kb_bool_Window : PySem.W.kitOne K (.type "bool") (.ref C_Window) = some false) (kb_str_Window : PySem.W.kitOne K (.type "str") (.ref C_Window) = some false) (kb_NoneType_Window : PySem.W.kitOne K (.type "NoneType") (.ref C_Window) = some false) (kb_list_Window : PySem.W.kitOne K (.type "list") (.ref C_Window) = some false) (kb_tuple_Window : PySem.W.kitOne K (.type "tuple") (.ref C_Window) = some false) (kb_dict_Window : PySem.W.kitOne K (.type "dict") (.ref C_Window) = some false) (pg_Days : PySem.W.plainGet K C_Days Str.empty = true) (hd_Days : PySem.W.hasDictIn K C_Days = true) (po_Days : PySem.W.plainOver K C_Days = true) (sa_Days : PySem.W.findIn K (.ref C_Days) "__setattr__" = some (some (.builtin "object.__setattr__"))) (mk_Days : PySem.W.makesIn K C_Days = true) (kc_Days : PySem.W.keepIn K (.ref C_Days) = true) (th_Days : PySem.W.findIn K (.ref C_Days) "__class__" = some (some (.builtin "object.__class__"))) (tn_Days : PySem.W.specialIn K (.builtin "object.__class__") "__get__" = some (some (.builtin "getset_descriptor.__get__"))) (tk_Days : PySem.W.takesIn K (.builtin "object.__class__") = some true) (tm_Days : PySem.W.mroIn K C_Days (.type "object") = some true) (kt_Days_Rest : PySem.W.kitOne K (.ref C_Days) (.ref C_Rest) = some true) (kt_Days_Window : PySem.W.kitOne K (.ref C_Days) (.ref C_Window) = some false) (kt_Days_Days : PySem.W.kitOne K (.ref C_Days) (.ref C_Days) = some true) (kt_Days_Later : PySem.W.kitOne K (.ref C_Days) (.ref C_Later) = some false) (kt_Days_Sooner : PySem.W.kitOne K (.ref C_Days) (.ref C_Sooner) = some false) (kt_Days_Next : PySem.W.kitOne K (.ref C_Days) (.ref C_Next) = some false) (su_Days : PySem.W.mroIn K C_Days (.ref C_Days) = some true) (sm_Days : PySem.W.ks_superIn K C_Days C_Days "__init__" = some (some (.ref A_Rest_init))) (sf_Days : PySem.W.fnIn K A_Rest_init = true) (st_Days : PySem.W.typeIn K (.ref A_Rest_init) = some (.type "function")) (no_Days_text : PySem.W.findIn K (.ref C_Days) "_text" = some none) (no_Days_forms : PySem.W.findIn K (.ref C_Days) "_forms" = some none) (no_Days_period : PySem.W.findIn K (.ref C_Days) "_period" = some none) (no_Days_bend : PySem.W.findIn K (.ref C_Days) "_bend" = some none) (no_Days_every : PySem.W.findIn K (.ref C_Days) "every" = some none) (no_Days_borders : PySem.W.findIn K (.ref C_Days) "_borders" = some none) (me_Days_forms : PySem.W.findIn K (.ref C_Days) "forms" = some (some (.ref A_Rest_forms))) (mi_Days_forms : PySem.W.isFn K (.ref A_Rest_forms) = true) (me_Days_period : PySem.W.findIn K (.ref C_Days) "period" = some (some (.ref A_Rest_period))) (mi_Days_period : PySem.W.isFn K (.ref A_Rest_period) = true) (me_Days_bend : PySem.W.findIn K (.ref C_Days) "bend" = some (some (.ref A_Rest_bend))) (mi_Days_bend : PySem.W.isFn K (.ref A_Rest_bend) = true) (me_Days_written : PySem.W.findIn K (.ref C_Days) "written" = some (some (.ref A_Rest_written))) (mi_Days_written : PySem.W.isFn K (.ref A_Rest_written) = true) (me_Days_borders : PySem.W.findIn K (.ref C_Days) "borders" = some (some (.ref A_Days_borders))) (mi_Days_borders : PySem.W.isFn K (.ref A_Days_borders) = true) (strf_Days : PySem.W.findIn K (.ref C_Days) "__str__" = some (some (.ref A_Rest_str))) (stri_Days : PySem.W.isFn K (.ref A_Rest_str) = true) (reprf_Days : PySem.W.findIn K (.ref C_Days) "__repr__" = some (some (.ref A_Rest_repr))) (repri_Days : PySem.W.isFn K (.ref A_Rest_repr) = true) (eqf_Days : PySem.W.findIn K (.ref C_Days) "__eq__" = some (some (.ref A_Rest_eq))) (eqi_Days : PySem.W.isFn K (.ref A_Rest_eq) = true) (nf_Days_str : PySem.W.notFirst K C_Days (.type "str") = true) (nf_Days_int : PySem.W.notFirst K C_Days (.type "int") = true) (nf_Days : PySem.W.notFirst K C_Days (.ref C_Days) = true) (nf_Days_NoneType : PySem.W.notFirst K C_Days (.type "NoneType") = true) (nf_Days_bool : PySem.W.notFirst K C_Days (.type "bool") = true) (nf_Days_list : PySem.W.notFirst K C_Days (.type "list") = true) (nf_Days_tuple : PySem.W.notFirst K C_Days (.type "tuple") = true) (nef_Days : PySem.W.findIn K (.ref C_Days) "__ne__" = some (some (.builtin "object.__ne__"))) (nem_Days : PySem.W.mroIn K C_Days (.type "object") = some true) (nf_Days_Window : PySem.W.notFirst K C_Days (.ref C_Window) = true) (nf_Days_Later : PySem.W.notFirst K C_Days (.ref C_Later) = true) (nf_Days_Sooner : PySem.W.notFirst K C_Days (.ref C_Sooner) = true) (nf_Days_Next : PySem.W.notFirst K C_Days (.ref C_Next) = true) (kb_int_Days : PySem.W.kitOne K (.type "int") (.ref C_Days) = some false) (kb_bool_Days : PySem.W.kitOne K (.type "bool") (.ref C_Days) = some false) (kb_str_Days : PySem.W.kitOne K (.type "str") (.ref C_Days) = some false) (kb_NoneType_Days : PySem.W.kitOne K (.type "NoneType") (.ref C_Days) = some false) (kb_list_Days : PySem.W.kitOne K (.type "list") (.ref C_Days) = some false) (kb_tuple_Days : PySem.W.kitOne K (.type "tuple") (.ref C_Days) = some false) (kb_dict_Days : PySem.W.kitOne K (.type "dict") (.ref C_Days) = some false) (pg_Later : PySem.W.plainGet K C_Later Str.empty = true) (hd_Later : PySem.W.hasDictIn K C_Later = true) (po_Later : PySem.W.plainOver K C_Later = true) (sa_Later : PySem.W.findIn K (.ref C_Later) "__setattr__" = some (some (.builtin "object.__setattr__"))) (mk_Later : PySem.W.makesIn K C_Later = true) (kc_Later : PySem.W.keepIn K (.ref C_Later) = true) (th_Later : PySem.W.findIn K (.ref C_Later) "__class__" = some (some (.builtin "object.__class__"))) (tn_Later : PySem.W.specialIn K (.builtin "object.__class__") "__get__" = some (some (.builtin "getset_descriptor.__get__"))) (tk_Later : PySem.W.takesIn K (.builtin "object.__class__") = some true) (tm_Later : PySem.W.mroIn K C_Later (.type "object") = some true) (kt_Later_Rest : PySem.W.kitOne K (.ref C_Later) (.ref C_Rest) = some true) (kt_Later_Window : PySem.W.kitOne K (.ref C_Later) (.ref C_Window) = some false) (kt_Later_Days : PySem.W.kitOne K (.ref C_Later) (.ref C_Days) = some false) (kt_Later_Later : PySem.W.kitOne K (.ref C_Later) (.ref C_Later) = some true) (kt_Later_Sooner : PySem.W.kitOne K (.ref C_Later) (.ref C_Sooner) = some false) (kt_Later_Next : PySem.W.kitOne K (.ref C_Later) (.ref C_Next) = some false) (su_Later : PySem.W.mroIn K C_Later (.ref C_Later) = some true) (sm_Later : PySem.W.ks_superIn K C_Later C_Later "__init__" = some (some (.ref A_Rest_init))) (sf_Later : PySem.W.fnIn K A_Rest_init = true) (st_Later : PySem.W.typeIn K (.ref A_Rest_init) = some (.type "function")) (no_Later_text : PySem.W.findIn K (.ref C_Later) "_text" = some none) (no_Later_forms : PySem.W.findIn K (.ref C_Later) "_forms" = some none) (no_Later_period : PySem.W.findIn K (.ref C_Later) "_period" = some none) (no_Later_bend : PySem.W.findIn K (.ref C_Later) "_bend" = some none) (no_Later_first : PySem.W.findIn K (.ref C_Later) "first" = some none) (no_Later_second : PySem.W.findIn K (.ref C_Later) "second" = some none) (me_Later_forms : PySem.W.findIn K (.ref C_Later) "forms" = some (some (.ref A_Rest_forms))) (mi_Later_forms : PySem.W.isFn K (.ref A_Rest_forms) = true) (me_Later_period : PySem.W.findIn K (.ref C_Later) "period" = some (some (.ref A_Rest_period))) (mi_Later_period : PySem.W.isFn K (.ref A_Rest_period) = true) (me_Later_bend : PySem.W.findIn K (.ref C_Later) "bend" = some (some (.ref A_Rest_bend))) (mi_Later_bend : PySem.W.isFn K (.ref A_Rest_bend) = true) (me_Later_written : PySem.W.findIn K (.ref C_Later) "written" = some (some (.ref A_Rest_written))) (mi_Later_written : PySem.W.isFn K (.ref A_Rest_written) = true) (strf_Later : PySem.W.findIn K (.ref C_Later) "__str__" = some (some (.ref A_Rest_str))) (stri_Later : PySem.W.isFn K (.ref A_Rest_str) = true) (reprf_Later : PySem.W.findIn K (.ref C_Later) "__repr__" = some (some (.ref A_Rest_repr))) (repri_Later : PySem.W.isFn K (.ref A_Rest_repr) = true) (eqf_Later : PySem.W.findIn K (.ref C_Later) "__eq__" = some (some (.ref A_Rest_eq))) (eqi_Later : PySem.W.isFn K (.ref A_Rest_eq) = true) (nf_Later_str : PySem.W.notFirst K C_Later (.type "str") = true) (nf_Later_int : PySem.W.notFirst K C_Later (.type "int") = true) (nf_Later : PySem.W.notFirst K C_Later (.ref C_Later) = true) (nf_Later_NoneType : PySem.W.notFirst K C_Later (.type "NoneType") = true) (nf_Later_bool : PySem.W.notFirst K C_Later (.type "bool") = true) (nf_Later_list : PySem.W.notFirst K C_Later (.type "list") = true) (nf_Later_tuple : PySem.W.notFirst K C_Later (.type "tuple") = true) (nef_Later : PySem.W.findIn K (.ref C_Later) "__ne__" = some (some (.builtin "object.__ne__"))) (nem_Later : PySem.W.mroIn K C_Later (.type "object") = some true) (nf_Later_Window : PySem.W.notFirst K C_Later (.ref C_Window) = true) (nf_Later_Days : PySem.W.notFirst K C_Later (.ref C_Days) = true) (nf_Later_Sooner : PySem.W.notFirst K C_Later (.ref C_Sooner) = true) (nf_Later_Next : PySem.W.notFirst K C_Later (.ref C_Next) = true) (kb_int_Later : PySem.W.kitOne K (.type "int") (.ref C_Later) = some false) (kb_bool_Later : PySem.W.kitOne K (.type "bool") (.ref C_Later) = some false) (kb_str_Later : PySem.W.kitOne K (.type "str") (.ref C_Later) = some false) (kb_NoneType_Later : PySem.W.kitOne K (.type "NoneType") (.ref C_Later) = some false) (kb_list_Later : PySem.W.kitOne K (.type "list") (.ref C_Later) = some false) (kb_tuple_Later : PySem.W.kitOne K (.type "tuple") (.ref C_Later) = some false) (kb_dict_Later : PySem.W.kitOne K (.type "dict") (.ref C_Later) = some false) (pg_Sooner : PySem.W.plainGet K C_Sooner Str.empty = true) (hd_Sooner : PySem.W.hasDictIn K C_Sooner = true) (po_Sooner : PySem.W.plainOver K C_Sooner = true) (sa_Sooner : PySem.W.findIn K (.ref C_Sooner) "__setattr__" = some (some (.builtin "object.__setattr__"))) (mk_Sooner : PySem.W.makesIn K C_Sooner = true) (kc_Sooner : PySem.W.keepIn K (.ref C_Sooner) = true) (th_Sooner : PySem.W.findIn K (.ref C_Sooner) "__class__" = some (some (.builtin "object.__class__"))) (tn_Sooner : PySem.W.specialIn K (.builtin "object.__class__") "__get__" = some (some (.builtin "getset_descriptor.__get__"))) (tk_Sooner : PySem.W.takesIn K (.builtin "object.__class__") = some true) (tm_Sooner : PySem.W.mroIn K C_Sooner (.type "object") = some true) (kt_Sooner_Rest : PySem.W.kitOne K (.ref C_Sooner) (.ref C_Rest) = some true) (kt_Sooner_Window : PySem.W.kitOne K (.ref C_Sooner) (.ref C_Window) = some false) (kt_Sooner_Days : PySem.W.kitOne K (.ref C_Sooner) (.ref C_Days) = some false) (kt_Sooner_Later : PySem.W.kitOne K (.ref C_Sooner) (.ref C_Later) = some false) (kt_Sooner_Sooner : PySem.W.kitOne K (.ref C_Sooner) (.ref C_Sooner) = some true) (kt_Sooner_Next : PySem.W.kitOne K (.ref C_Sooner) (.ref C_Next) = some false) (su_Sooner : PySem.W.mroIn K C_Sooner (.ref C_Sooner) = some true) (sm_Sooner : PySem.W.ks_superIn K C_Sooner C_Sooner "__init__" = some (some (.ref A_Rest_init))) (sf_Sooner : PySem.W.fnIn K A_Rest_init = true) (st_Sooner : PySem.W.typeIn K (.ref A_Rest_init) = some (.type "function")) (no_Sooner_text : PySem.W.findIn K (.ref C_Sooner) "_text" = some none) (no_Sooner_forms : PySem.W.findIn K (.ref C_Sooner) "_forms" = some none) (no_Sooner_period : PySem.W.findIn K (.ref C_Sooner) "_period" = some none) (no_Sooner_bend : PySem.W.findIn K (.ref C_Sooner) "_bend" = some none) (no_Sooner_first : PySem.W.findIn K (.ref C_Sooner) "first" = some none) (no_Sooner_second : PySem.W.findIn K (.ref C_Sooner) "second" = some none) (me_Sooner_forms : PySem.W.findIn K (.ref C_Sooner) "forms" = some (some (.ref A_Rest_forms))) (mi_Sooner_forms : PySem.W.isFn K (.ref A_Rest_forms) = true) (me_Sooner_period : PySem.W.findIn K (.ref C_Sooner) "period" = some (some (.ref A_Rest_period))) (mi_Sooner_period : PySem.W.isFn K (.ref A_Rest_period) = true) (me_Sooner_bend : PySem.W.findIn K (.ref C_Sooner) "bend" = some (some (.ref A_Rest_bend))) (mi_Sooner_bend : PySem.W.isFn K (.ref A_Rest_bend) = true) (me_Sooner_written : PySem.W.findIn K (.ref C_Sooner) "written" = some (some (.ref A_Rest_written))) (mi_Sooner_written : PySem.W.isFn K (.ref A_Rest_written) = true) (strf_Sooner : PySem.W.findIn K (.ref C_Sooner) "__str__" = some (some (.ref A_Rest_str))) (stri_Sooner : PySem.W.isFn K (.ref A_Rest_str) = true) (reprf_Sooner : PySem.W.findIn K (.ref C_Sooner) "__repr__" = some (some (.ref A_Rest_repr))) (repri_Sooner : PySem.W.isFn K (.ref A_Rest_repr) = true) (eqf_Sooner : PySem.W.findIn K (.ref C_Sooner) "__eq__" = some (some (.ref A_Rest_eq))) (eqi_Sooner : PySem.W.isFn K (.ref A_Rest_eq) = true) (nf_Sooner_str : PySem.W.notFirst K C_Sooner (.type "str") = true) (nf_Sooner_int : PySem.W.notFirst K C_Sooner (.type "int") = true) (nf_Sooner : PySem.W.notFirst K C_Sooner (.ref C_Sooner) = true) (nf_Sooner_NoneType : PySem.W.notFirst K C_Sooner (.type "NoneType") = true) (nf_Sooner_bool : PySem.W.notFirst K C_Sooner (.type "bool") = true) (nf_Sooner_list : PySem.W.notFirst K C_Sooner (.type "list") = true) (nf_Sooner_tuple : PySem.W.notFirst K C_Sooner (.type "tuple") = true) (nef_Sooner : PySem.W.findIn K (.ref C_Sooner) "__ne__" = some (some (.builtin "object.__ne__"))) (nem_Sooner : PySem.W.mroIn K C_Sooner (.type "object") = some true) (nf_Sooner_Window : PySem.W.notFirst K C_Sooner (.ref C_Window) = true) (nf_Sooner_Days : PySem.W.notFirst K C_Sooner (.ref C_Days) = true) (nf_Sooner_Later : PySem.W.notFirst K C_Sooner (.ref C_Later) = true) (nf_Sooner_Next : PySem.W.notFirst K C_Sooner (.ref C_Next) = true) (kb_int_Sooner : PySem.W.kitOne K (.type "int") (.ref C_Sooner) = some false) (kb_bool_Sooner : PySem.W.kitOne K (.type "bool") (.ref C_Sooner) = some false) (kb_str_Sooner : PySem.W.kitOne K (.type "str") (.ref C_Sooner) = some false) (kb_NoneType_Sooner : PySem.W.kitOne K (.type "NoneType") (.ref C_Sooner) = some false) (kb_list_Sooner : PySem.W.kitOne K (.type "list") (.ref C_Sooner) = some false) (kb_tuple_Sooner : PySem.W.kitOne K (.type "tuple") (.ref C_Sooner) = some false) (kb_dict_Sooner : PySem.W.kitOne K (.type "dict") (.ref C_Sooner) = some false) (pg_Next : PySem.W.plainGet K C_Next Str.empty = true) (hd_Next : PySem.W.hasDictIn K C_Next = true) (po_Next : PySem.W.plainOver K C_Next = true) (sa_Next : PySem.W.findIn K (.ref C_Next) "__setattr__" = some (some (.builtin "object.__setattr__"))) (mk_Next : PySem.W.makesIn K C_Next = true) (kc_Next : PySem.W.keepIn K (.ref C_Next) = true) (th_Next : PySem.W.findIn K (.ref C_Next) "__class__" = some (some (.builtin "object.__class__"))) (tn_Next : PySem.W.specialIn K (.builtin "object.__class__") "__get__" = some (some (.builtin "getset_descriptor.__get__"))) (tk_Next : PySem.W.takesIn K (.builtin "object.__class__") = some true) (tm_Next : PySem.W.mroIn K C_Next (.type "object") = some true) (kt_Next_Rest : PySem.W.kitOne K (.ref C_Next) (.ref C_Rest) = some true) (kt_Next_Window : PySem.W.kitOne K (.ref C_Next) (.ref C_Window) = some false) (kt_Next_Days : PySem.W.kitOne K (.ref C_Next) (.ref C_Days) = some false) (kt_Next_Later : PySem.W.kitOne K (.ref C_Next) (.ref C_Later) = some false) (kt_Next_Sooner : PySem.W.kitOne K (.ref C_Next) (.ref C_Sooner) = some false) (kt_Next_Next : PySem.W.kitOne K (.ref C_Next) (.ref C_Next) = some true) (su_Next : PySem.W.mroIn K C_Next (.ref C_Next) = some true) (sm_Next : PySem.W.ks_superIn K C_Next C_Next "__init__" = some (some (.ref A_Rest_init))) (sf_Next : PySem.W.fnIn K A_Rest_init = true) (st_Next : PySem.W.typeIn K (.ref A_Rest_init) = some (.type "function")) (no_Next_text : PySem.W.findIn K (.ref C_Next) "_text" = some none) (no_Next_forms : PySem.W.findIn K (.ref C_Next) "_forms" = some none) (no_Next_period : PySem.W.findIn K (.ref C_Next) "_period" = some none) (no_Next_bend : PySem.W.findIn K (.ref C_Next) "_bend" = some none) (no_Next_first : PySem.W.findIn K (.ref C_Next) "first" = some none) (no_Next_second : PySem.W.findIn K (.ref C_Next) "second" = some none) (me_Next_forms : PySem.W.findIn K (.ref C_Next) "forms" = some (some (.ref A_Rest_forms))) (mi_Next_forms : PySem.W.isFn K (.ref A_Rest_forms) = true) (me_Next_period : PySem.W.findIn K (.ref C_Next) "period" = some (some (.ref A_Rest_period))) (mi_Next_period : PySem.W.isFn K (.ref A_Rest_period) = true) (me_Next_bend : PySem.W.findIn K (.ref C_Next) "bend" = some (some (.ref A_Rest_bend))) (mi_Next_bend : PySem.W.isFn K (.ref A_Rest_bend) = true) (me_Next_written : PySem.W.findIn K (.ref C_Next) "written" = some (some (.ref A_Rest_written))) (mi_Next_written : PySem.W.isFn K (.ref A_Rest_written) = true) (strf_Next : PySem.W.findIn K (.ref C_Next) "__str__" = some (some (.ref A_Rest_str))) (stri_Next : PySem.W.isFn K (.ref A_Rest_str) = true) (reprf_Next : PySem.W.findIn K (.ref C_Next) "__repr__" = some (some (.ref A_Rest_repr))) (repri_Next : PySem.W.isFn K (.ref A_Rest_repr) = true) (eqf_Next : PySem.W.findIn K (.ref C_Next) "__eq__" = some (some (.ref A_Rest_eq))) (eqi_Next : PySem.W.isFn K (.ref A_Rest_eq) = true) (nf_Next_str : PySem.W.notFirst K C_Next (.type "str") = true) (nf_Next_int : PySem.W.notFirst K C_Next (.type "int") = true) (nf_Next : PySem.W.notFirst K C_Next (.ref C_Next) = true) (nf_Next_NoneType : PySem.W.notFirst K C_Next (.type "NoneType") = true) (nf_Next_bool : PySem.W.notFirst K C_Next (.type "bool") = true) (nf_Next_list : PySem.W.notFirst K C_Next (.type "list") = true) (nf_Next_tuple : PySem.W.notFirst K C_Next (.type "tuple") = true) (nef_Next : PySem.W.findIn K (.ref C_Next) "__ne__" = some (some (.builtin "object.__ne__"))) (nem_Next : PySem.W.mroIn K C_Next (.type "object") = some true) (nf_Next_Window : PySem.W.notFirst K C_Next (.ref C_Window) = true) (nf_Next_Days : PySem.W.notFirst K C_Next (.ref C_Days) = true) (nf_Next_Later : PySem.W.notFirst K C_Next (.ref C_Later) = true) (nf_Next_Sooner : PySem.W.notFirst K C_Next (.ref C_Sooner) = true) (kb_int_Next : PySem.W.kitOne K (.type "int") (.ref C_Next) = some false) (kb_bool_Next : PySem.W.kitOne K (.type "bool") (.ref C_Next) = some false) (kb_str_Next : PySem.W.kitOne K (.type "str") (.ref C_Next) = some false) (kb_NoneType_Next : PySem.W.kitOne K (.type "NoneType") (.ref C_Next) = some false) (kb_list_Next : PySem.W.kitOne K (.type "list") (.ref C_Next) = some false) (kb_tuple_Next : PySem.W.kitOne K (.type "tuple") (.ref C_Next) = some false) (kb_dict_Next : PySem.W.kitOne K (.type "dict") (.ref C_Next) = some false) : Tx K mg where
  C_SureletError := C_SureletError
  m_SureletError := PySem.W.mg_of X G aC_SureletError
  C_InvalidNumber := C_InvalidNumber
  m_InvalidNumber := PySem.W.mg_of X G aC_InvalidNumber
  C_InvalidBorders := C_InvalidBorders
  m_InvalidBorders := PySem.W.mg_of X G aC_InvalidBorders
  C_InvalidRest := C_InvalidRest
  m_InvalidRest := PySem.W.mg_of X G aC_InvalidRest
  C_TooMany := C_TooMany
  m_TooMany := PySem.W.mg_of X G aC_TooMany
  C_Rest := C_Rest
  m_Rest := PySem.W.mg_of X G aC_Rest
  C_Window := C_Window
  m_Window := PySem.W.mg_of X G aC_Window
  C_Days := C_Days
  m_Days := PySem.W.mg_of X G aC_Days
  C_Later := C_Later
  m_Later := PySem.W.mg_of X G aC_Later
  C_Sooner := C_Sooner
  m_Sooner := PySem.W.mg_of X G aC_Sooner
  C_Next := C_Next
  m_Next := PySem.W.mg_of X G aC_Next
  a_InvalidNumber_init := A_InvalidNumber_init
  cc_InvalidNumber_init := cc_InvalidNumber_init
  cda_InvalidNumber_init := cda_InvalidNumber_init
  fd_InvalidNumber_init := PySem.W.fnX "__init__" "InvalidNumber.__init__" (defArgs s_InvalidNumber_init) (defBody s_InvalidNumber_init) (defScope s_InvalidNumber_init) [("__class__", cc_InvalidNumber_init)] .none kV_InvalidNumber_init doc_InvalidNumber_init pm_InvalidNumber_init an_InvalidNumber_init (.ref cda_InvalidNumber_init) ct_InvalidNumber_init
  F_InvalidNumber_init := funS_mk l_InvalidNumber_init c_InvalidNumber_init k_InvalidNumber_init
  b_InvalidNumber_init := (funS_mk l_InvalidNumber_init c_InvalidNumber_init k_InvalidNumber_init).binds (st := s_InvalidNumber_init) (ps := P_InvalidNumber_init) fun _ _ _ _ _ us hl => match us, hl with | [_, _], _ => rfl
  ce_InvalidNumber_init := ⟨_, _, _, cell_InvalidNumber_init⟩
  sd_InvalidNumber_init := ⟨⟨_, _, _, _, _, l_InvalidNumber_init, rfl, rfl⟩, ⟨_, _, _, _, _, _, code_InvalidNumber_init, vs_InvalidNumber_init, fl_InvalidNumber_init⟩, ⟨_, _, _, cell_InvalidNumber_init⟩, ⟨_, cd_InvalidNumber_init⟩, PySem.W.mg_none_of X G z_super, top_super, st_thirdparty⟩
  k_InvalidNumber_init := k_InvalidNumber_init
  a_InvalidBorders_init := A_InvalidBorders_init
  cc_InvalidBorders_init := cc_InvalidBorders_init
  cda_InvalidBorders_init := cda_InvalidBorders_init
  fd_InvalidBorders_init := PySem.W.fnX "__init__" "InvalidBorders.__init__" (defArgs s_InvalidBorders_init) (defBody s_InvalidBorders_init) (defScope s_InvalidBorders_init) [("__class__", cc_InvalidBorders_init)] .none kV_InvalidBorders_init doc_InvalidBorders_init pm_InvalidBorders_init an_InvalidBorders_init (.ref cda_InvalidBorders_init) ct_InvalidBorders_init
  F_InvalidBorders_init := funS_mk l_InvalidBorders_init c_InvalidBorders_init k_InvalidBorders_init
  b_InvalidBorders_init := (funS_mk l_InvalidBorders_init c_InvalidBorders_init k_InvalidBorders_init).binds (st := s_InvalidBorders_init) (ps := P_InvalidBorders_init) fun _ _ _ _ _ us hl => match us, hl with | [_, _], _ => rfl
  ce_InvalidBorders_init := ⟨_, _, _, cell_InvalidBorders_init⟩
  sd_InvalidBorders_init := ⟨⟨_, _, _, _, _, l_InvalidBorders_init, rfl, rfl⟩, ⟨_, _, _, _, _, _, code_InvalidBorders_init, vs_InvalidBorders_init, fl_InvalidBorders_init⟩, ⟨_, _, _, cell_InvalidBorders_init⟩, ⟨_, cd_InvalidBorders_init⟩, PySem.W.mg_none_of X G z_super, top_super, st_thirdparty⟩
  k_InvalidBorders_init := k_InvalidBorders_init
  a_InvalidRest_init := A_InvalidRest_init
  cc_InvalidRest_init := cc_InvalidRest_init
  cda_InvalidRest_init := cda_InvalidRest_init
  fd_InvalidRest_init := PySem.W.fnX "__init__" "InvalidRest.__init__" (defArgs s_InvalidRest_init) (defBody s_InvalidRest_init) (defScope s_InvalidRest_init) [("__class__", cc_InvalidRest_init)] .none kV_InvalidRest_init doc_InvalidRest_init pm_InvalidRest_init an_InvalidRest_init (.ref cda_InvalidRest_init) ct_InvalidRest_init
  F_InvalidRest_init := funS_mk l_InvalidRest_init c_InvalidRest_init k_InvalidRest_init
  b_InvalidRest_init := (funS_mk l_InvalidRest_init c_InvalidRest_init k_InvalidRest_init).binds (st := s_InvalidRest_init) (ps := P_InvalidRest_init) fun _ _ _ _ _ us hl => match us, hl with | [_, _], _ => rfl
  ce_InvalidRest_init := ⟨_, _, _, cell_InvalidRest_init⟩
  sd_InvalidRest_init := ⟨⟨_, _, _, _, _, l_InvalidRest_init, rfl, rfl⟩, ⟨_, _, _, _, _, _, code_InvalidRest_init, vs_InvalidRest_init, fl_InvalidRest_init⟩, ⟨_, _, _, cell_InvalidRest_init⟩, ⟨_, cd_InvalidRest_init⟩, PySem.W.mg_none_of X G z_super, top_super, st_thirdparty⟩
  k_InvalidRest_init := k_InvalidRest_init
  a_TooMany_init := A_TooMany_init
  cc_TooMany_init := cc_TooMany_init
  cda_TooMany_init := cda_TooMany_init
  fd_TooMany_init := PySem.W.fnX "__init__" "TooMany.__init__" (defArgs s_TooMany_init) (defBody s_TooMany_init) (defScope s_TooMany_init) [("__class__", cc_TooMany_init)] .none kV_TooMany_init doc_TooMany_init pm_TooMany_init an_TooMany_init (.ref cda_TooMany_init) ct_TooMany_init
  F_TooMany_init := funS_mk l_TooMany_init c_TooMany_init k_TooMany_init
  b_TooMany_init := (funS_mk l_TooMany_init c_TooMany_init k_TooMany_init).binds (st := s_TooMany_init) (ps := P_TooMany_init) fun _ _ _ _ _ us hl => match us, hl with | [_, _, _], _ => rfl
  ce_TooMany_init := ⟨_, _, _, cell_TooMany_init⟩
  sd_TooMany_init := ⟨⟨_, _, _, _, _, l_TooMany_init, rfl, rfl⟩, ⟨_, _, _, _, _, _, code_TooMany_init, vs_TooMany_init, fl_TooMany_init⟩, ⟨_, _, _, cell_TooMany_init⟩, ⟨_, cd_TooMany_init⟩, PySem.W.mg_none_of X G z_super, top_super, st_thirdparty⟩
  k_TooMany_init := k_TooMany_init
  a_is_number := A_is_number
  fd_is_number := PySem.W.fnOf "is_number" "is_number" (defArgs s_is_number) (defBody s_is_number) (defScope s_is_number) .none kV_is_number doc_is_number pm_is_number an_is_number cdv_is_number ct_is_number
  F_is_number := fun_mk (st := s_is_number) l_is_number c_is_number k_is_number
  b_is_number := (fun_mk (st := s_is_number) l_is_number c_is_number k_is_number).binds (ps := P_is_number) fun _ _ _ _ _ _ us hl => match us, hl with | [_, _, _], _ => rfl
  k_is_number := k_is_number
  m_is_number := PySem.W.mg_of X G a_is_number
  a_Rest_init := A_Rest_init
  fd_Rest_init := PySem.W.fnOf "__init__" "Rest.__init__" (defArgs s_Rest_init) (defBody s_Rest_init) (defScope s_Rest_init) .none kV_Rest_init doc_Rest_init pm_Rest_init an_Rest_init cdv_Rest_init ct_Rest_init
  F_Rest_init := fun_mk (st := s_Rest_init) l_Rest_init c_Rest_init k_Rest_init
  b_Rest_init := (fun_mk (st := s_Rest_init) l_Rest_init c_Rest_init k_Rest_init).binds (ps := P_Rest_init) fun _ _ _ _ _ _ us hl => match us, hl with | [_, _, _, _, _], _ => rfl
  k_Rest_init := k_Rest_init
  a_Rest_forms := A_Rest_forms
  fd_Rest_forms := PySem.W.fnOf "forms" "Rest.forms" (defArgs s_Rest_forms) (defBody s_Rest_forms) (defScope s_Rest_forms) .none kV_Rest_forms doc_Rest_forms pm_Rest_forms an_Rest_forms cdv_Rest_forms ct_Rest_forms
  F_Rest_forms := fun_mk (st := s_Rest_forms) l_Rest_forms c_Rest_forms k_Rest_forms
  b_Rest_forms := (fun_mk (st := s_Rest_forms) l_Rest_forms c_Rest_forms k_Rest_forms).binds (ps := P_Rest_forms) fun _ _ _ _ _ _ us hl => match us, hl with | [_], _ => rfl
  k_Rest_forms := k_Rest_forms
  a_Rest_period := A_Rest_period
  fd_Rest_period := PySem.W.fnOf "period" "Rest.period" (defArgs s_Rest_period) (defBody s_Rest_period) (defScope s_Rest_period) .none kV_Rest_period doc_Rest_period pm_Rest_period an_Rest_period cdv_Rest_period ct_Rest_period
  F_Rest_period := fun_mk (st := s_Rest_period) l_Rest_period c_Rest_period k_Rest_period
  b_Rest_period := (fun_mk (st := s_Rest_period) l_Rest_period c_Rest_period k_Rest_period).binds (ps := P_Rest_period) fun _ _ _ _ _ _ us hl => match us, hl with | [_], _ => rfl
  k_Rest_period := k_Rest_period
  a_Rest_bend := A_Rest_bend
  fd_Rest_bend := PySem.W.fnOf "bend" "Rest.bend" (defArgs s_Rest_bend) (defBody s_Rest_bend) (defScope s_Rest_bend) .none kV_Rest_bend doc_Rest_bend pm_Rest_bend an_Rest_bend cdv_Rest_bend ct_Rest_bend
  F_Rest_bend := fun_mk (st := s_Rest_bend) l_Rest_bend c_Rest_bend k_Rest_bend
  b_Rest_bend := (fun_mk (st := s_Rest_bend) l_Rest_bend c_Rest_bend k_Rest_bend).binds (ps := P_Rest_bend) fun _ _ _ _ _ _ us hl => match us, hl with | [_], _ => rfl
  k_Rest_bend := k_Rest_bend
  a_Rest_written := A_Rest_written
  fd_Rest_written := PySem.W.fnOf "written" "Rest.written" (defArgs s_Rest_written) (defBody s_Rest_written) (defScope s_Rest_written) .none kV_Rest_written doc_Rest_written pm_Rest_written an_Rest_written cdv_Rest_written ct_Rest_written
  F_Rest_written := fun_mk (st := s_Rest_written) l_Rest_written c_Rest_written k_Rest_written
  b_Rest_written := (fun_mk (st := s_Rest_written) l_Rest_written c_Rest_written k_Rest_written).binds (ps := P_Rest_written) fun _ _ _ _ _ _ us hl => match us, hl with | [_], _ => rfl
  k_Rest_written := k_Rest_written
  a_Rest_str := A_Rest_str
  fd_Rest_str := PySem.W.fnOf "__str__" "Rest.__str__" (defArgs s_Rest_str) (defBody s_Rest_str) (defScope s_Rest_str) .none kV_Rest_str doc_Rest_str pm_Rest_str an_Rest_str cdv_Rest_str ct_Rest_str
  F_Rest_str := fun_mk (st := s_Rest_str) l_Rest_str c_Rest_str k_Rest_str
  b_Rest_str := (fun_mk (st := s_Rest_str) l_Rest_str c_Rest_str k_Rest_str).binds (ps := P_Rest_str) fun _ _ _ _ _ _ us hl => match us, hl with | [_], _ => rfl
  k_Rest_str := k_Rest_str
  a_Rest_repr := A_Rest_repr
  fd_Rest_repr := PySem.W.fnOf "__repr__" "Rest.__repr__" (defArgs s_Rest_repr) (defBody s_Rest_repr) (defScope s_Rest_repr) .none kV_Rest_repr doc_Rest_repr pm_Rest_repr an_Rest_repr cdv_Rest_repr ct_Rest_repr
  F_Rest_repr := fun_mk (st := s_Rest_repr) l_Rest_repr c_Rest_repr k_Rest_repr
  b_Rest_repr := (fun_mk (st := s_Rest_repr) l_Rest_repr c_Rest_repr k_Rest_repr).binds (ps := P_Rest_repr) fun _ _ _ _ _ _ us hl => match us, hl with | [_], _ => rfl
  k_Rest_repr := k_Rest_repr
  a_Rest_eq := A_Rest_eq
  fd_Rest_eq := PySem.W.fnOf "__eq__" "Rest.__eq__" (defArgs s_Rest_eq) (defBody s_Rest_eq) (defScope s_Rest_eq) .none kV_Rest_eq doc_Rest_eq pm_Rest_eq an_Rest_eq cdv_Rest_eq ct_Rest_eq
  F_Rest_eq := fun_mk (st := s_Rest_eq) l_Rest_eq c_Rest_eq k_Rest_eq
  b_Rest_eq := (fun_mk (st := s_Rest_eq) l_Rest_eq c_Rest_eq k_Rest_eq).binds (ps := P_Rest_eq) fun _ _ _ _ _ _ us hl => match us, hl with | [_, _], _ => rfl
  k_Rest_eq := k_Rest_eq
  a_Window_init := A_Window_init
  cc_Window_init := cc_Window_init
  cda_Window_init := cda_Window_init
  fd_Window_init := PySem.W.fnX "__init__" "Window.__init__" (defArgs s_Window_init) (defBody s_Window_init) (defScope s_Window_init) [("__class__", cc_Window_init)] .none kV_Window_init doc_Window_init pm_Window_init an_Window_init (.ref cda_Window_init) ct_Window_init
  F_Window_init := funS_mk l_Window_init c_Window_init k_Window_init
  b_Window_init := (funS_mk l_Window_init c_Window_init k_Window_init).binds (st := s_Window_init) (ps := P_Window_init) fun _ _ _ _ _ us hl => match us, hl with | [_, _], _ => rfl
  ce_Window_init := ⟨_, _, _, cell_Window_init⟩
  sd_Window_init := ⟨⟨_, _, _, _, _, l_Window_init, rfl, rfl⟩, ⟨_, _, _, _, _, _, code_Window_init, vs_Window_init, fl_Window_init⟩, ⟨_, _, _, cell_Window_init⟩, ⟨_, cd_Window_init⟩, PySem.W.mg_none_of X G z_super, top_super, st_thirdparty⟩
  k_Window_init := k_Window_init
  a_Days_init := A_Days_init
  cc_Days_init := cc_Days_init
  cda_Days_init := cda_Days_init
  fd_Days_init := PySem.W.fnX "__init__" "Days.__init__" (defArgs s_Days_init) (defBody s_Days_init) (defScope s_Days_init) [("__class__", cc_Days_init)] .none kV_Days_init doc_Days_init pm_Days_init an_Days_init (.ref cda_Days_init) ct_Days_init
  F_Days_init := funS_mk l_Days_init c_Days_init k_Days_init
  b_Days_init := (funS_mk l_Days_init c_Days_init k_Days_init).binds (st := s_Days_init) (ps := P_Days_init) fun _ _ _ _ _ us hl => match us, hl with | [_, _, _], _ => rfl
  ce_Days_init := ⟨_, _, _, cell_Days_init⟩
  sd_Days_init := ⟨⟨_, _, _, _, _, l_Days_init, rfl, rfl⟩, ⟨_, _, _, _, _, _, code_Days_init, vs_Days_init, fl_Days_init⟩, ⟨_, _, _, cell_Days_init⟩, ⟨_, cd_Days_init⟩, PySem.W.mg_none_of X G z_super, top_super, st_thirdparty⟩
  k_Days_init := k_Days_init
  a_Days_borders := A_Days_borders
  fd_Days_borders := PySem.W.fnOf "borders" "Days.borders" (defArgs s_Days_borders) (defBody s_Days_borders) (defScope s_Days_borders) .none kV_Days_borders doc_Days_borders pm_Days_borders an_Days_borders cdv_Days_borders ct_Days_borders
  F_Days_borders := fun_mk (st := s_Days_borders) l_Days_borders c_Days_borders k_Days_borders
  b_Days_borders := (fun_mk (st := s_Days_borders) l_Days_borders c_Days_borders k_Days_borders).binds (ps := P_Days_borders) fun _ _ _ _ _ _ us hl => match us, hl with | [_], _ => rfl
  k_Days_borders := k_Days_borders
  a_joined := A_joined
  fd_joined := PySem.W.fnOf "joined" "joined" (defArgs s_joined) (defBody s_joined) (defScope s_joined) .none kV_joined doc_joined pm_joined an_joined cdv_joined ct_joined
  F_joined := fun_mk (st := s_joined) l_joined c_joined k_joined
  b_joined := (fun_mk (st := s_joined) l_joined c_joined k_joined).binds (ps := P_joined) fun _ _ _ _ _ _ us hl => match us, hl with | [_, _, _], _ => rfl
  k_joined := k_joined
  m_joined := PySem.W.mg_of X G a_joined
  a_Later_init := A_Later_init
  cc_Later_init := cc_Later_init
  cda_Later_init := cda_Later_init
  fd_Later_init := PySem.W.fnX "__init__" "Later.__init__" (defArgs s_Later_init) (defBody s_Later_init) (defScope s_Later_init) [("__class__", cc_Later_init)] .none kV_Later_init doc_Later_init pm_Later_init an_Later_init (.ref cda_Later_init) ct_Later_init
  F_Later_init := funS_mk l_Later_init c_Later_init k_Later_init
  b_Later_init := (funS_mk l_Later_init c_Later_init k_Later_init).binds (st := s_Later_init) (ps := P_Later_init) fun _ _ _ _ _ us hl => match us, hl with | [_, _, _], _ => rfl
  ce_Later_init := ⟨_, _, _, cell_Later_init⟩
  sd_Later_init := ⟨⟨_, _, _, _, _, l_Later_init, rfl, rfl⟩, ⟨_, _, _, _, _, _, code_Later_init, vs_Later_init, fl_Later_init⟩, ⟨_, _, _, cell_Later_init⟩, ⟨_, cd_Later_init⟩, PySem.W.mg_none_of X G z_super, top_super, st_thirdparty⟩
  k_Later_init := k_Later_init
  a_Sooner_init := A_Sooner_init
  cc_Sooner_init := cc_Sooner_init
  cda_Sooner_init := cda_Sooner_init
  fd_Sooner_init := PySem.W.fnX "__init__" "Sooner.__init__" (defArgs s_Sooner_init) (defBody s_Sooner_init) (defScope s_Sooner_init) [("__class__", cc_Sooner_init)] .none kV_Sooner_init doc_Sooner_init pm_Sooner_init an_Sooner_init (.ref cda_Sooner_init) ct_Sooner_init
  F_Sooner_init := funS_mk l_Sooner_init c_Sooner_init k_Sooner_init
  b_Sooner_init := (funS_mk l_Sooner_init c_Sooner_init k_Sooner_init).binds (st := s_Sooner_init) (ps := P_Sooner_init) fun _ _ _ _ _ us hl => match us, hl with | [_, _, _], _ => rfl
  ce_Sooner_init := ⟨_, _, _, cell_Sooner_init⟩
  sd_Sooner_init := ⟨⟨_, _, _, _, _, l_Sooner_init, rfl, rfl⟩, ⟨_, _, _, _, _, _, code_Sooner_init, vs_Sooner_init, fl_Sooner_init⟩, ⟨_, _, _, cell_Sooner_init⟩, ⟨_, cd_Sooner_init⟩, PySem.W.mg_none_of X G z_super, top_super, st_thirdparty⟩
  k_Sooner_init := k_Sooner_init
  a_Next_init := A_Next_init
  cc_Next_init := cc_Next_init
  cda_Next_init := cda_Next_init
  fd_Next_init := PySem.W.fnX "__init__" "Next.__init__" (defArgs s_Next_init) (defBody s_Next_init) (defScope s_Next_init) [("__class__", cc_Next_init)] .none kV_Next_init doc_Next_init pm_Next_init an_Next_init (.ref cda_Next_init) ct_Next_init
  F_Next_init := funS_mk l_Next_init c_Next_init k_Next_init
  b_Next_init := (funS_mk l_Next_init c_Next_init k_Next_init).binds (st := s_Next_init) (ps := P_Next_init) fun _ _ _ _ _ us hl => match us, hl with | [_, _, _], _ => rfl
  ce_Next_init := ⟨_, _, _, cell_Next_init⟩
  sd_Next_init := ⟨⟨_, _, _, _, _, l_Next_init, rfl, rfl⟩, ⟨_, _, _, _, _, _, code_Next_init, vs_Next_init, fl_Next_init⟩, ⟨_, _, _, cell_Next_init⟩, ⟨_, cd_Next_init⟩, PySem.W.mg_none_of X G z_super, top_super, st_thirdparty⟩
  k_Next_init := k_Next_init
  a_bag := A_bag
  fd_bag := PySem.W.fnOf "_law_bag" "_law_bag" (defArgs s_bag) (defBody s_bag) (defScope s_bag) .none kV_bag doc_bag pm_bag an_bag cdv_bag ct_bag
  F_bag := fun_mk (st := s_bag) l_bag c_bag k_bag
  b_bag := (fun_mk (st := s_bag) l_bag c_bag k_bag).binds (ps := P_bag) fun _ _ _ _ _ _ us hl => match us, hl with | [_], _ => rfl
  k_bag := k_bag
  m_bag := PySem.W.mg_of X G a_bag
  a_draw := A_draw
  fd_draw := PySem.W.fnOf "_law_draw" "_law_draw" (defArgs s_draw) (defBody s_draw) (defScope s_draw) .none kV_draw doc_draw pm_draw an_draw cdv_draw ct_draw
  F_draw := fun_mk (st := s_draw) l_draw c_draw k_draw
  b_draw := (fun_mk (st := s_draw) l_draw c_draw k_draw).binds (ps := P_draw) fun _ _ _ _ _ _ us hl => match us, hl with | [_, _], _ => rfl
  k_draw := k_draw
  m_draw := PySem.W.mg_of X G a_draw
  a_of := A_of
  fd_of := PySem.W.fnOf "_law_of" "_law_of" (defArgs s_of) (defBody s_of) (defScope s_of) .none kV_of doc_of pm_of an_of cdv_of ct_of
  F_of := fun_mk (st := s_of) l_of c_of k_of
  b_of := (fun_mk (st := s_of) l_of c_of k_of).binds (ps := P_of) fun _ _ _ _ _ _ us hl => match us, hl with | [_, _], _ => rfl
  k_of := k_of
  m_of := PySem.W.mg_of X G a_of
  a_like := A_like
  fd_like := PySem.W.fnOf "_law_like" "_law_like" (defArgs s_like) (defBody s_like) (defScope s_like) .none kV_like doc_like pm_like an_like cdv_like ct_like
  F_like := fun_mk (st := s_like) l_like c_like k_like
  b_like := (fun_mk (st := s_like) l_like c_like k_like).binds (ps := P_like) fun _ _ _ _ _ _ us hl => match us, hl with | [_, _], _ => rfl
  k_like := k_like
  m_like := PySem.W.mg_of X G a_like
  a_odd := A_odd
  fd_odd := PySem.W.fnOf "_law_odd" "_law_odd" (defArgs s_odd) (defBody s_odd) (defScope s_odd) .none kV_odd doc_odd pm_odd an_odd cdv_odd ct_odd
  F_odd := fun_mk (st := s_odd) l_odd c_odd k_odd
  b_odd := (fun_mk (st := s_odd) l_odd c_odd k_odd).binds (ps := P_odd) fun _ _ _ _ _ _ us hl => match us, hl with | [_], _ => rfl
  k_odd := k_odd
  m_odd := PySem.W.mg_of X G a_odd
  a_llcm := A_llcm
  fd_llcm := PySem.W.fnOf "_law_lcm" "_law_lcm" (defArgs s_llcm) (defBody s_llcm) (defScope s_llcm) .none kV_llcm doc_llcm pm_llcm an_llcm cdv_llcm ct_llcm
  F_llcm := fun_mk (st := s_llcm) l_llcm c_llcm k_llcm
  b_llcm := (fun_mk (st := s_llcm) l_llcm c_llcm k_llcm).binds (ps := P_llcm) fun _ _ _ _ _ _ us hl => match us, hl with | [_, _], _ => rfl
  k_llcm := k_llcm
  m_llcm := PySem.W.mg_of X G a_llcm
  a_text := A_text
  fd_text := PySem.W.fnOf "_law_text" "_law_text" (defArgs s_text) (defBody s_text) (defScope s_text) .none kV_text doc_text pm_text an_text cdv_text ct_text
  F_text := fun_mk (st := s_text) l_text c_text k_text
  b_text := (fun_mk (st := s_text) l_text c_text k_text).binds (ps := P_text) fun _ _ _ _ _ _ us hl => match us, hl with | [_], _ => rfl
  k_text := k_text
  m_text := PySem.W.mg_of X G a_text
  a_facts := A_facts
  fd_facts := PySem.W.fnOf "_law_facts" "_law_facts" (defArgs s_facts) (defBody s_facts) (defScope s_facts) .none kV_facts doc_facts pm_facts an_facts cdv_facts ct_facts
  F_facts := fun_mk (st := s_facts) l_facts c_facts k_facts
  b_facts := (fun_mk (st := s_facts) l_facts c_facts k_facts).binds (ps := P_facts) fun _ _ _ _ _ _ us hl => match us, hl with | [_], _ => rfl
  k_facts := k_facts
  m_facts := PySem.W.mg_of X G a_facts
  a_ask := A_ask
  fd_ask := PySem.W.fnOf "_law_ask" "_law_ask" (defArgs s_ask) (defBody s_ask) (defScope s_ask) .none kV_ask doc_ask pm_ask an_ask cdv_ask ct_ask
  F_ask := fun_mk (st := s_ask) l_ask c_ask k_ask
  b_ask := (fun_mk (st := s_ask) l_ask c_ask k_ask).binds (ps := P_ask) fun _ _ _ _ _ _ us hl => match us, hl with | [_], _ => rfl
  k_ask := k_ask
  m_ask := PySem.W.mg_of X G a_ask
  a_in := A_in
  fd_in := PySem.W.fnOf "_law_in" "_law_in" (defArgs s_in) (defBody s_in) (defScope s_in) .none kV_in doc_in pm_in an_in cdv_in ct_in
  F_in := fun_mk (st := s_in) l_in c_in k_in
  b_in := (fun_mk (st := s_in) l_in c_in k_in).binds (ps := P_in) fun _ _ _ _ _ _ us hl => match us, hl with | [_, _, _], _ => rfl
  k_in := k_in
  m_in := PySem.W.mg_of X G a_in
  a_number := A_number
  fd_number := PySem.W.fnOf "_law_number" "_law_number" (defArgs s_number) (defBody s_number) (defScope s_number) .none kV_number doc_number pm_number an_number cdv_number ct_number
  F_number := fun_mk (st := s_number) l_number c_number k_number
  b_number := (fun_mk (st := s_number) l_number c_number k_number).binds (ps := P_number) fun _ _ _ _ _ _ us hl => match us, hl with | [_, _], _ => rfl
  k_number := k_number
  m_number := PySem.W.mg_of X G a_number
  a_borders := A_borders
  fd_borders := PySem.W.fnOf "_law_borders" "_law_borders" (defArgs s_borders) (defBody s_borders) (defScope s_borders) .none kV_borders doc_borders pm_borders an_borders cdv_borders ct_borders
  F_borders := fun_mk (st := s_borders) l_borders c_borders k_borders
  b_borders := (fun_mk (st := s_borders) l_borders c_borders k_borders).binds (ps := P_borders) fun _ _ _ _ _ _ us hl => match us, hl with | [_], _ => rfl
  k_borders := k_borders
  m_borders := PySem.W.mg_of X G a_borders
  a_days_due := A_days_due
  fd_days_due := PySem.W.fnOf "_law_days_due" "_law_days_due" (defArgs s_days_due) (defBody s_days_due) (defScope s_days_due) .none kV_days_due doc_days_due pm_days_due an_days_due cdv_days_due ct_days_due
  F_days_due := fun_mk (st := s_days_due) l_days_due c_days_due k_days_due
  b_days_due := (fun_mk (st := s_days_due) l_days_due c_days_due k_days_due).binds (ps := P_days_due) fun _ _ _ _ _ _ us hl => match us, hl with | [_, _], _ => rfl
  k_days_due := k_days_due
  m_days_due := PySem.W.mg_of X G a_days_due
  a_window := A_window
  fd_window := PySem.W.fnOf "_law_window" "_law_window" (defArgs s_window) (defBody s_window) (defScope s_window) .none kV_window doc_window pm_window an_window (.ref cda_window) ct_window
  cda_window := cda_window
  tb_window := tb_window
  F_window := funL_mk (st := s_window) l_window c_window k_window
  b_window := (funL_mk (st := s_window) l_window c_window k_window).fn.binds (ps := P_window) fun _ _ _ _ _ _ us hl => match us, hl with | [_, _], _ => rfl
  k_window := k_window
  m_window := PySem.W.mg_of X G a_window
  a_days := A_days
  fd_days := PySem.W.fnOf "_law_days" "_law_days" (defArgs s_days) (defBody s_days) (defScope s_days) .none kV_days doc_days pm_days an_days (.ref cda_days) ct_days
  cda_days := cda_days
  tb_days := tb_days
  F_days := funL_mk (st := s_days) l_days c_days k_days
  b_days := (funL_mk (st := s_days) l_days c_days k_days).fn.binds (ps := P_days) fun _ _ _ _ _ _ us hl => match us, hl with | [_, _], _ => rfl
  k_days := k_days
  m_days := PySem.W.mg_of X G a_days
  a_pair := A_pair
  fd_pair := PySem.W.fnOf "_law_pair" "_law_pair" (defArgs s_pair) (defBody s_pair) (defScope s_pair) .none kV_pair doc_pair pm_pair an_pair cdv_pair ct_pair
  F_pair := fun_mk (st := s_pair) l_pair c_pair k_pair
  b_pair := (fun_mk (st := s_pair) l_pair c_pair k_pair).binds (ps := P_pair) fun _ _ _ _ _ _ us hl => match us, hl with | [_, _, _, _], _ => rfl
  k_pair := k_pair
  m_pair := PySem.W.mg_of X G a_pair
  a_pair_due := A_pair_due
  fd_pair_due := PySem.W.fnOf "_law_pair_due" "_law_pair_due" (defArgs s_pair_due) (defBody s_pair_due) (defScope s_pair_due) .none kV_pair_due doc_pair_due pm_pair_due an_pair_due cdv_pair_due ct_pair_due
  F_pair_due := fun_mk (st := s_pair_due) l_pair_due c_pair_due k_pair_due
  b_pair_due := (fun_mk (st := s_pair_due) l_pair_due c_pair_due k_pair_due).binds (ps := P_pair_due) fun _ _ _ _ _ _ us hl => match us, hl with | [_, _], _ => rfl
  k_pair_due := k_pair_due
  m_pair_due := PySem.W.mg_of X G a_pair_due
  a_class_so := A_class_so
  fd_class_so := PySem.W.fnOf "_law_class_so" "_law_class_so" (defArgs s_class_so) (defBody s_class_so) (defScope s_class_so) .none kV_class_so doc_class_so pm_class_so an_class_so cdv_class_so ct_class_so
  F_class_so := fun_mk (st := s_class_so) l_class_so c_class_so k_class_so
  b_class_so := (fun_mk (st := s_class_so) l_class_so c_class_so k_class_so).binds (ps := P_class_so) fun _ _ _ _ _ _ us hl => match us, hl with | [_, _], _ => rfl
  k_class_so := k_class_so
  m_class_so := PySem.W.mg_of X G a_class_so
  a_under := A_under
  fd_under := PySem.W.fnOf "_law_under" "_law_under" (defArgs s_under) (defBody s_under) (defScope s_under) .none kV_under doc_under pm_under an_under (.ref cda_under) ct_under
  cda_under := cda_under
  tb_under := tb_under
  F_under := funL_mk (st := s_under) l_under c_under k_under
  b_under := (funL_mk (st := s_under) l_under c_under k_under).fn.binds (ps := P_under) fun _ _ _ _ _ _ us hl => match us, hl with | [_, _], _ => rfl
  k_under := k_under
  m_under := PySem.W.mg_of X G a_under
  a_told_so := A_told_so
  fd_told_so := PySem.W.fnOf "_law_told_so" "_law_told_so" (defArgs s_told_so) (defBody s_told_so) (defScope s_told_so) .none kV_told_so doc_told_so pm_told_so an_told_so cdv_told_so ct_told_so
  F_told_so := fun_mk (st := s_told_so) l_told_so c_told_so k_told_so
  b_told_so := (fun_mk (st := s_told_so) l_told_so c_told_so k_told_so).binds (ps := P_told_so) fun _ _ _ _ _ _ us hl => match us, hl with | [_, _], _ => rfl
  k_told_so := k_told_so
  m_told_so := PySem.W.mg_of X G a_told_so
  a_equal_so := A_equal_so
  fd_equal_so := PySem.W.fnOf "_law_equal_so" "_law_equal_so" (defArgs s_equal_so) (defBody s_equal_so) (defScope s_equal_so) .none kV_equal_so doc_equal_so pm_equal_so an_equal_so cdv_equal_so ct_equal_so
  F_equal_so := fun_mk (st := s_equal_so) l_equal_so c_equal_so k_equal_so
  b_equal_so := (fun_mk (st := s_equal_so) l_equal_so c_equal_so k_equal_so).binds (ps := P_equal_so) fun _ _ _ _ _ _ us hl => match us, hl with | [_, _], _ => rfl
  k_equal_so := k_equal_so
  m_equal_so := PySem.W.mg_of X G a_equal_so
  a_law := A_law
  fd_law := PySem.W.fnOf "law" "law" (defArgs s_law) (defBody s_law) (defScope s_law) .none kV_law doc_law pm_law an_law cdv_law ct_law
  F_law := fun_mk (st := s_law) l_law c_law k_law
  b_law := (fun_mk (st := s_law) l_law c_law k_law).binds (ps := P_law) fun _ _ _ _ _ _ us hl => match us, hl with | [_], _ => rfl
  k_law := k_law
  m_law := PySem.W.mg_of X G a_law
  tne_window_days := tne_window_days
  tne_window_under := tne_window_under
  tne_days_under := tne_days_under
  n_all := PySem.W.mg_none_of X G z_all
  n_bool := PySem.W.mg_none_of X G z_bool
  n_dict := PySem.W.mg_none_of X G z_dict
  n_enumerate := PySem.W.mg_none_of X G z_enumerate
  n_int := PySem.W.mg_none_of X G z_int
  n_isinstance := PySem.W.mg_none_of X G z_isinstance
  n_len := PySem.W.mg_none_of X G z_len
  n_list := PySem.W.mg_none_of X G z_list
  n_max := PySem.W.mg_none_of X G z_max
  n_range := PySem.W.mg_none_of X G z_range
  n_repr := PySem.W.mg_none_of X G z_repr
  n_str := PySem.W.mg_none_of X G z_str
  n_super := PySem.W.mg_none_of X G z_super
  n_tuple := PySem.W.mg_none_of X G z_tuple
  n_zip := PySem.W.mg_none_of X G z_zip
  t_BORDERS := t_BORDERS
  m_BORDERS := PySem.W.mg_of X G ac_BORDERS
  r_BORDERS := ⟨_, rfl⟩
  t_FORMS := t_FORMS
  m_FORMS := PySem.W.mg_of X G ac_FORMS
  r_FORMS := ⟨_, rfl⟩
  t_PERIOD := t_PERIOD
  m_PERIOD := PySem.W.mg_of X G ac_PERIOD
  r_PERIOD := ⟨_, rfl⟩
  m_lcm := PySem.W.mg_of X G ab_lcm
  kb_Days_init_every_borders := ⟨fun s us ws _ h => by (rcases us with _ | ⟨u0, _ | ⟨zz, us⟩⟩ <;> rcases ws with _ | ⟨w0, _ | ⟨w1, _ | ⟨z, ws⟩⟩⟩ <;> first | exact absurd h (fun z => Nat.noConfusion (show (0 : Nat) = Nat.succ _ from z)) | exact .of_eq rfl), fun r1 r2 => by (cases r1 with | nil => exact .nil | cons g0 r1 => (cases r1 with | nil => (cases r2 with | nil => exact .nil | cons h0 r2 => (cases r2 with | nil => exact .nil | cons h1 r2 => (cases r2 with | nil => exact (.cons g0 (.cons h1 (.cons h0 .nil))) | cons _ _ => exact .nil))) | cons _ _ => exact .nil))⟩
  kb_Later_init_second_first := ⟨fun s us ws _ h => by (rcases us with _ | ⟨u0, _ | ⟨zz, us⟩⟩ <;> rcases ws with _ | ⟨w0, _ | ⟨w1, _ | ⟨z, ws⟩⟩⟩ <;> first | exact absurd h (fun z => Nat.noConfusion (show (0 : Nat) = Nat.succ _ from z)) | exact .of_eq rfl), fun r1 r2 => by (cases r1 with | nil => exact .nil | cons g0 r1 => (cases r1 with | nil => (cases r2 with | nil => exact .nil | cons h0 r2 => (cases r2 with | nil => exact .nil | cons h1 r2 => (cases r2 with | nil => exact (.cons g0 (.cons h1 (.cons h0 .nil))) | cons _ _ => exact .nil))) | cons _ _ => exact .nil))⟩
  kb_Next_init_second_first := ⟨fun s us ws _ h => by (rcases us with _ | ⟨u0, _ | ⟨zz, us⟩⟩ <;> rcases ws with _ | ⟨w0, _ | ⟨w1, _ | ⟨z, ws⟩⟩⟩ <;> first | exact absurd h (fun z => Nat.noConfusion (show (0 : Nat) = Nat.succ _ from z)) | exact .of_eq rfl), fun r1 r2 => by (cases r1 with | nil => exact .nil | cons g0 r1 => (cases r1 with | nil => (cases r2 with | nil => exact .nil | cons h0 r2 => (cases r2 with | nil => exact .nil | cons h1 r2 => (cases r2 with | nil => exact (.cons g0 (.cons h1 (.cons h0 .nil))) | cons _ _ => exact .nil))) | cons _ _ => exact .nil))⟩
  kb_Sooner_init_second_first := ⟨fun s us ws _ h => by (rcases us with _ | ⟨u0, _ | ⟨zz, us⟩⟩ <;> rcases ws with _ | ⟨w0, _ | ⟨w1, _ | ⟨z, ws⟩⟩⟩ <;> first | exact absurd h (fun z => Nat.noConfusion (show (0 : Nat) = Nat.succ _ from z)) | exact .of_eq rfl), fun r1 r2 => by (cases r1 with | nil => exact .nil | cons g0 r1 => (cases r1 with | nil => (cases r2 with | nil => exact .nil | cons h0 r2 => (cases r2 with | nil => exact .nil | cons h1 r2 => (cases r2 with | nil => exact (.cons g0 (.cons h1 (.cons h0 .nil))) | cons _ _ => exact .nil))) | cons _ _ => exact .nil))⟩
  kb_Window_init_width := ⟨fun s us ws _ h => by (rcases us with _ | ⟨u0, _ | ⟨zz, us⟩⟩ <;> rcases ws with _ | ⟨w0, _ | ⟨z, ws⟩⟩ <;> first | exact absurd h (fun z => Nat.noConfusion (show (0 : Nat) = Nat.succ _ from z)) | exact .of_eq rfl), fun r1 r2 => by (cases r1 with | nil => exact .nil | cons g0 r1 => (cases r1 with | nil => (cases r2 with | nil => exact .nil | cons h0 r2 => (cases r2 with | nil => exact (.cons g0 (.cons h0 .nil)) | cons _ _ => exact .nil)) | cons _ _ => exact .nil))⟩
  oex_InvalidNumber := ⟨⟨_, _, _, _, _, _, _, _, _, _, _, _, _, _, _, el_InvalidNumber, rfl⟩, es_InvalidNumber, eb_InvalidNumber, et_InvalidNumber, ek_InvalidNumber⟩
  se_InvalidNumber := ⟨⟨⟨_, _, _, _, _, _, _, _, _, _, _, _, _, _, _, el_InvalidNumber, rfl⟩, es_InvalidNumber, eb_InvalidNumber, et_InvalidNumber, ek_InvalidNumber⟩, em_InvalidNumber, eu_InvalidNumber, ev_InvalidNumber⟩
  xf_InvalidNumber := ⟨ega_InvalidNumber, egg_InvalidNumber, eb_InvalidNumber, ehd_InvalidNumber⟩
  ii_InvalidNumber := a_InvalidNumber_init
  ti_InvalidNumber := eti_InvalidNumber
  exm_InvalidNumber_InvalidNumber := exm_selfE xb_InvalidNumber_InvalidNumber xi_InvalidNumber_InvalidNumber xt_InvalidNumber_InvalidNumber xs_InvalidNumber_InvalidNumber
  no_InvalidNumber_value := no_InvalidNumber_value
  no_InvalidNumber_code := no_InvalidNumber_code
  oex_InvalidBorders := ⟨⟨_, _, _, _, _, _, _, _, _, _, _, _, _, _, _, el_InvalidBorders, rfl⟩, es_InvalidBorders, eb_InvalidBorders, et_InvalidBorders, ek_InvalidBorders⟩
  se_InvalidBorders := ⟨⟨⟨_, _, _, _, _, _, _, _, _, _, _, _, _, _, _, el_InvalidBorders, rfl⟩, es_InvalidBorders, eb_InvalidBorders, et_InvalidBorders, ek_InvalidBorders⟩, em_InvalidBorders, eu_InvalidBorders, ev_InvalidBorders⟩
  xf_InvalidBorders := ⟨ega_InvalidBorders, egg_InvalidBorders, eb_InvalidBorders, ehd_InvalidBorders⟩
  ii_InvalidBorders := a_InvalidBorders_init
  ti_InvalidBorders := eti_InvalidBorders
  exm_InvalidBorders_InvalidNumber := exm_selfE xb_InvalidBorders_InvalidNumber xi_InvalidBorders_InvalidNumber xt_InvalidBorders_InvalidNumber xs_InvalidBorders_InvalidNumber
  exm_InvalidBorders_InvalidBorders := exm_selfE xb_InvalidBorders_InvalidBorders xi_InvalidBorders_InvalidBorders xt_InvalidBorders_InvalidBorders xs_InvalidBorders_InvalidBorders
  no_InvalidBorders_at := no_InvalidBorders_at
  no_InvalidBorders_code := no_InvalidBorders_code
  oex_InvalidRest := ⟨⟨_, _, _, _, _, _, _, _, _, _, _, _, _, _, _, el_InvalidRest, rfl⟩, es_InvalidRest, eb_InvalidRest, et_InvalidRest, ek_InvalidRest⟩
  se_InvalidRest := ⟨⟨⟨_, _, _, _, _, _, _, _, _, _, _, _, _, _, _, el_InvalidRest, rfl⟩, es_InvalidRest, eb_InvalidRest, et_InvalidRest, ek_InvalidRest⟩, em_InvalidRest, eu_InvalidRest, ev_InvalidRest⟩
  xf_InvalidRest := ⟨ega_InvalidRest, egg_InvalidRest, eb_InvalidRest, ehd_InvalidRest⟩
  ii_InvalidRest := a_InvalidRest_init
  ti_InvalidRest := eti_InvalidRest
  exm_InvalidRest_InvalidNumber := exm_selfE xb_InvalidRest_InvalidNumber xi_InvalidRest_InvalidNumber xt_InvalidRest_InvalidNumber xs_InvalidRest_InvalidNumber
  exm_InvalidRest_InvalidBorders := exm_selfE xb_InvalidRest_InvalidBorders xi_InvalidRest_InvalidBorders xt_InvalidRest_InvalidBorders xs_InvalidRest_InvalidBorders
  exm_InvalidRest_InvalidRest := exm_selfE xb_InvalidRest_InvalidRest xi_InvalidRest_InvalidRest xt_InvalidRest_InvalidRest xs_InvalidRest_InvalidRest
  no_InvalidRest_value := no_InvalidRest_value
  no_InvalidRest_code := no_InvalidRest_code
  oex_TooMany := ⟨⟨_, _, _, _, _, _, _, _, _, _, _, _, _, _, _, el_TooMany, rfl⟩, es_TooMany, eb_TooMany, et_TooMany, ek_TooMany⟩
  se_TooMany := ⟨⟨⟨_, _, _, _, _, _, _, _, _, _, _, _, _, _, _, el_TooMany, rfl⟩, es_TooMany, eb_TooMany, et_TooMany, ek_TooMany⟩, em_TooMany, eu_TooMany, ev_TooMany⟩
  xf_TooMany := ⟨ega_TooMany, egg_TooMany, eb_TooMany, ehd_TooMany⟩
  ii_TooMany := a_TooMany_init
  ti_TooMany := eti_TooMany
  exm_TooMany_InvalidNumber := exm_selfE xb_TooMany_InvalidNumber xi_TooMany_InvalidNumber xt_TooMany_InvalidNumber xs_TooMany_InvalidNumber
  exm_TooMany_InvalidBorders := exm_selfE xb_TooMany_InvalidBorders xi_TooMany_InvalidBorders xt_TooMany_InvalidBorders xs_TooMany_InvalidBorders
  exm_TooMany_InvalidRest := exm_selfE xb_TooMany_InvalidRest xi_TooMany_InvalidRest xt_TooMany_InvalidRest xs_TooMany_InvalidRest
  exm_TooMany_TooMany := exm_selfE xb_TooMany_TooMany xi_TooMany_TooMany xt_TooMany_TooMany xs_TooMany_TooMany
  no_TooMany_what := no_TooMany_what
  no_TooMany_count := no_TooMany_count
  no_TooMany_code := no_TooMany_code
  kb_int_Rest := kb_int_Rest
  kb_bool_Rest := kb_bool_Rest
  kb_str_Rest := kb_str_Rest
  kb_NoneType_Rest := kb_NoneType_Rest
  kb_list_Rest := kb_list_Rest
  kb_tuple_Rest := kb_tuple_Rest
  kb_dict_Rest := kb_dict_Rest
  cl_Window := ⟨pg_Window, hd_Window, po_Window, sa_Window⟩
  mk_Window := ⟨mk_Window, a_Window_init, i_Window_init, kc_Window⟩
  ty_Window := ⟨⟨pg_Window, hd_Window, po_Window, sa_Window⟩, th_Window, tn_Window, tk_Window, tm_Window⟩
  kt_Window_Rest := kt_Window_Rest
  kt_Window_Window := kt_Window_Window
  kt_Window_Days := kt_Window_Days
  kt_Window_Later := kt_Window_Later
  kt_Window_Sooner := kt_Window_Sooner
  kt_Window_Next := kt_Window_Next
  su_Window := ⟨su_Window, sm_Window, sf_Window, st_Window⟩
  no_Window_text := no_Window_text
  no_Window_forms := no_Window_forms
  no_Window_period := no_Window_period
  no_Window_bend := no_Window_bend
  no_Window_width := no_Window_width
  me_Window_forms := ⟨me_Window_forms, mi_Window_forms, k_Rest_forms⟩
  me_Window_period := ⟨me_Window_period, mi_Window_period, k_Rest_period⟩
  me_Window_bend := ⟨me_Window_bend, mi_Window_bend, k_Rest_bend⟩
  me_Window_written := ⟨me_Window_written, mi_Window_written, k_Rest_written⟩
  strf_Window := strf_Window
  stri_Window := stri_Window
  reprf_Window := reprf_Window
  repri_Window := repri_Window
  eqf_Window := eqf_Window
  eqi_Window := eqi_Window
  nf_Window_str := nf_Window_str
  nf_Window_int := nf_Window_int
  nf_Window := nf_Window
  nf_Window_NoneType := nf_Window_NoneType
  nf_Window_bool := nf_Window_bool
  nf_Window_list := nf_Window_list
  nf_Window_tuple := nf_Window_tuple
  nef_Window := nef_Window
  nem_Window := nem_Window
  nf_Window_Days := nf_Window_Days
  nf_Window_Later := nf_Window_Later
  nf_Window_Sooner := nf_Window_Sooner
  nf_Window_Next := nf_Window_Next
  kb_int_Window := kb_int_Window
  kb_bool_Window := kb_bool_Window
  kb_str_Window := kb_str_Window
  kb_NoneType_Window := kb_NoneType_Window
  kb_list_Window := kb_list_Window
  kb_tuple_Window := kb_tuple_Window
  kb_dict_Window := kb_dict_Window
  cl_Days := ⟨pg_Days, hd_Days, po_Days, sa_Days⟩
  mk_Days := ⟨mk_Days, a_Days_init, i_Days_init, kc_Days⟩
  ty_Days := ⟨⟨pg_Days, hd_Days, po_Days, sa_Days⟩, th_Days, tn_Days, tk_Days, tm_Days⟩
  kt_Days_Rest := kt_Days_Rest
  kt_Days_Window := kt_Days_Window
  kt_Days_Days := kt_Days_Days
  kt_Days_Later := kt_Days_Later
  kt_Days_Sooner := kt_Days_Sooner
  kt_Days_Next := kt_Days_Next
  su_Days := ⟨su_Days, sm_Days, sf_Days, st_Days⟩
  no_Days_text := no_Days_text
  no_Days_forms := no_Days_forms
  no_Days_period := no_Days_period
  no_Days_bend := no_Days_bend
  no_Days_every := no_Days_every
  no_Days_borders := no_Days_borders
  me_Days_forms := ⟨me_Days_forms, mi_Days_forms, k_Rest_forms⟩
  me_Days_period := ⟨me_Days_period, mi_Days_period, k_Rest_period⟩
  me_Days_bend := ⟨me_Days_bend, mi_Days_bend, k_Rest_bend⟩
  me_Days_written := ⟨me_Days_written, mi_Days_written, k_Rest_written⟩
  me_Days_borders := ⟨me_Days_borders, mi_Days_borders, k_Days_borders⟩
  strf_Days := strf_Days
  stri_Days := stri_Days
  reprf_Days := reprf_Days
  repri_Days := repri_Days
  eqf_Days := eqf_Days
  eqi_Days := eqi_Days
  nf_Days_str := nf_Days_str
  nf_Days_int := nf_Days_int
  nf_Days := nf_Days
  nf_Days_NoneType := nf_Days_NoneType
  nf_Days_bool := nf_Days_bool
  nf_Days_list := nf_Days_list
  nf_Days_tuple := nf_Days_tuple
  nef_Days := nef_Days
  nem_Days := nem_Days
  nf_Days_Window := nf_Days_Window
  nf_Days_Later := nf_Days_Later
  nf_Days_Sooner := nf_Days_Sooner
  nf_Days_Next := nf_Days_Next
  kb_int_Days := kb_int_Days
  kb_bool_Days := kb_bool_Days
  kb_str_Days := kb_str_Days
  kb_NoneType_Days := kb_NoneType_Days
  kb_list_Days := kb_list_Days
  kb_tuple_Days := kb_tuple_Days
  kb_dict_Days := kb_dict_Days
  cl_Later := ⟨pg_Later, hd_Later, po_Later, sa_Later⟩
  mk_Later := ⟨mk_Later, a_Later_init, i_Later_init, kc_Later⟩
  ty_Later := ⟨⟨pg_Later, hd_Later, po_Later, sa_Later⟩, th_Later, tn_Later, tk_Later, tm_Later⟩
  kt_Later_Rest := kt_Later_Rest
  kt_Later_Window := kt_Later_Window
  kt_Later_Days := kt_Later_Days
  kt_Later_Later := kt_Later_Later
  kt_Later_Sooner := kt_Later_Sooner
  kt_Later_Next := kt_Later_Next
  su_Later := ⟨su_Later, sm_Later, sf_Later, st_Later⟩
  no_Later_text := no_Later_text
  no_Later_forms := no_Later_forms
  no_Later_period := no_Later_period
  no_Later_bend := no_Later_bend
  no_Later_first := no_Later_first
  no_Later_second := no_Later_second
  me_Later_forms := ⟨me_Later_forms, mi_Later_forms, k_Rest_forms⟩
  me_Later_period := ⟨me_Later_period, mi_Later_period, k_Rest_period⟩
  me_Later_bend := ⟨me_Later_bend, mi_Later_bend, k_Rest_bend⟩
  me_Later_written := ⟨me_Later_written, mi_Later_written, k_Rest_written⟩
  strf_Later := strf_Later
  stri_Later := stri_Later
  reprf_Later := reprf_Later
  repri_Later := repri_Later
  eqf_Later := eqf_Later
  eqi_Later := eqi_Later
  nf_Later_str := nf_Later_str
  nf_Later_int := nf_Later_int
  nf_Later := nf_Later
  nf_Later_NoneType := nf_Later_NoneType
  nf_Later_bool := nf_Later_bool
  nf_Later_list := nf_Later_list
  nf_Later_tuple := nf_Later_tuple
  nef_Later := nef_Later
  nem_Later := nem_Later
  nf_Later_Window := nf_Later_Window
  nf_Later_Days := nf_Later_Days
  nf_Later_Sooner := nf_Later_Sooner
  nf_Later_Next := nf_Later_Next
  kb_int_Later := kb_int_Later
  kb_bool_Later := kb_bool_Later
  kb_str_Later := kb_str_Later
  kb_NoneType_Later := kb_NoneType_Later
  kb_list_Later := kb_list_Later
  kb_tuple_Later := kb_tuple_Later
  kb_dict_Later := kb_dict_Later
  cl_Sooner := ⟨pg_Sooner, hd_Sooner, po_Sooner, sa_Sooner⟩
  mk_Sooner := ⟨mk_Sooner, a_Sooner_init, i_Sooner_init, kc_Sooner⟩
  ty_Sooner := ⟨⟨pg_Sooner, hd_Sooner, po_Sooner, sa_Sooner⟩, th_Sooner, tn_Sooner, tk_Sooner, tm_Sooner⟩
  kt_Sooner_Rest := kt_Sooner_Rest
  kt_Sooner_Window := kt_Sooner_Window
  kt_Sooner_Days := kt_Sooner_Days
  kt_Sooner_Later := kt_Sooner_Later
  kt_Sooner_Sooner := kt_Sooner_Sooner
  kt_Sooner_Next := kt_Sooner_Next
  su_Sooner := ⟨su_Sooner, sm_Sooner, sf_Sooner, st_Sooner⟩
  no_Sooner_text := no_Sooner_text
  no_Sooner_forms := no_Sooner_forms
  no_Sooner_period := no_Sooner_period
  no_Sooner_bend := no_Sooner_bend
  no_Sooner_first := no_Sooner_first
  no_Sooner_second := no_Sooner_second
  me_Sooner_forms := ⟨me_Sooner_forms, mi_Sooner_forms, k_Rest_forms⟩
  me_Sooner_period := ⟨me_Sooner_period, mi_Sooner_period, k_Rest_period⟩
  me_Sooner_bend := ⟨me_Sooner_bend, mi_Sooner_bend, k_Rest_bend⟩
  me_Sooner_written := ⟨me_Sooner_written, mi_Sooner_written, k_Rest_written⟩
  strf_Sooner := strf_Sooner
  stri_Sooner := stri_Sooner
  reprf_Sooner := reprf_Sooner
  repri_Sooner := repri_Sooner
  eqf_Sooner := eqf_Sooner
  eqi_Sooner := eqi_Sooner
  nf_Sooner_str := nf_Sooner_str
  nf_Sooner_int := nf_Sooner_int
  nf_Sooner := nf_Sooner
  nf_Sooner_NoneType := nf_Sooner_NoneType
  nf_Sooner_bool := nf_Sooner_bool
  nf_Sooner_list := nf_Sooner_list
  nf_Sooner_tuple := nf_Sooner_tuple
  nef_Sooner := nef_Sooner
  nem_Sooner := nem_Sooner
  nf_Sooner_Window := nf_Sooner_Window
  nf_Sooner_Days := nf_Sooner_Days
  nf_Sooner_Later := nf_Sooner_Later
  nf_Sooner_Next := nf_Sooner_Next
  kb_int_Sooner := kb_int_Sooner
  kb_bool_Sooner := kb_bool_Sooner
  kb_str_Sooner := kb_str_Sooner
  kb_NoneType_Sooner := kb_NoneType_Sooner
  kb_list_Sooner := kb_list_Sooner
  kb_tuple_Sooner := kb_tuple_Sooner
  kb_dict_Sooner := kb_dict_Sooner
  cl_Next := ⟨pg_Next, hd_Next, po_Next, sa_Next⟩
  mk_Next := ⟨mk_Next, a_Next_init, i_Next_init, kc_Next⟩
  ty_Next := ⟨⟨pg_Next, hd_Next, po_Next, sa_Next⟩, th_Next, tn_Next, tk_Next, tm_Next⟩
  kt_Next_Rest := kt_Next_Rest
  kt_Next_Window := kt_Next_Window
  kt_Next_Days := kt_Next_Days
  kt_Next_Later := kt_Next_Later
  kt_Next_Sooner := kt_Next_Sooner
  kt_Next_Next := kt_Next_Next
  su_Next := ⟨su_Next, sm_Next, sf_Next, st_Next⟩
  no_Next_text := no_Next_text
  no_Next_forms := no_Next_forms
  no_Next_period := no_Next_period
  no_Next_bend := no_Next_bend
  no_Next_first := no_Next_first
  no_Next_second := no_Next_second
  me_Next_forms := ⟨me_Next_forms, mi_Next_forms, k_Rest_forms⟩
  me_Next_period := ⟨me_Next_period, mi_Next_period, k_Rest_period⟩
  me_Next_bend := ⟨me_Next_bend, mi_Next_bend, k_Rest_bend⟩
  me_Next_written := ⟨me_Next_written, mi_Next_written, k_Rest_written⟩
  strf_Next := strf_Next
  stri_Next := stri_Next
  reprf_Next := reprf_Next
  repri_Next := repri_Next
  eqf_Next := eqf_Next
  eqi_Next := eqi_Next
  nf_Next_str := nf_Next_str
  nf_Next_int := nf_Next_int
  nf_Next := nf_Next
  nf_Next_NoneType := nf_Next_NoneType
  nf_Next_bool := nf_Next_bool
  nf_Next_list := nf_Next_list
  nf_Next_tuple := nf_Next_tuple
  nef_Next := nef_Next
  nem_Next := nem_Next
  nf_Next_Window := nf_Next_Window
  nf_Next_Days := nf_Next_Days
  nf_Next_Later := nf_Next_Later
  nf_Next_Sooner := nf_Next_Sooner
  kb_int_Next := kb_int_Next
  kb_bool_Next := kb_bool_Next
  kb_str_Next := kb_str_Next
  kb_NoneType_Next := kb_NoneType_Next
  kb_list_Next := kb_list_Next
  kb_tuple_Next := kb_tuple_Next
  kb_dict_Next := kb_dict_Next
theorem tabIn_of {K : PySem.W.Frag} {x : Str} {f cda P : Addr} {oc : Value} {od : Option Addr} {fd : FuncData} {sl sl2 : Array (Option Value)} {e : Value} {dd : Option Addr} {vs : Array Value} (h1 : PySem.W.nsIn K mainGlobals x = some (some (.ref f))) (h2 : K.lookup f = some ⟨oc, od, .func fd, sl⟩)
    (h3 : fd.code = .ref cda) (h4 : K.lookup cda = some ⟨e, dd, .fields vs, sl2⟩) (h5 : vs[11]? = some (.ref P)) : PySem.W.tabIn K x = some (cda, P) := by
  unfold PySem.W.tabIn
  rw [h1]
  simp only [h2, h3, h4, h5]
abbrev TabsTold (q : Program) (K : PySem.W.Frag) (h : Heap) : Prop := ∀ (x : Str) (c P : Addr), ((recsOf q).find? fun e => e.name == x).isSome = true → PySem.W.tabIn K x = some (c, P) → PySem.W.CodeHd h c P ∧ h.get? P = some (PySem.W.tabObj #[])
theorem all_mk {q : Program} {w : World} {K : PySem.W.Frag} {h : Heap} {mg : Str → Option Value} {fa : Addr} (X : K.In h) (G : h.Ns mainGlobals mg) (hfa : mg "law" = some (.ref fa)) (tab : TabsTold q K h) (rc_window : ((recsOf q).find? fun e => e.name == ("_law_window" : Str)).isSome = true) (rc_days : ((recsOf q).find? fun e => e.name == ("_law_days" : Str)).isSome = true) (rc_under : ((recsOf q).find? fun e => e.name == ("_law_under" : Str)).isSome = true) {C_SureletError : Addr} {C_InvalidNumber : Addr} {C_InvalidBorders : Addr} {C_InvalidRest : Addr} {C_TooMany : Addr} {C_Rest : Addr} {C_Window : Addr} {C_Days : Addr} {C_Later : Addr} {C_Sooner : Addr} {C_Next : Addr} {A_InvalidNumber_init : Addr} {oc_InvalidNumber_init kV_InvalidNumber_init doc_InvalidNumber_init pm_InvalidNumber_init ct_InvalidNumber_init : Value} {od_InvalidNumber_init an_InvalidNumber_init : Option Addr} {sl_InvalidNumber_init : Array (Option Value)} {cc_InvalidNumber_init cda_InvalidNumber_init : Addr} {cl_InvalidNumber_init ccl_InvalidNumber_init : Value} {cld_InvalidNumber_init cdd_InvalidNumber_init : Option Addr} {csl_InvalidNumber_init ccs_InvalidNumber_init : Array (Option Value)} {vs_InvalidNumber_init : Array Value} {file_InvalidNumber_init : Str} {tf_InvalidNumber_init : Tok} {cd_InvalidNumber_init : PySem.ClassData} {A_InvalidBorders_init : Addr} {oc_InvalidBorders_init kV_InvalidBorders_init doc_InvalidBorders_init pm_InvalidBorders_init ct_InvalidBorders_init : Value} {od_InvalidBorders_init an_InvalidBorders_init : Option Addr} {sl_InvalidBorders_init : Array (Option Value)} {cc_InvalidBorders_init cda_InvalidBorders_init : Addr} {cl_InvalidBorders_init ccl_InvalidBorders_init : Value} {cld_InvalidBorders_init cdd_InvalidBorders_init : Option Addr} {csl_InvalidBorders_init ccs_InvalidBorders_init : Array (Option Value)} {vs_InvalidBorders_init : Array Value} {file_InvalidBorders_init : Str} {tf_InvalidBorders_init : Tok} {cd_InvalidBorders_init : PySem.ClassData} {A_InvalidRest_init : Addr} {oc_InvalidRest_init kV_InvalidRest_init doc_InvalidRest_init pm_InvalidRest_init ct_InvalidRest_init : Value} {od_InvalidRest_init an_InvalidRest_init : Option Addr} {sl_InvalidRest_init : Array (Option Value)} {cc_InvalidRest_init cda_InvalidRest_init : Addr} {cl_InvalidRest_init ccl_InvalidRest_init : Value} {cld_InvalidRest_init cdd_InvalidRest_init : Option Addr} {csl_InvalidRest_init ccs_InvalidRest_init : Array (Option Value)} {vs_InvalidRest_init : Array Value} {file_InvalidRest_init : Str} {tf_InvalidRest_init : Tok} {cd_InvalidRest_init : PySem.ClassData} {A_TooMany_init : Addr} {oc_TooMany_init kV_TooMany_init doc_TooMany_init pm_TooMany_init ct_TooMany_init : Value} {od_TooMany_init an_TooMany_init : Option Addr} {sl_TooMany_init : Array (Option Value)} {cc_TooMany_init cda_TooMany_init : Addr} {cl_TooMany_init ccl_TooMany_init : Value} {cld_TooMany_init cdd_TooMany_init : Option Addr} {csl_TooMany_init ccs_TooMany_init : Array (Option Value)} {vs_TooMany_init : Array Value} {file_TooMany_init : Str} {tf_TooMany_init : Tok} {cd_TooMany_init : PySem.ClassData} {A_is_number : Addr} {oc_is_number kV_is_number doc_is_number pm_is_number ct_is_number : Value} {od_is_number an_is_number : Option Addr} {sl_is_number : Array (Option Value)} {cdv_is_number : Value} {A_Rest_init : Addr} {oc_Rest_init kV_Rest_init doc_Rest_init pm_Rest_init ct_Rest_init : Value} {od_Rest_init an_Rest_init : Option Addr} {sl_Rest_init : Array (Option Value)} {cdv_Rest_init : Value} {A_Rest_forms : Addr} {oc_Rest_forms kV_Rest_forms doc_Rest_forms pm_Rest_forms ct_Rest_forms : Value} {od_Rest_forms an_Rest_forms : Option Addr} {sl_Rest_forms : Array (Option Value)} {cdv_Rest_forms : Value} {A_Rest_period : Addr} {oc_Rest_period kV_Rest_period doc_Rest_period pm_Rest_period ct_Rest_period : Value} {od_Rest_period an_Rest_period : Option Addr} {sl_Rest_period : Array (Option Value)} {cdv_Rest_period : Value} {A_Rest_bend : Addr} {oc_Rest_bend kV_Rest_bend doc_Rest_bend pm_Rest_bend ct_Rest_bend : Value} {od_Rest_bend an_Rest_bend : Option Addr} {sl_Rest_bend : Array (Option Value)} {cdv_Rest_bend : Value} {A_Rest_written : Addr} {oc_Rest_written kV_Rest_written doc_Rest_written pm_Rest_written ct_Rest_written : Value} {od_Rest_written an_Rest_written : Option Addr} {sl_Rest_written : Array (Option Value)} {cdv_Rest_written : Value} {A_Rest_str : Addr} {oc_Rest_str kV_Rest_str doc_Rest_str pm_Rest_str ct_Rest_str : Value} {od_Rest_str an_Rest_str : Option Addr} {sl_Rest_str : Array (Option Value)} {cdv_Rest_str : Value} {A_Rest_repr : Addr} {oc_Rest_repr kV_Rest_repr doc_Rest_repr pm_Rest_repr ct_Rest_repr : Value} {od_Rest_repr an_Rest_repr : Option Addr} {sl_Rest_repr : Array (Option Value)} {cdv_Rest_repr : Value} {A_Rest_eq : Addr} {oc_Rest_eq kV_Rest_eq doc_Rest_eq pm_Rest_eq ct_Rest_eq : Value} {od_Rest_eq an_Rest_eq : Option Addr} {sl_Rest_eq : Array (Option Value)} {cdv_Rest_eq : Value} {A_Window_init : Addr} {oc_Window_init kV_Window_init doc_Window_init pm_Window_init ct_Window_init : Value} {od_Window_init an_Window_init : Option Addr} {sl_Window_init : Array (Option Value)} {cc_Window_init cda_Window_init : Addr} {cl_Window_init ccl_Window_init : Value} {cld_Window_init cdd_Window_init : Option Addr} {csl_Window_init ccs_Window_init : Array (Option Value)} {vs_Window_init : Array Value} {file_Window_init : Str} {tf_Window_init : Tok} {cd_Window_init : PySem.ClassData} {A_Days_init : Addr} {oc_Days_init kV_Days_init doc_Days_init pm_Days_init ct_Days_init : Value} {od_Days_init an_Days_init : Option Addr} {sl_Days_init : Array (Option Value)} {cc_Days_init cda_Days_init : Addr} {cl_Days_init ccl_Days_init : Value} {cld_Days_init cdd_Days_init : Option Addr} {csl_Days_init ccs_Days_init : Array (Option Value)} {vs_Days_init : Array Value} {file_Days_init : Str} {tf_Days_init : Tok} {cd_Days_init : PySem.ClassData} {A_Days_borders : Addr} {oc_Days_borders kV_Days_borders doc_Days_borders pm_Days_borders ct_Days_borders : Value} {od_Days_borders an_Days_borders : Option Addr} {sl_Days_borders : Array (Option Value)} {cdv_Days_borders : Value} {A_joined : Addr} {oc_joined kV_joined doc_joined pm_joined ct_joined : Value} {od_joined an_joined : Option Addr} {sl_joined : Array (Option Value)} {cdv_joined : Value} {A_Later_init : Addr} {oc_Later_init kV_Later_init doc_Later_init pm_Later_init ct_Later_init : Value} {od_Later_init an_Later_init : Option Addr} {sl_Later_init : Array (Option Value)} {cc_Later_init cda_Later_init : Addr} {cl_Later_init ccl_Later_init : Value} {cld_Later_init cdd_Later_init : Option Addr} {csl_Later_init ccs_Later_init : Array (Option Value)} {vs_Later_init : Array Value} {file_Later_init : Str} {tf_Later_init : Tok} {cd_Later_init : PySem.ClassData} {A_Sooner_init : Addr} {oc_Sooner_init kV_Sooner_init doc_Sooner_init pm_Sooner_init ct_Sooner_init : Value} {od_Sooner_init an_Sooner_init : Option Addr} {sl_Sooner_init : Array (Option Value)} {cc_Sooner_init cda_Sooner_init : Addr} {cl_Sooner_init ccl_Sooner_init : Value} {cld_Sooner_init cdd_Sooner_init : Option Addr} {csl_Sooner_init ccs_Sooner_init : Array (Option Value)} {vs_Sooner_init : Array Value} {file_Sooner_init : Str} {tf_Sooner_init : Tok} {cd_Sooner_init : PySem.ClassData} {A_Next_init : Addr} {oc_Next_init kV_Next_init doc_Next_init pm_Next_init ct_Next_init : Value} {od_Next_init an_Next_init : Option Addr} {sl_Next_init : Array (Option Value)} {cc_Next_init cda_Next_init : Addr} {cl_Next_init ccl_Next_init : Value} {cld_Next_init cdd_Next_init : Option Addr} {csl_Next_init ccs_Next_init : Array (Option Value)} {vs_Next_init : Array Value} {file_Next_init : Str} {tf_Next_init : Tok} {cd_Next_init : PySem.ClassData} {A_bag : Addr} {oc_bag kV_bag doc_bag pm_bag ct_bag : Value} {od_bag an_bag : Option Addr} {sl_bag : Array (Option Value)} {cdv_bag : Value} {A_draw : Addr} {oc_draw kV_draw doc_draw pm_draw ct_draw : Value} {od_draw an_draw : Option Addr} {sl_draw : Array (Option Value)} {cdv_draw : Value} {A_of : Addr} {oc_of kV_of doc_of pm_of ct_of : Value} {od_of an_of : Option Addr} {sl_of : Array (Option Value)} {cdv_of : Value} {A_like : Addr} {oc_like kV_like doc_like pm_like ct_like : Value} {od_like an_like : Option Addr} {sl_like : Array (Option Value)} {cdv_like : Value} {A_odd : Addr} {oc_odd kV_odd doc_odd pm_odd ct_odd : Value} {od_odd an_odd : Option Addr} {sl_odd : Array (Option Value)} {cdv_odd : Value} {A_llcm : Addr} {oc_llcm kV_llcm doc_llcm pm_llcm ct_llcm : Value} {od_llcm an_llcm : Option Addr} {sl_llcm : Array (Option Value)} {cdv_llcm : Value} {A_text : Addr} {oc_text kV_text doc_text pm_text ct_text : Value} {od_text an_text : Option Addr} {sl_text : Array (Option Value)} {cdv_text : Value} {A_facts : Addr} {oc_facts kV_facts doc_facts pm_facts ct_facts : Value} {od_facts an_facts : Option Addr} {sl_facts : Array (Option Value)} {cdv_facts : Value} {A_ask : Addr} {oc_ask kV_ask doc_ask pm_ask ct_ask : Value} {od_ask an_ask : Option Addr} {sl_ask : Array (Option Value)} {cdv_ask : Value} {A_in : Addr} {oc_in kV_in doc_in pm_in ct_in : Value} {od_in an_in : Option Addr} {sl_in : Array (Option Value)} {cdv_in : Value} {A_number : Addr} {oc_number kV_number doc_number pm_number ct_number : Value} {od_number an_number : Option Addr} {sl_number : Array (Option Value)} {cdv_number : Value} {A_borders : Addr} {oc_borders kV_borders doc_borders pm_borders ct_borders : Value} {od_borders an_borders : Option Addr} {sl_borders : Array (Option Value)} {cdv_borders : Value} {A_days_due : Addr} {oc_days_due kV_days_due doc_days_due pm_days_due ct_days_due : Value} {od_days_due an_days_due : Option Addr} {sl_days_due : Array (Option Value)} {cdv_days_due : Value} {A_window : Addr} {oc_window kV_window doc_window pm_window ct_window : Value} {od_window an_window : Option Addr} {sl_window : Array (Option Value)} {cda_window tb_window : Addr} {tcl_window : Value} {tcd_window : Option Addr} {tvs_window : Array Value} {tsl_window : Array (Option Value)} {A_days : Addr} {oc_days kV_days doc_days pm_days ct_days : Value} {od_days an_days : Option Addr} {sl_days : Array (Option Value)} {cda_days tb_days : Addr} {tcl_days : Value} {tcd_days : Option Addr} {tvs_days : Array Value} {tsl_days : Array (Option Value)} {A_pair : Addr} {oc_pair kV_pair doc_pair pm_pair ct_pair : Value} {od_pair an_pair : Option Addr} {sl_pair : Array (Option Value)} {cdv_pair : Value} {A_pair_due : Addr} {oc_pair_due kV_pair_due doc_pair_due pm_pair_due ct_pair_due : Value} {od_pair_due an_pair_due : Option Addr} {sl_pair_due : Array (Option Value)} {cdv_pair_due : Value} {A_class_so : Addr} {oc_class_so kV_class_so doc_class_so pm_class_so ct_class_so : Value} {od_class_so an_class_so : Option Addr} {sl_class_so : Array (Option Value)} {cdv_class_so : Value} {A_under : Addr} {oc_under kV_under doc_under pm_under ct_under : Value} {od_under an_under : Option Addr} {sl_under : Array (Option Value)} {cda_under tb_under : Addr} {tcl_under : Value} {tcd_under : Option Addr} {tvs_under : Array Value} {tsl_under : Array (Option Value)} {A_told_so : Addr} {oc_told_so kV_told_so doc_told_so pm_told_so ct_told_so : Value} {od_told_so an_told_so : Option Addr} {sl_told_so : Array (Option Value)} {cdv_told_so : Value} {A_equal_so : Addr} {oc_equal_so kV_equal_so doc_equal_so pm_equal_so ct_equal_so : Value} {od_equal_so an_equal_so : Option Addr} {sl_equal_so : Array (Option Value)} {cdv_equal_so : Value} {A_law : Addr} {oc_law kV_law doc_law pm_law ct_law : Value} {od_law an_law : Option Addr} {sl_law : Array (Option Value)} {cdv_law : Value} {t_BORDERS : Tok} {t_FORMS : Tok} {t_PERIOD : Tok} {nm_InvalidNumber q_InvalidNumber : Str} {N_InvalidNumber : Addr} {bs_InvalidNumber : List Value} {sn_InvalidNumber : List Str} {sb_InvalidNumber : List Value} {ab_InvalidNumber : Bool} {co_InvalidNumber : Option Bool} {dd_InvalidNumber : Option Addr} {e0_InvalidNumber e1_InvalidNumber e2_InvalidNumber e3_InvalidNumber e5_InvalidNumber : Option Value} {nm_InvalidBorders q_InvalidBorders : Str} {N_InvalidBorders : Addr} {bs_InvalidBorders : List Value} {sn_InvalidBorders : List Str} {sb_InvalidBorders : List Value} {ab_InvalidBorders : Bool} {co_InvalidBorders : Option Bool} {dd_InvalidBorders : Option Addr} {e0_InvalidBorders e1_InvalidBorders e2_InvalidBorders e3_InvalidBorders e5_InvalidBorders : Option Value} {nm_InvalidRest q_InvalidRest : Str} {N_InvalidRest : Addr} {bs_InvalidRest : List Value} {sn_InvalidRest : List Str} {sb_InvalidRest : List Value} {ab_InvalidRest : Bool} {co_InvalidRest : Option Bool} {dd_InvalidRest : Option Addr} {e0_InvalidRest e1_InvalidRest e2_InvalidRest e3_InvalidRest e5_InvalidRest : Option Value} {nm_TooMany q_TooMany : Str} {N_TooMany : Addr} {bs_TooMany : List Value} {sn_TooMany : List Str} {sb_TooMany : List Value} {ab_TooMany : Bool} {co_TooMany : Option Bool} {dd_TooMany : Option Addr} {e0_TooMany e1_TooMany e2_TooMany e3_TooMany e5_TooMany : Option Value}
    (aC_SureletError : PySem.W.nsIn K mainGlobals "SureletError" = some (some (.ref C_SureletError))) (aC_InvalidNumber : PySem.W.nsIn K mainGlobals "InvalidNumber" = some (some (.ref C_InvalidNumber))) (aC_InvalidBorders : PySem.W.nsIn K mainGlobals "InvalidBorders" = some (some (.ref C_InvalidBorders))) (aC_InvalidRest : PySem.W.nsIn K mainGlobals "InvalidRest" = some (some (.ref C_InvalidRest))) (aC_TooMany : PySem.W.nsIn K mainGlobals "TooMany" = some (some (.ref C_TooMany))) (aC_Rest : PySem.W.nsIn K mainGlobals "Rest" = some (some (.ref C_Rest))) (aC_Window : PySem.W.nsIn K mainGlobals "Window" = some (some (.ref C_Window))) (aC_Days : PySem.W.nsIn K mainGlobals "Days" = some (some (.ref C_Days))) (aC_Later : PySem.W.nsIn K mainGlobals "Later" = some (some (.ref C_Later))) (aC_Sooner : PySem.W.nsIn K mainGlobals "Sooner" = some (some (.ref C_Sooner))) (aC_Next : PySem.W.nsIn K mainGlobals "Next" = some (some (.ref C_Next))) (a_InvalidNumber_init : PySem.W.findIn K (.ref C_InvalidNumber) "__init__" = some (some (.ref A_InvalidNumber_init))) (i_InvalidNumber_init : PySem.W.isFn K (.ref A_InvalidNumber_init) = true) (l_InvalidNumber_init : K.lookup A_InvalidNumber_init = some ⟨oc_InvalidNumber_init, od_InvalidNumber_init, .func (PySem.W.fnX "__init__" "InvalidNumber.__init__" (defArgs s_InvalidNumber_init) (defBody s_InvalidNumber_init) (defScope s_InvalidNumber_init) [("__class__", cc_InvalidNumber_init)] .none kV_InvalidNumber_init doc_InvalidNumber_init pm_InvalidNumber_init an_InvalidNumber_init (.ref cda_InvalidNumber_init) ct_InvalidNumber_init), sl_InvalidNumber_init⟩) (c_InvalidNumber_init : PySem.W.codeIn K (.ref cda_InvalidNumber_init) "InvalidNumber.__init__" = true) (k_InvalidNumber_init : PySem.W.keepIn K (.ref A_InvalidNumber_init) = true) (cell_InvalidNumber_init : K.lookup cc_InvalidNumber_init = some ⟨cl_InvalidNumber_init, cld_InvalidNumber_init, .cell (some (.ref C_InvalidNumber)), csl_InvalidNumber_init⟩) (code_InvalidNumber_init : K.lookup cda_InvalidNumber_init = some ⟨ccl_InvalidNumber_init, cdd_InvalidNumber_init, .fields vs_InvalidNumber_init, ccs_InvalidNumber_init⟩) (vs_InvalidNumber_init : vs_InvalidNumber_init[2]? = some (.str file_InvalidNumber_init tf_InvalidNumber_init)) (fl_InvalidNumber_init : ((P.main.file : Str) == file_InvalidNumber_init) = true) (cd_InvalidNumber_init : PySem.W.clsIn K C_InvalidNumber = some cd_InvalidNumber_init) (a_InvalidBorders_init : PySem.W.findIn K (.ref C_InvalidBorders) "__init__" = some (some (.ref A_InvalidBorders_init))) (i_InvalidBorders_init : PySem.W.isFn K (.ref A_InvalidBorders_init) = true) (l_InvalidBorders_init : K.lookup A_InvalidBorders_init = some ⟨oc_InvalidBorders_init, od_InvalidBorders_init, .func (PySem.W.fnX "__init__" "InvalidBorders.__init__" (defArgs s_InvalidBorders_init) (defBody s_InvalidBorders_init) (defScope s_InvalidBorders_init) [("__class__", cc_InvalidBorders_init)] .none kV_InvalidBorders_init doc_InvalidBorders_init pm_InvalidBorders_init an_InvalidBorders_init (.ref cda_InvalidBorders_init) ct_InvalidBorders_init), sl_InvalidBorders_init⟩) (c_InvalidBorders_init : PySem.W.codeIn K (.ref cda_InvalidBorders_init) "InvalidBorders.__init__" = true) (k_InvalidBorders_init : PySem.W.keepIn K (.ref A_InvalidBorders_init) = true) (cell_InvalidBorders_init : K.lookup cc_InvalidBorders_init = some ⟨cl_InvalidBorders_init, cld_InvalidBorders_init, .cell (some (.ref C_InvalidBorders)), csl_InvalidBorders_init⟩) (code_InvalidBorders_init : K.lookup cda_InvalidBorders_init = some ⟨ccl_InvalidBorders_init, cdd_InvalidBorders_init, .fields vs_InvalidBorders_init, ccs_InvalidBorders_init⟩) (vs_InvalidBorders_init : vs_InvalidBorders_init[2]? = some (.str file_InvalidBorders_init tf_InvalidBorders_init)) (fl_InvalidBorders_init : ((P.main.file : Str) == file_InvalidBorders_init) = true) (cd_InvalidBorders_init : PySem.W.clsIn K C_InvalidBorders = some cd_InvalidBorders_init) (a_InvalidRest_init : PySem.W.findIn K (.ref C_InvalidRest) "__init__" = some (some (.ref A_InvalidRest_init))) (i_InvalidRest_init : PySem.W.isFn K (.ref A_InvalidRest_init) = true) (l_InvalidRest_init : K.lookup A_InvalidRest_init = some ⟨oc_InvalidRest_init, od_InvalidRest_init, .func (PySem.W.fnX "__init__" "InvalidRest.__init__" (defArgs s_InvalidRest_init) (defBody s_InvalidRest_init) (defScope s_InvalidRest_init) [("__class__", cc_InvalidRest_init)] .none kV_InvalidRest_init doc_InvalidRest_init pm_InvalidRest_init an_InvalidRest_init (.ref cda_InvalidRest_init) ct_InvalidRest_init), sl_InvalidRest_init⟩) (c_InvalidRest_init : PySem.W.codeIn K (.ref cda_InvalidRest_init) "InvalidRest.__init__" = true) (k_InvalidRest_init : PySem.W.keepIn K (.ref A_InvalidRest_init) = true) (cell_InvalidRest_init : K.lookup cc_InvalidRest_init = some ⟨cl_InvalidRest_init, cld_InvalidRest_init, .cell (some (.ref C_InvalidRest)), csl_InvalidRest_init⟩) (code_InvalidRest_init : K.lookup cda_InvalidRest_init = some ⟨ccl_InvalidRest_init, cdd_InvalidRest_init, .fields vs_InvalidRest_init, ccs_InvalidRest_init⟩) (vs_InvalidRest_init : vs_InvalidRest_init[2]? = some (.str file_InvalidRest_init tf_InvalidRest_init)) (fl_InvalidRest_init : ((P.main.file : Str) == file_InvalidRest_init) = true) (cd_InvalidRest_init : PySem.W.clsIn K C_InvalidRest = some cd_InvalidRest_init) (a_TooMany_init : PySem.W.findIn K (.ref C_TooMany) "__init__" = some (some (.ref A_TooMany_init))) (i_TooMany_init : PySem.W.isFn K (.ref A_TooMany_init) = true) (l_TooMany_init : K.lookup A_TooMany_init = some ⟨oc_TooMany_init, od_TooMany_init, .func (PySem.W.fnX "__init__" "TooMany.__init__" (defArgs s_TooMany_init) (defBody s_TooMany_init) (defScope s_TooMany_init) [("__class__", cc_TooMany_init)] .none kV_TooMany_init doc_TooMany_init pm_TooMany_init an_TooMany_init (.ref cda_TooMany_init) ct_TooMany_init), sl_TooMany_init⟩) (c_TooMany_init : PySem.W.codeIn K (.ref cda_TooMany_init) "TooMany.__init__" = true) (k_TooMany_init : PySem.W.keepIn K (.ref A_TooMany_init) = true) (cell_TooMany_init : K.lookup cc_TooMany_init = some ⟨cl_TooMany_init, cld_TooMany_init, .cell (some (.ref C_TooMany)), csl_TooMany_init⟩) (code_TooMany_init : K.lookup cda_TooMany_init = some ⟨ccl_TooMany_init, cdd_TooMany_init, .fields vs_TooMany_init, ccs_TooMany_init⟩) (vs_TooMany_init : vs_TooMany_init[2]? = some (.str file_TooMany_init tf_TooMany_init)) (fl_TooMany_init : ((P.main.file : Str) == file_TooMany_init) = true) (cd_TooMany_init : PySem.W.clsIn K C_TooMany = some cd_TooMany_init) (a_is_number : PySem.W.nsIn K mainGlobals "is_number" = some (some (.ref A_is_number))) (l_is_number : K.lookup A_is_number = some ⟨oc_is_number, od_is_number, .func (PySem.W.fnOf "is_number" "is_number" (defArgs s_is_number) (defBody s_is_number) (defScope s_is_number) .none kV_is_number doc_is_number pm_is_number an_is_number cdv_is_number ct_is_number), sl_is_number⟩) (c_is_number : PySem.W.codeIn K cdv_is_number "is_number" = true) (k_is_number : PySem.W.keepIn K (.ref A_is_number) = true) (a_Rest_init : PySem.W.findIn K (.ref C_Rest) "__init__" = some (some (.ref A_Rest_init))) (i_Rest_init : PySem.W.isFn K (.ref A_Rest_init) = true) (l_Rest_init : K.lookup A_Rest_init = some ⟨oc_Rest_init, od_Rest_init, .func (PySem.W.fnOf "__init__" "Rest.__init__" (defArgs s_Rest_init) (defBody s_Rest_init) (defScope s_Rest_init) .none kV_Rest_init doc_Rest_init pm_Rest_init an_Rest_init cdv_Rest_init ct_Rest_init), sl_Rest_init⟩) (c_Rest_init : PySem.W.codeIn K cdv_Rest_init "Rest.__init__" = true) (k_Rest_init : PySem.W.keepIn K (.ref A_Rest_init) = true) (a_Rest_forms : PySem.W.findIn K (.ref C_Rest) "forms" = some (some (.ref A_Rest_forms))) (i_Rest_forms : PySem.W.isFn K (.ref A_Rest_forms) = true) (l_Rest_forms : K.lookup A_Rest_forms = some ⟨oc_Rest_forms, od_Rest_forms, .func (PySem.W.fnOf "forms" "Rest.forms" (defArgs s_Rest_forms) (defBody s_Rest_forms) (defScope s_Rest_forms) .none kV_Rest_forms doc_Rest_forms pm_Rest_forms an_Rest_forms cdv_Rest_forms ct_Rest_forms), sl_Rest_forms⟩) (c_Rest_forms : PySem.W.codeIn K cdv_Rest_forms "Rest.forms" = true) (k_Rest_forms : PySem.W.keepIn K (.ref A_Rest_forms) = true) (a_Rest_period : PySem.W.findIn K (.ref C_Rest) "period" = some (some (.ref A_Rest_period))) (i_Rest_period : PySem.W.isFn K (.ref A_Rest_period) = true) (l_Rest_period : K.lookup A_Rest_period = some ⟨oc_Rest_period, od_Rest_period, .func (PySem.W.fnOf "period" "Rest.period" (defArgs s_Rest_period) (defBody s_Rest_period) (defScope s_Rest_period) .none kV_Rest_period doc_Rest_period pm_Rest_period an_Rest_period cdv_Rest_period ct_Rest_period), sl_Rest_period⟩) (c_Rest_period : PySem.W.codeIn K cdv_Rest_period "Rest.period" = true) (k_Rest_period : PySem.W.keepIn K (.ref A_Rest_period) = true) (a_Rest_bend : PySem.W.findIn K (.ref C_Rest) "bend" = some (some (.ref A_Rest_bend))) (i_Rest_bend : PySem.W.isFn K (.ref A_Rest_bend) = true) (l_Rest_bend : K.lookup A_Rest_bend = some ⟨oc_Rest_bend, od_Rest_bend, .func (PySem.W.fnOf "bend" "Rest.bend" (defArgs s_Rest_bend) (defBody s_Rest_bend) (defScope s_Rest_bend) .none kV_Rest_bend doc_Rest_bend pm_Rest_bend an_Rest_bend cdv_Rest_bend ct_Rest_bend), sl_Rest_bend⟩) (c_Rest_bend : PySem.W.codeIn K cdv_Rest_bend "Rest.bend" = true) (k_Rest_bend : PySem.W.keepIn K (.ref A_Rest_bend) = true) (a_Rest_written : PySem.W.findIn K (.ref C_Rest) "written" = some (some (.ref A_Rest_written))) (i_Rest_written : PySem.W.isFn K (.ref A_Rest_written) = true) (l_Rest_written : K.lookup A_Rest_written = some ⟨oc_Rest_written, od_Rest_written, .func (PySem.W.fnOf "written" "Rest.written" (defArgs s_Rest_written) (defBody s_Rest_written) (defScope s_Rest_written) .none kV_Rest_written doc_Rest_written pm_Rest_written an_Rest_written cdv_Rest_written ct_Rest_written), sl_Rest_written⟩) (c_Rest_written : PySem.W.codeIn K cdv_Rest_written "Rest.written" = true) (k_Rest_written : PySem.W.keepIn K (.ref A_Rest_written) = true) (a_Rest_str : PySem.W.findIn K (.ref C_Rest) "__str__" = some (some (.ref A_Rest_str))) (i_Rest_str : PySem.W.isFn K (.ref A_Rest_str) = true) (l_Rest_str : K.lookup A_Rest_str = some ⟨oc_Rest_str, od_Rest_str, .func (PySem.W.fnOf "__str__" "Rest.__str__" (defArgs s_Rest_str) (defBody s_Rest_str) (defScope s_Rest_str) .none kV_Rest_str doc_Rest_str pm_Rest_str an_Rest_str cdv_Rest_str ct_Rest_str), sl_Rest_str⟩) (c_Rest_str : PySem.W.codeIn K cdv_Rest_str "Rest.__str__" = true) (k_Rest_str : PySem.W.keepIn K (.ref A_Rest_str) = true) (a_Rest_repr : PySem.W.findIn K (.ref C_Rest) "__repr__" = some (some (.ref A_Rest_repr))) (i_Rest_repr : PySem.W.isFn K (.ref A_Rest_repr) = true) (l_Rest_repr : K.lookup A_Rest_repr = some ⟨oc_Rest_repr, od_Rest_repr, .func (PySem.W.fnOf "__repr__" "Rest.__repr__" (defArgs s_Rest_repr) (defBody s_Rest_repr) (defScope s_Rest_repr) .none kV_Rest_repr doc_Rest_repr pm_Rest_repr an_Rest_repr cdv_Rest_repr ct_Rest_repr), sl_Rest_repr⟩) (c_Rest_repr : PySem.W.codeIn K cdv_Rest_repr "Rest.__repr__" = true) (k_Rest_repr : PySem.W.keepIn K (.ref A_Rest_repr) = true) (a_Rest_eq : PySem.W.findIn K (.ref C_Rest) "__eq__" = some (some (.ref A_Rest_eq))) (i_Rest_eq : PySem.W.isFn K (.ref A_Rest_eq) = true) (l_Rest_eq : K.lookup A_Rest_eq = some ⟨oc_Rest_eq, od_Rest_eq, .func (PySem.W.fnOf "__eq__" "Rest.__eq__" (defArgs s_Rest_eq) (defBody s_Rest_eq) (defScope s_Rest_eq) .none kV_Rest_eq doc_Rest_eq pm_Rest_eq an_Rest_eq cdv_Rest_eq ct_Rest_eq), sl_Rest_eq⟩) (c_Rest_eq : PySem.W.codeIn K cdv_Rest_eq "Rest.__eq__" = true) (k_Rest_eq : PySem.W.keepIn K (.ref A_Rest_eq) = true) (a_Window_init : PySem.W.findIn K (.ref C_Window) "__init__" = some (some (.ref A_Window_init))) (i_Window_init : PySem.W.isFn K (.ref A_Window_init) = true) (l_Window_init : K.lookup A_Window_init = some ⟨oc_Window_init, od_Window_init, .func (PySem.W.fnX "__init__" "Window.__init__" (defArgs s_Window_init) (defBody s_Window_init) (defScope s_Window_init) [("__class__", cc_Window_init)] .none kV_Window_init doc_Window_init pm_Window_init an_Window_init (.ref cda_Window_init) ct_Window_init), sl_Window_init⟩) (c_Window_init : PySem.W.codeIn K (.ref cda_Window_init) "Window.__init__" = true) (k_Window_init : PySem.W.keepIn K (.ref A_Window_init) = true) (cell_Window_init : K.lookup cc_Window_init = some ⟨cl_Window_init, cld_Window_init, .cell (some (.ref C_Window)), csl_Window_init⟩) (code_Window_init : K.lookup cda_Window_init = some ⟨ccl_Window_init, cdd_Window_init, .fields vs_Window_init, ccs_Window_init⟩) (vs_Window_init : vs_Window_init[2]? = some (.str file_Window_init tf_Window_init)) (fl_Window_init : ((P.main.file : Str) == file_Window_init) = true) (cd_Window_init : PySem.W.clsIn K C_Window = some cd_Window_init) (a_Days_init : PySem.W.findIn K (.ref C_Days) "__init__" = some (some (.ref A_Days_init))) (i_Days_init : PySem.W.isFn K (.ref A_Days_init) = true) (l_Days_init : K.lookup A_Days_init = some ⟨oc_Days_init, od_Days_init, .func (PySem.W.fnX "__init__" "Days.__init__" (defArgs s_Days_init) (defBody s_Days_init) (defScope s_Days_init) [("__class__", cc_Days_init)] .none kV_Days_init doc_Days_init pm_Days_init an_Days_init (.ref cda_Days_init) ct_Days_init), sl_Days_init⟩) (c_Days_init : PySem.W.codeIn K (.ref cda_Days_init) "Days.__init__" = true) (k_Days_init : PySem.W.keepIn K (.ref A_Days_init) = true) (cell_Days_init : K.lookup cc_Days_init = some ⟨cl_Days_init, cld_Days_init, .cell (some (.ref C_Days)), csl_Days_init⟩) (code_Days_init : K.lookup cda_Days_init = some ⟨ccl_Days_init, cdd_Days_init, .fields vs_Days_init, ccs_Days_init⟩) (vs_Days_init : vs_Days_init[2]? = some (.str file_Days_init tf_Days_init)) (fl_Days_init : ((P.main.file : Str) == file_Days_init) = true) (cd_Days_init : PySem.W.clsIn K C_Days = some cd_Days_init) (a_Days_borders : PySem.W.findIn K (.ref C_Days) "borders" = some (some (.ref A_Days_borders))) (i_Days_borders : PySem.W.isFn K (.ref A_Days_borders) = true) (l_Days_borders : K.lookup A_Days_borders = some ⟨oc_Days_borders, od_Days_borders, .func (PySem.W.fnOf "borders" "Days.borders" (defArgs s_Days_borders) (defBody s_Days_borders) (defScope s_Days_borders) .none kV_Days_borders doc_Days_borders pm_Days_borders an_Days_borders cdv_Days_borders ct_Days_borders), sl_Days_borders⟩) (c_Days_borders : PySem.W.codeIn K cdv_Days_borders "Days.borders" = true) (k_Days_borders : PySem.W.keepIn K (.ref A_Days_borders) = true) (a_joined : PySem.W.nsIn K mainGlobals "joined" = some (some (.ref A_joined))) (l_joined : K.lookup A_joined = some ⟨oc_joined, od_joined, .func (PySem.W.fnOf "joined" "joined" (defArgs s_joined) (defBody s_joined) (defScope s_joined) .none kV_joined doc_joined pm_joined an_joined cdv_joined ct_joined), sl_joined⟩) (c_joined : PySem.W.codeIn K cdv_joined "joined" = true) (k_joined : PySem.W.keepIn K (.ref A_joined) = true) (a_Later_init : PySem.W.findIn K (.ref C_Later) "__init__" = some (some (.ref A_Later_init))) (i_Later_init : PySem.W.isFn K (.ref A_Later_init) = true) (l_Later_init : K.lookup A_Later_init = some ⟨oc_Later_init, od_Later_init, .func (PySem.W.fnX "__init__" "Later.__init__" (defArgs s_Later_init) (defBody s_Later_init) (defScope s_Later_init) [("__class__", cc_Later_init)] .none kV_Later_init doc_Later_init pm_Later_init an_Later_init (.ref cda_Later_init) ct_Later_init), sl_Later_init⟩) (c_Later_init : PySem.W.codeIn K (.ref cda_Later_init) "Later.__init__" = true) (k_Later_init : PySem.W.keepIn K (.ref A_Later_init) = true) (cell_Later_init : K.lookup cc_Later_init = some ⟨cl_Later_init, cld_Later_init, .cell (some (.ref C_Later)), csl_Later_init⟩) (code_Later_init : K.lookup cda_Later_init = some ⟨ccl_Later_init, cdd_Later_init, .fields vs_Later_init, ccs_Later_init⟩) (vs_Later_init : vs_Later_init[2]? = some (.str file_Later_init tf_Later_init)) (fl_Later_init : ((P.main.file : Str) == file_Later_init) = true) (cd_Later_init : PySem.W.clsIn K C_Later = some cd_Later_init) (a_Sooner_init : PySem.W.findIn K (.ref C_Sooner) "__init__" = some (some (.ref A_Sooner_init))) (i_Sooner_init : PySem.W.isFn K (.ref A_Sooner_init) = true) (l_Sooner_init : K.lookup A_Sooner_init = some ⟨oc_Sooner_init, od_Sooner_init, .func (PySem.W.fnX "__init__" "Sooner.__init__" (defArgs s_Sooner_init) (defBody s_Sooner_init) (defScope s_Sooner_init) [("__class__", cc_Sooner_init)] .none kV_Sooner_init doc_Sooner_init pm_Sooner_init an_Sooner_init (.ref cda_Sooner_init) ct_Sooner_init), sl_Sooner_init⟩) (c_Sooner_init : PySem.W.codeIn K (.ref cda_Sooner_init) "Sooner.__init__" = true) (k_Sooner_init : PySem.W.keepIn K (.ref A_Sooner_init) = true) (cell_Sooner_init : K.lookup cc_Sooner_init = some ⟨cl_Sooner_init, cld_Sooner_init, .cell (some (.ref C_Sooner)), csl_Sooner_init⟩) (code_Sooner_init : K.lookup cda_Sooner_init = some ⟨ccl_Sooner_init, cdd_Sooner_init, .fields vs_Sooner_init, ccs_Sooner_init⟩) (vs_Sooner_init : vs_Sooner_init[2]? = some (.str file_Sooner_init tf_Sooner_init)) (fl_Sooner_init : ((P.main.file : Str) == file_Sooner_init) = true) (cd_Sooner_init : PySem.W.clsIn K C_Sooner = some cd_Sooner_init) (a_Next_init : PySem.W.findIn K (.ref C_Next) "__init__" = some (some (.ref A_Next_init))) (i_Next_init : PySem.W.isFn K (.ref A_Next_init) = true) (l_Next_init : K.lookup A_Next_init = some ⟨oc_Next_init, od_Next_init, .func (PySem.W.fnX "__init__" "Next.__init__" (defArgs s_Next_init) (defBody s_Next_init) (defScope s_Next_init) [("__class__", cc_Next_init)] .none kV_Next_init doc_Next_init pm_Next_init an_Next_init (.ref cda_Next_init) ct_Next_init), sl_Next_init⟩) (c_Next_init : PySem.W.codeIn K (.ref cda_Next_init) "Next.__init__" = true) (k_Next_init : PySem.W.keepIn K (.ref A_Next_init) = true) (cell_Next_init : K.lookup cc_Next_init = some ⟨cl_Next_init, cld_Next_init, .cell (some (.ref C_Next)), csl_Next_init⟩) (code_Next_init : K.lookup cda_Next_init = some ⟨ccl_Next_init, cdd_Next_init, .fields vs_Next_init, ccs_Next_init⟩) (vs_Next_init : vs_Next_init[2]? = some (.str file_Next_init tf_Next_init)) (fl_Next_init : ((P.main.file : Str) == file_Next_init) = true) (cd_Next_init : PySem.W.clsIn K C_Next = some cd_Next_init) (a_bag : PySem.W.nsIn K mainGlobals "_law_bag" = some (some (.ref A_bag))) (l_bag : K.lookup A_bag = some ⟨oc_bag, od_bag, .func (PySem.W.fnOf "_law_bag" "_law_bag" (defArgs s_bag) (defBody s_bag) (defScope s_bag) .none kV_bag doc_bag pm_bag an_bag cdv_bag ct_bag), sl_bag⟩) (c_bag : PySem.W.codeIn K cdv_bag "_law_bag" = true) (k_bag : PySem.W.keepIn K (.ref A_bag) = true) (a_draw : PySem.W.nsIn K mainGlobals "_law_draw" = some (some (.ref A_draw))) (l_draw : K.lookup A_draw = some ⟨oc_draw, od_draw, .func (PySem.W.fnOf "_law_draw" "_law_draw" (defArgs s_draw) (defBody s_draw) (defScope s_draw) .none kV_draw doc_draw pm_draw an_draw cdv_draw ct_draw), sl_draw⟩) (c_draw : PySem.W.codeIn K cdv_draw "_law_draw" = true) (k_draw : PySem.W.keepIn K (.ref A_draw) = true) (a_of : PySem.W.nsIn K mainGlobals "_law_of" = some (some (.ref A_of))) (l_of : K.lookup A_of = some ⟨oc_of, od_of, .func (PySem.W.fnOf "_law_of" "_law_of" (defArgs s_of) (defBody s_of) (defScope s_of) .none kV_of doc_of pm_of an_of cdv_of ct_of), sl_of⟩) (c_of : PySem.W.codeIn K cdv_of "_law_of" = true) (k_of : PySem.W.keepIn K (.ref A_of) = true) (a_like : PySem.W.nsIn K mainGlobals "_law_like" = some (some (.ref A_like))) (l_like : K.lookup A_like = some ⟨oc_like, od_like, .func (PySem.W.fnOf "_law_like" "_law_like" (defArgs s_like) (defBody s_like) (defScope s_like) .none kV_like doc_like pm_like an_like cdv_like ct_like), sl_like⟩) (c_like : PySem.W.codeIn K cdv_like "_law_like" = true) (k_like : PySem.W.keepIn K (.ref A_like) = true) (a_odd : PySem.W.nsIn K mainGlobals "_law_odd" = some (some (.ref A_odd))) (l_odd : K.lookup A_odd = some ⟨oc_odd, od_odd, .func (PySem.W.fnOf "_law_odd" "_law_odd" (defArgs s_odd) (defBody s_odd) (defScope s_odd) .none kV_odd doc_odd pm_odd an_odd cdv_odd ct_odd), sl_odd⟩) (c_odd : PySem.W.codeIn K cdv_odd "_law_odd" = true) (k_odd : PySem.W.keepIn K (.ref A_odd) = true) (a_llcm : PySem.W.nsIn K mainGlobals "_law_lcm" = some (some (.ref A_llcm))) (l_llcm : K.lookup A_llcm = some ⟨oc_llcm, od_llcm, .func (PySem.W.fnOf "_law_lcm" "_law_lcm" (defArgs s_llcm) (defBody s_llcm) (defScope s_llcm) .none kV_llcm doc_llcm pm_llcm an_llcm cdv_llcm ct_llcm), sl_llcm⟩) (c_llcm : PySem.W.codeIn K cdv_llcm "_law_lcm" = true) (k_llcm : PySem.W.keepIn K (.ref A_llcm) = true) (a_text : PySem.W.nsIn K mainGlobals "_law_text" = some (some (.ref A_text))) (l_text : K.lookup A_text = some ⟨oc_text, od_text, .func (PySem.W.fnOf "_law_text" "_law_text" (defArgs s_text) (defBody s_text) (defScope s_text) .none kV_text doc_text pm_text an_text cdv_text ct_text), sl_text⟩) (c_text : PySem.W.codeIn K cdv_text "_law_text" = true) (k_text : PySem.W.keepIn K (.ref A_text) = true) (a_facts : PySem.W.nsIn K mainGlobals "_law_facts" = some (some (.ref A_facts))) (l_facts : K.lookup A_facts = some ⟨oc_facts, od_facts, .func (PySem.W.fnOf "_law_facts" "_law_facts" (defArgs s_facts) (defBody s_facts) (defScope s_facts) .none kV_facts doc_facts pm_facts an_facts cdv_facts ct_facts), sl_facts⟩) (c_facts : PySem.W.codeIn K cdv_facts "_law_facts" = true) (k_facts : PySem.W.keepIn K (.ref A_facts) = true) (a_ask : PySem.W.nsIn K mainGlobals "_law_ask" = some (some (.ref A_ask))) (l_ask : K.lookup A_ask = some ⟨oc_ask, od_ask, .func (PySem.W.fnOf "_law_ask" "_law_ask" (defArgs s_ask) (defBody s_ask) (defScope s_ask) .none kV_ask doc_ask pm_ask an_ask cdv_ask ct_ask), sl_ask⟩) (c_ask : PySem.W.codeIn K cdv_ask "_law_ask" = true) (k_ask : PySem.W.keepIn K (.ref A_ask) = true) (a_in : PySem.W.nsIn K mainGlobals "_law_in" = some (some (.ref A_in))) (l_in : K.lookup A_in = some ⟨oc_in, od_in, .func (PySem.W.fnOf "_law_in" "_law_in" (defArgs s_in) (defBody s_in) (defScope s_in) .none kV_in doc_in pm_in an_in cdv_in ct_in), sl_in⟩) (c_in : PySem.W.codeIn K cdv_in "_law_in" = true) (k_in : PySem.W.keepIn K (.ref A_in) = true) (a_number : PySem.W.nsIn K mainGlobals "_law_number" = some (some (.ref A_number))) (l_number : K.lookup A_number = some ⟨oc_number, od_number, .func (PySem.W.fnOf "_law_number" "_law_number" (defArgs s_number) (defBody s_number) (defScope s_number) .none kV_number doc_number pm_number an_number cdv_number ct_number), sl_number⟩) (c_number : PySem.W.codeIn K cdv_number "_law_number" = true) (k_number : PySem.W.keepIn K (.ref A_number) = true) (a_borders : PySem.W.nsIn K mainGlobals "_law_borders" = some (some (.ref A_borders))) (l_borders : K.lookup A_borders = some ⟨oc_borders, od_borders, .func (PySem.W.fnOf "_law_borders" "_law_borders" (defArgs s_borders) (defBody s_borders) (defScope s_borders) .none kV_borders doc_borders pm_borders an_borders cdv_borders ct_borders), sl_borders⟩) (c_borders : PySem.W.codeIn K cdv_borders "_law_borders" = true) (k_borders : PySem.W.keepIn K (.ref A_borders) = true) (a_days_due : PySem.W.nsIn K mainGlobals "_law_days_due" = some (some (.ref A_days_due))) (l_days_due : K.lookup A_days_due = some ⟨oc_days_due, od_days_due, .func (PySem.W.fnOf "_law_days_due" "_law_days_due" (defArgs s_days_due) (defBody s_days_due) (defScope s_days_due) .none kV_days_due doc_days_due pm_days_due an_days_due cdv_days_due ct_days_due), sl_days_due⟩) (c_days_due : PySem.W.codeIn K cdv_days_due "_law_days_due" = true) (k_days_due : PySem.W.keepIn K (.ref A_days_due) = true) (a_window : PySem.W.nsIn K mainGlobals "_law_window" = some (some (.ref A_window))) (l_window : K.lookup A_window = some ⟨oc_window, od_window, .func (PySem.W.fnOf "_law_window" "_law_window" (defArgs s_window) (defBody s_window) (defScope s_window) .none kV_window doc_window pm_window an_window (.ref cda_window) ct_window), sl_window⟩) (c_window : PySem.W.codeIn K (.ref cda_window) "_law_window" = true) (k_window : PySem.W.keepIn K (.ref A_window) = true) (td_window : K.lookup cda_window = some ⟨tcl_window, tcd_window, .fields tvs_window, tsl_window⟩) (tp_window : tvs_window[11]? = some (.ref tb_window)) (tn_window : K.lookup tb_window = none) (a_days : PySem.W.nsIn K mainGlobals "_law_days" = some (some (.ref A_days))) (l_days : K.lookup A_days = some ⟨oc_days, od_days, .func (PySem.W.fnOf "_law_days" "_law_days" (defArgs s_days) (defBody s_days) (defScope s_days) .none kV_days doc_days pm_days an_days (.ref cda_days) ct_days), sl_days⟩) (c_days : PySem.W.codeIn K (.ref cda_days) "_law_days" = true) (k_days : PySem.W.keepIn K (.ref A_days) = true) (td_days : K.lookup cda_days = some ⟨tcl_days, tcd_days, .fields tvs_days, tsl_days⟩) (tp_days : tvs_days[11]? = some (.ref tb_days)) (tn_days : K.lookup tb_days = none) (a_pair : PySem.W.nsIn K mainGlobals "_law_pair" = some (some (.ref A_pair))) (l_pair : K.lookup A_pair = some ⟨oc_pair, od_pair, .func (PySem.W.fnOf "_law_pair" "_law_pair" (defArgs s_pair) (defBody s_pair) (defScope s_pair) .none kV_pair doc_pair pm_pair an_pair cdv_pair ct_pair), sl_pair⟩) (c_pair : PySem.W.codeIn K cdv_pair "_law_pair" = true) (k_pair : PySem.W.keepIn K (.ref A_pair) = true) (a_pair_due : PySem.W.nsIn K mainGlobals "_law_pair_due" = some (some (.ref A_pair_due))) (l_pair_due : K.lookup A_pair_due = some ⟨oc_pair_due, od_pair_due, .func (PySem.W.fnOf "_law_pair_due" "_law_pair_due" (defArgs s_pair_due) (defBody s_pair_due) (defScope s_pair_due) .none kV_pair_due doc_pair_due pm_pair_due an_pair_due cdv_pair_due ct_pair_due), sl_pair_due⟩) (c_pair_due : PySem.W.codeIn K cdv_pair_due "_law_pair_due" = true) (k_pair_due : PySem.W.keepIn K (.ref A_pair_due) = true) (a_class_so : PySem.W.nsIn K mainGlobals "_law_class_so" = some (some (.ref A_class_so))) (l_class_so : K.lookup A_class_so = some ⟨oc_class_so, od_class_so, .func (PySem.W.fnOf "_law_class_so" "_law_class_so" (defArgs s_class_so) (defBody s_class_so) (defScope s_class_so) .none kV_class_so doc_class_so pm_class_so an_class_so cdv_class_so ct_class_so), sl_class_so⟩) (c_class_so : PySem.W.codeIn K cdv_class_so "_law_class_so" = true) (k_class_so : PySem.W.keepIn K (.ref A_class_so) = true) (a_under : PySem.W.nsIn K mainGlobals "_law_under" = some (some (.ref A_under))) (l_under : K.lookup A_under = some ⟨oc_under, od_under, .func (PySem.W.fnOf "_law_under" "_law_under" (defArgs s_under) (defBody s_under) (defScope s_under) .none kV_under doc_under pm_under an_under (.ref cda_under) ct_under), sl_under⟩) (c_under : PySem.W.codeIn K (.ref cda_under) "_law_under" = true) (k_under : PySem.W.keepIn K (.ref A_under) = true) (td_under : K.lookup cda_under = some ⟨tcl_under, tcd_under, .fields tvs_under, tsl_under⟩) (tp_under : tvs_under[11]? = some (.ref tb_under)) (tn_under : K.lookup tb_under = none) (a_told_so : PySem.W.nsIn K mainGlobals "_law_told_so" = some (some (.ref A_told_so))) (l_told_so : K.lookup A_told_so = some ⟨oc_told_so, od_told_so, .func (PySem.W.fnOf "_law_told_so" "_law_told_so" (defArgs s_told_so) (defBody s_told_so) (defScope s_told_so) .none kV_told_so doc_told_so pm_told_so an_told_so cdv_told_so ct_told_so), sl_told_so⟩) (c_told_so : PySem.W.codeIn K cdv_told_so "_law_told_so" = true) (k_told_so : PySem.W.keepIn K (.ref A_told_so) = true) (a_equal_so : PySem.W.nsIn K mainGlobals "_law_equal_so" = some (some (.ref A_equal_so))) (l_equal_so : K.lookup A_equal_so = some ⟨oc_equal_so, od_equal_so, .func (PySem.W.fnOf "_law_equal_so" "_law_equal_so" (defArgs s_equal_so) (defBody s_equal_so) (defScope s_equal_so) .none kV_equal_so doc_equal_so pm_equal_so an_equal_so cdv_equal_so ct_equal_so), sl_equal_so⟩) (c_equal_so : PySem.W.codeIn K cdv_equal_so "_law_equal_so" = true) (k_equal_so : PySem.W.keepIn K (.ref A_equal_so) = true) (a_law : PySem.W.nsIn K mainGlobals "law" = some (some (.ref A_law))) (l_law : K.lookup A_law = some ⟨oc_law, od_law, .func (PySem.W.fnOf "law" "law" (defArgs s_law) (defBody s_law) (defScope s_law) .none kV_law doc_law pm_law an_law cdv_law ct_law), sl_law⟩) (c_law : PySem.W.codeIn K cdv_law "law" = true) (k_law : PySem.W.keepIn K (.ref A_law) = true) (tne_window_days : tb_window ≠ tb_days) (tne_window_under : tb_window ≠ tb_under) (tne_days_under : tb_days ≠ tb_under) (top_super : (P.main.scope.names.lookup ("super" : Str)).isSome = false) (st_thirdparty : PySem.W.nsIn K cStatics "thirdparty.any" = some none) (z_all : PySem.W.nsIn K mainGlobals "all" = some none) (z_bool : PySem.W.nsIn K mainGlobals "bool" = some none) (z_dict : PySem.W.nsIn K mainGlobals "dict" = some none) (z_enumerate : PySem.W.nsIn K mainGlobals "enumerate" = some none) (z_int : PySem.W.nsIn K mainGlobals "int" = some none) (z_isinstance : PySem.W.nsIn K mainGlobals "isinstance" = some none) (z_len : PySem.W.nsIn K mainGlobals "len" = some none) (z_list : PySem.W.nsIn K mainGlobals "list" = some none) (z_max : PySem.W.nsIn K mainGlobals "max" = some none) (z_range : PySem.W.nsIn K mainGlobals "range" = some none) (z_repr : PySem.W.nsIn K mainGlobals "repr" = some none) (z_str : PySem.W.nsIn K mainGlobals "str" = some none) (z_super : PySem.W.nsIn K mainGlobals "super" = some none) (z_tuple : PySem.W.nsIn K mainGlobals "tuple" = some none) (z_zip : PySem.W.nsIn K mainGlobals "zip" = some none) (ac_BORDERS : PySem.W.nsIn K mainGlobals "BORDERS" = some (some (.int 12 t_BORDERS))) (ac_FORMS : PySem.W.nsIn K mainGlobals "FORMS" = some (some (.int 6 t_FORMS))) (ac_PERIOD : PySem.W.nsIn K mainGlobals "PERIOD" = some (some (.int 2000 t_PERIOD))) (ab_lcm : PySem.W.nsIn K mainGlobals "lcm" = some (some (.builtin "math.lcm"))) (el_InvalidNumber : K.lookup C_InvalidNumber = some (excClassObj nm_InvalidNumber q_InvalidNumber C_InvalidNumber N_InvalidNumber bs_InvalidNumber [.ref C_SureletError, .type "ValueError", .type "Exception", .type "BaseException", .type "object"] true sn_InvalidNumber sb_InvalidNumber ab_InvalidNumber co_InvalidNumber dd_InvalidNumber e0_InvalidNumber e1_InvalidNumber e2_InvalidNumber e3_InvalidNumber e5_InvalidNumber "ValueError.__new__")) (es_InvalidNumber : PySem.W.findIn K (.ref C_InvalidNumber) "__setattr__" = some (some (.builtin "object.__setattr__"))) (eb_InvalidNumber : PySem.W.subIn K (.ref C_InvalidNumber) (.type "BaseException") = some true) (et_InvalidNumber : PySem.W.typeIn K (.ref C_InvalidNumber) = some (.type "type")) (ek_InvalidNumber : PySem.W.keepIn K (.ref C_InvalidNumber) = true) (em_InvalidNumber : PySem.W.mroIn K C_InvalidNumber (.ref C_InvalidNumber) = some true) (eu_InvalidNumber : PySem.W.ks_superIn K C_InvalidNumber C_InvalidNumber "__init__" = some (some (.builtin "ValueError.__init__"))) (ev_InvalidNumber : PySem.W.subIn K (.ref C_InvalidNumber) (.type "ValueError") = some true) (ega_InvalidNumber : PySem.W.findIn K (.ref C_InvalidNumber) "__getattribute__" = some (some (.builtin "BaseException.__getattribute__"))) (egg_InvalidNumber : PySem.W.findIn K (.ref C_InvalidNumber) "__getattr__" = some none) (ehd_InvalidNumber : PySem.W.hasDictIn K C_InvalidNumber = true) (eti_InvalidNumber : PySem.W.typeIn K (.ref A_InvalidNumber_init) = some (.type "function")) (xb_InvalidNumber_InvalidNumber : PySem.W.subIn K (.ref C_InvalidNumber) (.type "BaseException") = some true) (xi_InvalidNumber_InvalidNumber : PySem.W.isClsIn K C_InvalidNumber = true) (xt_InvalidNumber_InvalidNumber : PySem.W.typeIn K (.ref C_InvalidNumber) = some (.type "type")) (xs_InvalidNumber_InvalidNumber : PySem.W.subIn K (.ref C_InvalidNumber) (.ref C_InvalidNumber) = some true) (no_InvalidNumber_value : PySem.W.findIn K (.ref C_InvalidNumber) "value" = some none) (no_InvalidNumber_code : PySem.W.findIn K (.ref C_InvalidNumber) "code" = some none) (el_InvalidBorders : K.lookup C_InvalidBorders = some (excClassObj nm_InvalidBorders q_InvalidBorders C_InvalidBorders N_InvalidBorders bs_InvalidBorders [.ref C_SureletError, .type "ValueError", .type "Exception", .type "BaseException", .type "object"] true sn_InvalidBorders sb_InvalidBorders ab_InvalidBorders co_InvalidBorders dd_InvalidBorders e0_InvalidBorders e1_InvalidBorders e2_InvalidBorders e3_InvalidBorders e5_InvalidBorders "ValueError.__new__")) (es_InvalidBorders : PySem.W.findIn K (.ref C_InvalidBorders) "__setattr__" = some (some (.builtin "object.__setattr__"))) (eb_InvalidBorders : PySem.W.subIn K (.ref C_InvalidBorders) (.type "BaseException") = some true) (et_InvalidBorders : PySem.W.typeIn K (.ref C_InvalidBorders) = some (.type "type")) (ek_InvalidBorders : PySem.W.keepIn K (.ref C_InvalidBorders) = true) (em_InvalidBorders : PySem.W.mroIn K C_InvalidBorders (.ref C_InvalidBorders) = some true) (eu_InvalidBorders : PySem.W.ks_superIn K C_InvalidBorders C_InvalidBorders "__init__" = some (some (.builtin "ValueError.__init__"))) (ev_InvalidBorders : PySem.W.subIn K (.ref C_InvalidBorders) (.type "ValueError") = some true) (ega_InvalidBorders : PySem.W.findIn K (.ref C_InvalidBorders) "__getattribute__" = some (some (.builtin "BaseException.__getattribute__"))) (egg_InvalidBorders : PySem.W.findIn K (.ref C_InvalidBorders) "__getattr__" = some none) (ehd_InvalidBorders : PySem.W.hasDictIn K C_InvalidBorders = true) (eti_InvalidBorders : PySem.W.typeIn K (.ref A_InvalidBorders_init) = some (.type "function")) (xb_InvalidBorders_InvalidNumber : PySem.W.subIn K (.ref C_InvalidNumber) (.type "BaseException") = some true) (xi_InvalidBorders_InvalidNumber : PySem.W.isClsIn K C_InvalidNumber = true) (xt_InvalidBorders_InvalidNumber : PySem.W.typeIn K (.ref C_InvalidNumber) = some (.type "type")) (xs_InvalidBorders_InvalidNumber : PySem.W.subIn K (.ref C_InvalidBorders) (.ref C_InvalidNumber) = some false) (xb_InvalidBorders_InvalidBorders : PySem.W.subIn K (.ref C_InvalidBorders) (.type "BaseException") = some true) (xi_InvalidBorders_InvalidBorders : PySem.W.isClsIn K C_InvalidBorders = true) (xt_InvalidBorders_InvalidBorders : PySem.W.typeIn K (.ref C_InvalidBorders) = some (.type "type")) (xs_InvalidBorders_InvalidBorders : PySem.W.subIn K (.ref C_InvalidBorders) (.ref C_InvalidBorders) = some true) (no_InvalidBorders_at : PySem.W.findIn K (.ref C_InvalidBorders) "at" = some none) (no_InvalidBorders_code : PySem.W.findIn K (.ref C_InvalidBorders) "code" = some none) (el_InvalidRest : K.lookup C_InvalidRest = some (excClassObj nm_InvalidRest q_InvalidRest C_InvalidRest N_InvalidRest bs_InvalidRest [.ref C_SureletError, .type "ValueError", .type "Exception", .type "BaseException", .type "object"] true sn_InvalidRest sb_InvalidRest ab_InvalidRest co_InvalidRest dd_InvalidRest e0_InvalidRest e1_InvalidRest e2_InvalidRest e3_InvalidRest e5_InvalidRest "ValueError.__new__")) (es_InvalidRest : PySem.W.findIn K (.ref C_InvalidRest) "__setattr__" = some (some (.builtin "object.__setattr__"))) (eb_InvalidRest : PySem.W.subIn K (.ref C_InvalidRest) (.type "BaseException") = some true) (et_InvalidRest : PySem.W.typeIn K (.ref C_InvalidRest) = some (.type "type")) (ek_InvalidRest : PySem.W.keepIn K (.ref C_InvalidRest) = true) (em_InvalidRest : PySem.W.mroIn K C_InvalidRest (.ref C_InvalidRest) = some true) (eu_InvalidRest : PySem.W.ks_superIn K C_InvalidRest C_InvalidRest "__init__" = some (some (.builtin "ValueError.__init__"))) (ev_InvalidRest : PySem.W.subIn K (.ref C_InvalidRest) (.type "ValueError") = some true) (ega_InvalidRest : PySem.W.findIn K (.ref C_InvalidRest) "__getattribute__" = some (some (.builtin "BaseException.__getattribute__"))) (egg_InvalidRest : PySem.W.findIn K (.ref C_InvalidRest) "__getattr__" = some none) (ehd_InvalidRest : PySem.W.hasDictIn K C_InvalidRest = true) (eti_InvalidRest : PySem.W.typeIn K (.ref A_InvalidRest_init) = some (.type "function")) (xb_InvalidRest_InvalidNumber : PySem.W.subIn K (.ref C_InvalidNumber) (.type "BaseException") = some true) (xi_InvalidRest_InvalidNumber : PySem.W.isClsIn K C_InvalidNumber = true) (xt_InvalidRest_InvalidNumber : PySem.W.typeIn K (.ref C_InvalidNumber) = some (.type "type")) (xs_InvalidRest_InvalidNumber : PySem.W.subIn K (.ref C_InvalidRest) (.ref C_InvalidNumber) = some false) (xb_InvalidRest_InvalidBorders : PySem.W.subIn K (.ref C_InvalidBorders) (.type "BaseException") = some true) (xi_InvalidRest_InvalidBorders : PySem.W.isClsIn K C_InvalidBorders = true) (xt_InvalidRest_InvalidBorders : PySem.W.typeIn K (.ref C_InvalidBorders) = some (.type "type")) (xs_InvalidRest_InvalidBorders : PySem.W.subIn K (.ref C_InvalidRest) (.ref C_InvalidBorders) = some false) (xb_InvalidRest_InvalidRest : PySem.W.subIn K (.ref C_InvalidRest) (.type "BaseException") = some true) (xi_InvalidRest_InvalidRest : PySem.W.isClsIn K C_InvalidRest = true) (xt_InvalidRest_InvalidRest : PySem.W.typeIn K (.ref C_InvalidRest) = some (.type "type")) (xs_InvalidRest_InvalidRest : PySem.W.subIn K (.ref C_InvalidRest) (.ref C_InvalidRest) = some true) (no_InvalidRest_value : PySem.W.findIn K (.ref C_InvalidRest) "value" = some none) (no_InvalidRest_code : PySem.W.findIn K (.ref C_InvalidRest) "code" = some none) (el_TooMany : K.lookup C_TooMany = some (excClassObj nm_TooMany q_TooMany C_TooMany N_TooMany bs_TooMany [.ref C_SureletError, .type "ValueError", .type "Exception", .type "BaseException", .type "object"] true sn_TooMany sb_TooMany ab_TooMany co_TooMany dd_TooMany e0_TooMany e1_TooMany e2_TooMany e3_TooMany e5_TooMany "ValueError.__new__")) (es_TooMany : PySem.W.findIn K (.ref C_TooMany) "__setattr__" = some (some (.builtin "object.__setattr__"))) (eb_TooMany : PySem.W.subIn K (.ref C_TooMany) (.type "BaseException") = some true) (et_TooMany : PySem.W.typeIn K (.ref C_TooMany) = some (.type "type")) (ek_TooMany : PySem.W.keepIn K (.ref C_TooMany) = true) (em_TooMany : PySem.W.mroIn K C_TooMany (.ref C_TooMany) = some true) (eu_TooMany : PySem.W.ks_superIn K C_TooMany C_TooMany "__init__" = some (some (.builtin "ValueError.__init__"))) (ev_TooMany : PySem.W.subIn K (.ref C_TooMany) (.type "ValueError") = some true) (ega_TooMany : PySem.W.findIn K (.ref C_TooMany) "__getattribute__" = some (some (.builtin "BaseException.__getattribute__"))) (egg_TooMany : PySem.W.findIn K (.ref C_TooMany) "__getattr__" = some none) (ehd_TooMany : PySem.W.hasDictIn K C_TooMany = true) (eti_TooMany : PySem.W.typeIn K (.ref A_TooMany_init) = some (.type "function")) (xb_TooMany_InvalidNumber : PySem.W.subIn K (.ref C_InvalidNumber) (.type "BaseException") = some true) (xi_TooMany_InvalidNumber : PySem.W.isClsIn K C_InvalidNumber = true) (xt_TooMany_InvalidNumber : PySem.W.typeIn K (.ref C_InvalidNumber) = some (.type "type")) (xs_TooMany_InvalidNumber : PySem.W.subIn K (.ref C_TooMany) (.ref C_InvalidNumber) = some false) (xb_TooMany_InvalidBorders : PySem.W.subIn K (.ref C_InvalidBorders) (.type "BaseException") = some true) (xi_TooMany_InvalidBorders : PySem.W.isClsIn K C_InvalidBorders = true) (xt_TooMany_InvalidBorders : PySem.W.typeIn K (.ref C_InvalidBorders) = some (.type "type")) (xs_TooMany_InvalidBorders : PySem.W.subIn K (.ref C_TooMany) (.ref C_InvalidBorders) = some false) (xb_TooMany_InvalidRest : PySem.W.subIn K (.ref C_InvalidRest) (.type "BaseException") = some true) (xi_TooMany_InvalidRest : PySem.W.isClsIn K C_InvalidRest = true) (xt_TooMany_InvalidRest : PySem.W.typeIn K (.ref C_InvalidRest) = some (.type "type")) (xs_TooMany_InvalidRest : PySem.W.subIn K (.ref C_TooMany) (.ref C_InvalidRest) = some false) (xb_TooMany_TooMany : PySem.W.subIn K (.ref C_TooMany) (.type "BaseException") = some true) (xi_TooMany_TooMany : PySem.W.isClsIn K C_TooMany = true) (xt_TooMany_TooMany : PySem.W.typeIn K (.ref C_TooMany) = some (.type "type")) (xs_TooMany_TooMany : PySem.W.subIn K (.ref C_TooMany) (.ref C_TooMany) = some true) (no_TooMany_what : PySem.W.findIn K (.ref C_TooMany) "what" = some none) (no_TooMany_count : PySem.W.findIn K (.ref C_TooMany) "count" = some none) (no_TooMany_code : PySem.W.findIn K (.ref C_TooMany) "code" = some none) (kb_int_Rest : PySem.W.kitOne K (.type "int") (.ref C_Rest) = some false) (kb_bool_Rest : PySem.W.kitOne K (.type "bool") (.ref C_Rest) = some false) (kb_str_Rest : PySem.W.kitOne K (.type "str") (.ref C_Rest) = some false) (kb_NoneType_Rest : PySem.W.kitOne K (.type "NoneType") (.ref C_Rest) = some false) (kb_list_Rest : PySem.W.kitOne K (.type "list") (.ref C_Rest) = some false) (kb_tuple_Rest : PySem.W.kitOne K (.type "tuple") (.ref C_Rest) = some false) (kb_dict_Rest : PySem.W.kitOne K (.type "dict") (.ref C_Rest) = some false) (pg_Window : PySem.W.plainGet K C_Window Str.empty = true) (hd_Window : PySem.W.hasDictIn K C_Window = true) (po_Window : PySem.W.plainOver K C_Window = true) (sa_Window : PySem.W.findIn K (.ref C_Window) "__setattr__" = some (some (.builtin "object.__setattr__"))) (mk_Window : PySem.W.makesIn K C_Window = true) (kc_Window : PySem.W.keepIn K (.ref C_Window) = true) (th_Window : PySem.W.findIn K (.ref C_Window) "__class__" = some (some (.builtin "object.__class__"))) (tn_Window : PySem.W.specialIn K (.builtin "object.__class__") "__get__" = some (some (.builtin "getset_descriptor.__get__"))) (tk_Window : PySem.W.takesIn K (.builtin "object.__class__") = some true) (tm_Window : PySem.W.mroIn K C_Window (.type "object") = some true) (kt_Window_Rest : PySem.W.kitOne K (.ref C_Window) (.ref C_Rest) = some true) (kt_Window_Window : PySem.W.kitOne K (.ref C_Window) (.ref C_Window) = some true) (kt_Window_Days : PySem.W.kitOne K (.ref C_Window) (.ref C_Days) = some false) (kt_Window_Later : PySem.W.kitOne K (.ref C_Window) (.ref C_Later) = some false) (kt_Window_Sooner : PySem.W.kitOne K (.ref C_Window) (.ref C_Sooner) = some false) (kt_Window_Next : PySem.W.kitOne K (.ref C_Window) (.ref C_Next) = some false) (su_Window : PySem.W.mroIn K C_Window (.ref C_Window) = some true) (sm_Window : PySem.W.ks_superIn K C_Window C_Window "__init__" = some (some (.ref A_Rest_init))) (sf_Window : PySem.W.fnIn K A_Rest_init = true) (st_Window : PySem.W.typeIn K (.ref A_Rest_init) = some (.type "function")) (no_Window_text : PySem.W.findIn K (.ref C_Window) "_text" = some none) (no_Window_forms : PySem.W.findIn K (.ref C_Window) "_forms" = some none) (no_Window_period : PySem.W.findIn K (.ref C_Window) "_period" = some none) (no_Window_bend : PySem.W.findIn K (.ref C_Window) "_bend" = some none) (no_Window_width : PySem.W.findIn K (.ref C_Window) "width" = some none) (me_Window_forms : PySem.W.findIn K (.ref C_Window) "forms" = some (some (.ref A_Rest_forms))) (mi_Window_forms : PySem.W.isFn K (.ref A_Rest_forms) = true) (me_Window_period : PySem.W.findIn K (.ref C_Window) "period" = some (some (.ref A_Rest_period))) (mi_Window_period : PySem.W.isFn K (.ref A_Rest_period) = true) (me_Window_bend : PySem.W.findIn K (.ref C_Window) "bend" = some (some (.ref A_Rest_bend))) (mi_Window_bend : PySem.W.isFn K (.ref A_Rest_bend) = true) (me_Window_written : PySem.W.findIn K (.ref C_Window) "written" = some (some (.ref A_Rest_written))) (mi_Window_written : PySem.W.isFn K (.ref A_Rest_written) = true) (strf_Window : PySem.W.findIn K (.ref C_Window) "__str__" = some (some (.ref A_Rest_str))) (stri_Window : PySem.W.isFn K (.ref A_Rest_str) = true) (reprf_Window : PySem.W.findIn K (.ref C_Window) "__repr__" = some (some (.ref A_Rest_repr))) (repri_Window : PySem.W.isFn K (.ref A_Rest_repr) = true) (eqf_Window : PySem.W.findIn K (.ref C_Window) "__eq__" = some (some (.ref A_Rest_eq))) (eqi_Window : PySem.W.isFn K (.ref A_Rest_eq) = true) (nf_Window_str : PySem.W.notFirst K C_Window (.type "str") = true) (nf_Window_int : PySem.W.notFirst K C_Window (.type "int") = true) (nf_Window : PySem.W.notFirst K C_Window (.ref C_Window) = true) (nf_Window_NoneType : PySem.W.notFirst K C_Window (.type "NoneType") = true) (nf_Window_bool : PySem.W.notFirst K C_Window (.type "bool") = true) (nf_Window_list : PySem.W.notFirst K C_Window (.type "list") = true) (nf_Window_tuple : PySem.W.notFirst K C_Window (.type "tuple") = true) (nef_Window : PySem.W.findIn K (.ref C_Window) "__ne__" = some (some (.builtin "object.__ne__"))) (nem_Window : PySem.W.mroIn K C_Window (.type "object") = some true) (nf_Window_Days : PySem.W.notFirst K C_Window (.ref C_Days) = true) (nf_Window_Later : PySem.W.notFirst K C_Window (.ref C_Later) = true) (nf_Window_Sooner : PySem.W.notFirst K C_Window (.ref C_Sooner) = true) (nf_Window_Next : PySem.W.notFirst K C_Window (.ref C_Next) = true) (kb_int_Window : PySem.W.kitOne K (.type "int") (.ref C_Window) = some false) (kb_bool_Window : PySem.W.kitOne K (.type "bool") (.ref C_Window) = some false) (kb_str_Window : PySem.W.kitOne K (.type "str") (.ref C_Window) = some false) (kb_NoneType_Window : PySem.W.kitOne K (.type "NoneType") (.ref C_Window) = some false) (kb_list_Window : PySem.W.kitOne K (.type "list") (.ref C_Window) = some false) (kb_tuple_Window : PySem.W.kitOne K (.type "tuple") (.ref C_Window) = some false) (kb_dict_Window : PySem.W.kitOne K (.type "dict") (.ref C_Window) = some false) (pg_Days : PySem.W.plainGet K C_Days Str.empty = true) (hd_Days : PySem.W.hasDictIn K C_Days = true) (po_Days : PySem.W.plainOver K C_Days = true) (sa_Days : PySem.W.findIn K (.ref C_Days) "__setattr__" = some (some (.builtin "object.__setattr__"))) (mk_Days : PySem.W.makesIn K C_Days = true) (kc_Days : PySem.W.keepIn K (.ref C_Days) = true) (th_Days : PySem.W.findIn K (.ref C_Days) "__class__" = some (some (.builtin "object.__class__"))) (tn_Days : PySem.W.specialIn K (.builtin "object.__class__") "__get__" = some (some (.builtin "getset_descriptor.__get__"))) (tk_Days : PySem.W.takesIn K (.builtin "object.__class__") = some true) (tm_Days : PySem.W.mroIn K C_Days (.type "object") = some true) (kt_Days_Rest : PySem.W.kitOne K (.ref C_Days) (.ref C_Rest) = some true) (kt_Days_Window : PySem.W.kitOne K (.ref C_Days) (.ref C_Window) = some false) (kt_Days_Days : PySem.W.kitOne K (.ref C_Days) (.ref C_Days) = some true) (kt_Days_Later : PySem.W.kitOne K (.ref C_Days) (.ref C_Later) = some false) (kt_Days_Sooner : PySem.W.kitOne K (.ref C_Days) (.ref C_Sooner) = some false) (kt_Days_Next : PySem.W.kitOne K (.ref C_Days) (.ref C_Next) = some false) (su_Days : PySem.W.mroIn K C_Days (.ref C_Days) = some true) (sm_Days : PySem.W.ks_superIn K C_Days C_Days "__init__" = some (some (.ref A_Rest_init))) (sf_Days : PySem.W.fnIn K A_Rest_init = true) (st_Days : PySem.W.typeIn K (.ref A_Rest_init) = some (.type "function")) (no_Days_text : PySem.W.findIn K (.ref C_Days) "_text" = some none) (no_Days_forms : PySem.W.findIn K (.ref C_Days) "_forms" = some none) (no_Days_period : PySem.W.findIn K (.ref C_Days) "_period" = some none) (no_Days_bend : PySem.W.findIn K (.ref C_Days) "_bend" = some none) (no_Days_every : PySem.W.findIn K (.ref C_Days) "every" = some none) (no_Days_borders : PySem.W.findIn K (.ref C_Days) "_borders" = some none) (me_Days_forms : PySem.W.findIn K (.ref C_Days) "forms" = some (some (.ref A_Rest_forms))) (mi_Days_forms : PySem.W.isFn K (.ref A_Rest_forms) = true) (me_Days_period : PySem.W.findIn K (.ref C_Days) "period" = some (some (.ref A_Rest_period))) (mi_Days_period : PySem.W.isFn K (.ref A_Rest_period) = true) (me_Days_bend : PySem.W.findIn K (.ref C_Days) "bend" = some (some (.ref A_Rest_bend))) (mi_Days_bend : PySem.W.isFn K (.ref A_Rest_bend) = true) (me_Days_written : PySem.W.findIn K (.ref C_Days) "written" = some (some (.ref A_Rest_written))) (mi_Days_written : PySem.W.isFn K (.ref A_Rest_written) = true) (me_Days_borders : PySem.W.findIn K (.ref C_Days) "borders" = some (some (.ref A_Days_borders))) (mi_Days_borders : PySem.W.isFn K (.ref A_Days_borders) = true) (strf_Days : PySem.W.findIn K (.ref C_Days) "__str__" = some (some (.ref A_Rest_str))) (stri_Days : PySem.W.isFn K (.ref A_Rest_str) = true) (reprf_Days : PySem.W.findIn K (.ref C_Days) "__repr__" = some (some (.ref A_Rest_repr))) (repri_Days : PySem.W.isFn K (.ref A_Rest_repr) = true) (eqf_Days : PySem.W.findIn K (.ref C_Days) "__eq__" = some (some (.ref A_Rest_eq))) (eqi_Days : PySem.W.isFn K (.ref A_Rest_eq) = true) (nf_Days_str : PySem.W.notFirst K C_Days (.type "str") = true) (nf_Days_int : PySem.W.notFirst K C_Days (.type "int") = true) (nf_Days : PySem.W.notFirst K C_Days (.ref C_Days) = true) (nf_Days_NoneType : PySem.W.notFirst K C_Days (.type "NoneType") = true) (nf_Days_bool : PySem.W.notFirst K C_Days (.type "bool") = true) (nf_Days_list : PySem.W.notFirst K C_Days (.type "list") = true) (nf_Days_tuple : PySem.W.notFirst K C_Days (.type "tuple") = true) (nef_Days : PySem.W.findIn K (.ref C_Days) "__ne__" = some (some (.builtin "object.__ne__"))) (nem_Days : PySem.W.mroIn K C_Days (.type "object") = some true) (nf_Days_Window : PySem.W.notFirst K C_Days (.ref C_Window) = true) (nf_Days_Later : PySem.W.notFirst K C_Days (.ref C_Later) = true) (nf_Days_Sooner : PySem.W.notFirst K C_Days (.ref C_Sooner) = true) (nf_Days_Next : PySem.W.notFirst K C_Days (.ref C_Next) = true) (kb_int_Days : PySem.W.kitOne K (.type "int") (.ref C_Days) = some false) (kb_bool_Days : PySem.W.kitOne K (.type "bool") (.ref C_Days) = some false) (kb_str_Days : PySem.W.kitOne K (.type "str") (.ref C_Days) = some false) (kb_NoneType_Days : PySem.W.kitOne K (.type "NoneType") (.ref C_Days) = some false) (kb_list_Days : PySem.W.kitOne K (.type "list") (.ref C_Days) = some false) (kb_tuple_Days : PySem.W.kitOne K (.type "tuple") (.ref C_Days) = some false) (kb_dict_Days : PySem.W.kitOne K (.type "dict") (.ref C_Days) = some false) (pg_Later : PySem.W.plainGet K C_Later Str.empty = true) (hd_Later : PySem.W.hasDictIn K C_Later = true) (po_Later : PySem.W.plainOver K C_Later = true) (sa_Later : PySem.W.findIn K (.ref C_Later) "__setattr__" = some (some (.builtin "object.__setattr__"))) (mk_Later : PySem.W.makesIn K C_Later = true) (kc_Later : PySem.W.keepIn K (.ref C_Later) = true) (th_Later : PySem.W.findIn K (.ref C_Later) "__class__" = some (some (.builtin "object.__class__"))) (tn_Later : PySem.W.specialIn K (.builtin "object.__class__") "__get__" = some (some (.builtin "getset_descriptor.__get__"))) (tk_Later : PySem.W.takesIn K (.builtin "object.__class__") = some true) (tm_Later : PySem.W.mroIn K C_Later (.type "object") = some true) (kt_Later_Rest : PySem.W.kitOne K (.ref C_Later) (.ref C_Rest) = some true) (kt_Later_Window : PySem.W.kitOne K (.ref C_Later) (.ref C_Window) = some false) (kt_Later_Days : PySem.W.kitOne K (.ref C_Later) (.ref C_Days) = some false) (kt_Later_Later : PySem.W.kitOne K (.ref C_Later) (.ref C_Later) = some true) (kt_Later_Sooner : PySem.W.kitOne K (.ref C_Later) (.ref C_Sooner) = some false) (kt_Later_Next : PySem.W.kitOne K (.ref C_Later) (.ref C_Next) = some false) (su_Later : PySem.W.mroIn K C_Later (.ref C_Later) = some true) (sm_Later : PySem.W.ks_superIn K C_Later C_Later "__init__" = some (some (.ref A_Rest_init))) (sf_Later : PySem.W.fnIn K A_Rest_init = true) (st_Later : PySem.W.typeIn K (.ref A_Rest_init) = some (.type "function")) (no_Later_text : PySem.W.findIn K (.ref C_Later) "_text" = some none) (no_Later_forms : PySem.W.findIn K (.ref C_Later) "_forms" = some none) (no_Later_period : PySem.W.findIn K (.ref C_Later) "_period" = some none) (no_Later_bend : PySem.W.findIn K (.ref C_Later) "_bend" = some none) (no_Later_first : PySem.W.findIn K (.ref C_Later) "first" = some none) (no_Later_second : PySem.W.findIn K (.ref C_Later) "second" = some none) (me_Later_forms : PySem.W.findIn K (.ref C_Later) "forms" = some (some (.ref A_Rest_forms))) (mi_Later_forms : PySem.W.isFn K (.ref A_Rest_forms) = true) (me_Later_period : PySem.W.findIn K (.ref C_Later) "period" = some (some (.ref A_Rest_period))) (mi_Later_period : PySem.W.isFn K (.ref A_Rest_period) = true) (me_Later_bend : PySem.W.findIn K (.ref C_Later) "bend" = some (some (.ref A_Rest_bend))) (mi_Later_bend : PySem.W.isFn K (.ref A_Rest_bend) = true) (me_Later_written : PySem.W.findIn K (.ref C_Later) "written" = some (some (.ref A_Rest_written))) (mi_Later_written : PySem.W.isFn K (.ref A_Rest_written) = true) (strf_Later : PySem.W.findIn K (.ref C_Later) "__str__" = some (some (.ref A_Rest_str))) (stri_Later : PySem.W.isFn K (.ref A_Rest_str) = true) (reprf_Later : PySem.W.findIn K (.ref C_Later) "__repr__" = some (some (.ref A_Rest_repr))) (repri_Later : PySem.W.isFn K (.ref A_Rest_repr) = true) (eqf_Later : PySem.W.findIn K (.ref C_Later) "__eq__" = some (some (.ref A_Rest_eq))) (eqi_Later : PySem.W.isFn K (.ref A_Rest_eq) = true) (nf_Later_str : PySem.W.notFirst K C_Later (.type "str") = true) (nf_Later_int : PySem.W.notFirst K C_Later (.type "int") = true) (nf_Later : PySem.W.notFirst K C_Later (.ref C_Later) = true) (nf_Later_NoneType : PySem.W.notFirst K C_Later (.type "NoneType") = true) (nf_Later_bool : PySem.W.notFirst K C_Later (.type "bool") = true) (nf_Later_list : PySem.W.notFirst K C_Later (.type "list") = true) (nf_Later_tuple : PySem.W.notFirst K C_Later (.type "tuple") = true) (nef_Later : PySem.W.findIn K (.ref C_Later) "__ne__" = some (some (.builtin "object.__ne__"))) (nem_Later : PySem.W.mroIn K C_Later (.type "object") = some true) (nf_Later_Window : PySem.W.notFirst K C_Later (.ref C_Window) = true) (nf_Later_Days : PySem.W.notFirst K C_Later (.ref C_Days) = true) (nf_Later_Sooner : PySem.W.notFirst K C_Later (.ref C_Sooner) = true) (nf_Later_Next : PySem.W.notFirst K C_Later (.ref C_Next) = true) (kb_int_Later : PySem.W.kitOne K (.type "int") (.ref C_Later) = some false) (kb_bool_Later : PySem.W.kitOne K (.type "bool") (.ref C_Later) = some false) (kb_str_Later : PySem.W.kitOne K (.type "str") (.ref C_Later) = some false) (kb_NoneType_Later : PySem.W.kitOne K (.type "NoneType") (.ref C_Later) = some false) (kb_list_Later : PySem.W.kitOne K (.type "list") (.ref C_Later) = some false) (kb_tuple_Later : PySem.W.kitOne K (.type "tuple") (.ref C_Later) = some false) (kb_dict_Later : PySem.W.kitOne K (.type "dict") (.ref C_Later) = some false) (pg_Sooner : PySem.W.plainGet K C_Sooner Str.empty = true) (hd_Sooner : PySem.W.hasDictIn K C_Sooner = true) (po_Sooner : PySem.W.plainOver K C_Sooner = true) (sa_Sooner : PySem.W.findIn K (.ref C_Sooner) "__setattr__" = some (some (.builtin "object.__setattr__"))) (mk_Sooner : PySem.W.makesIn K C_Sooner = true) (kc_Sooner : PySem.W.keepIn K (.ref C_Sooner) = true) (th_Sooner : PySem.W.findIn K (.ref C_Sooner) "__class__" = some (some (.builtin "object.__class__"))) (tn_Sooner : PySem.W.specialIn K (.builtin "object.__class__") "__get__" = some (some (.builtin "getset_descriptor.__get__"))) (tk_Sooner : PySem.W.takesIn K (.builtin "object.__class__") = some true) (tm_Sooner : PySem.W.mroIn K C_Sooner (.type "object") = some true) (kt_Sooner_Rest : PySem.W.kitOne K (.ref C_Sooner) (.ref C_Rest) = some true) (kt_Sooner_Window : PySem.W.kitOne K (.ref C_Sooner) (.ref C_Window) = some false) (kt_Sooner_Days : PySem.W.kitOne K (.ref C_Sooner) (.ref C_Days) = some false) (kt_Sooner_Later : PySem.W.kitOne K (.ref C_Sooner) (.ref C_Later) = some false) (kt_Sooner_Sooner : PySem.W.kitOne K (.ref C_Sooner) (.ref C_Sooner) = some true) (kt_Sooner_Next : PySem.W.kitOne K (.ref C_Sooner) (.ref C_Next) = some false) (su_Sooner : PySem.W.mroIn K C_Sooner (.ref C_Sooner) = some true) (sm_Sooner : PySem.W.ks_superIn K C_Sooner C_Sooner "__init__" = some (some (.ref A_Rest_init))) (sf_Sooner : PySem.W.fnIn K A_Rest_init = true) (st_Sooner : PySem.W.typeIn K (.ref A_Rest_init) = some (.type "function")) (no_Sooner_text : PySem.W.findIn K (.ref C_Sooner) "_text" = some none) (no_Sooner_forms : PySem.W.findIn K (.ref C_Sooner) "_forms" = some none) (no_Sooner_period : PySem.W.findIn K (.ref C_Sooner) "_period" = some none) (no_Sooner_bend : PySem.W.findIn K (.ref C_Sooner) "_bend" = some none) (no_Sooner_first : PySem.W.findIn K (.ref C_Sooner) "first" = some none) (no_Sooner_second : PySem.W.findIn K (.ref C_Sooner) "second" = some none) (me_Sooner_forms : PySem.W.findIn K (.ref C_Sooner) "forms" = some (some (.ref A_Rest_forms))) (mi_Sooner_forms : PySem.W.isFn K (.ref A_Rest_forms) = true) (me_Sooner_period : PySem.W.findIn K (.ref C_Sooner) "period" = some (some (.ref A_Rest_period))) (mi_Sooner_period : PySem.W.isFn K (.ref A_Rest_period) = true) (me_Sooner_bend : PySem.W.findIn K (.ref C_Sooner) "bend" = some (some (.ref A_Rest_bend))) (mi_Sooner_bend : PySem.W.isFn K (.ref A_Rest_bend) = true) (me_Sooner_written : PySem.W.findIn K (.ref C_Sooner) "written" = some (some (.ref A_Rest_written))) (mi_Sooner_written : PySem.W.isFn K (.ref A_Rest_written) = true) (strf_Sooner : PySem.W.findIn K (.ref C_Sooner) "__str__" = some (some (.ref A_Rest_str))) (stri_Sooner : PySem.W.isFn K (.ref A_Rest_str) = true) (reprf_Sooner : PySem.W.findIn K (.ref C_Sooner) "__repr__" = some (some (.ref A_Rest_repr))) (repri_Sooner : PySem.W.isFn K (.ref A_Rest_repr) = true) (eqf_Sooner : PySem.W.findIn K (.ref C_Sooner) "__eq__" = some (some (.ref A_Rest_eq))) (eqi_Sooner : PySem.W.isFn K (.ref A_Rest_eq) = true) (nf_Sooner_str : PySem.W.notFirst K C_Sooner (.type "str") = true) (nf_Sooner_int : PySem.W.notFirst K C_Sooner (.type "int") = true) (nf_Sooner : PySem.W.notFirst K C_Sooner (.ref C_Sooner) = true) (nf_Sooner_NoneType : PySem.W.notFirst K C_Sooner (.type "NoneType") = true) (nf_Sooner_bool : PySem.W.notFirst K C_Sooner (.type "bool") = true) (nf_Sooner_list : PySem.W.notFirst K C_Sooner (.type "list") = true) (nf_Sooner_tuple : PySem.W.notFirst K C_Sooner (.type "tuple") = true) (nef_Sooner : PySem.W.findIn K (.ref C_Sooner) "__ne__" = some (some (.builtin "object.__ne__"))) (nem_Sooner : PySem.W.mroIn K C_Sooner (.type "object") = some true) (nf_Sooner_Window : PySem.W.notFirst K C_Sooner (.ref C_Window) = true) (nf_Sooner_Days : PySem.W.notFirst K C_Sooner (.ref C_Days) = true) (nf_Sooner_Later : PySem.W.notFirst K C_Sooner (.ref C_Later) = true) (nf_Sooner_Next : PySem.W.notFirst K C_Sooner (.ref C_Next) = true) (kb_int_Sooner : PySem.W.kitOne K (.type "int") (.ref C_Sooner) = some false) (kb_bool_Sooner : PySem.W.kitOne K (.type "bool") (.ref C_Sooner) = some false) (kb_str_Sooner : PySem.W.kitOne K (.type "str") (.ref C_Sooner) = some false) (kb_NoneType_Sooner : PySem.W.kitOne K (.type "NoneType") (.ref C_Sooner) = some false) (kb_list_Sooner : PySem.W.kitOne K (.type "list") (.ref C_Sooner) = some false) (kb_tuple_Sooner : PySem.W.kitOne K (.type "tuple") (.ref C_Sooner) = some false) (kb_dict_Sooner : PySem.W.kitOne K (.type "dict") (.ref C_Sooner) = some false) (pg_Next : PySem.W.plainGet K C_Next Str.empty = true) (hd_Next : PySem.W.hasDictIn K C_Next = true) (po_Next : PySem.W.plainOver K C_Next = true) (sa_Next : PySem.W.findIn K (.ref C_Next) "__setattr__" = some (some (.builtin "object.__setattr__"))) (mk_Next : PySem.W.makesIn K C_Next = true) (kc_Next : PySem.W.keepIn K (.ref C_Next) = true) (th_Next : PySem.W.findIn K (.ref C_Next) "__class__" = some (some (.builtin "object.__class__"))) (tn_Next : PySem.W.specialIn K (.builtin "object.__class__") "__get__" = some (some (.builtin "getset_descriptor.__get__"))) (tk_Next : PySem.W.takesIn K (.builtin "object.__class__") = some true) (tm_Next : PySem.W.mroIn K C_Next (.type "object") = some true) (kt_Next_Rest : PySem.W.kitOne K (.ref C_Next) (.ref C_Rest) = some true) (kt_Next_Window : PySem.W.kitOne K (.ref C_Next) (.ref C_Window) = some false) (kt_Next_Days : PySem.W.kitOne K (.ref C_Next) (.ref C_Days) = some false) (kt_Next_Later : PySem.W.kitOne K (.ref C_Next) (.ref C_Later) = some false) (kt_Next_Sooner : PySem.W.kitOne K (.ref C_Next) (.ref C_Sooner) = some false) (kt_Next_Next : PySem.W.kitOne K (.ref C_Next) (.ref C_Next) = some true) (su_Next : PySem.W.mroIn K C_Next (.ref C_Next) = some true) (sm_Next : PySem.W.ks_superIn K C_Next C_Next "__init__" = some (some (.ref A_Rest_init))) (sf_Next : PySem.W.fnIn K A_Rest_init = true) (st_Next : PySem.W.typeIn K (.ref A_Rest_init) = some (.type "function")) (no_Next_text : PySem.W.findIn K (.ref C_Next) "_text" = some none) (no_Next_forms : PySem.W.findIn K (.ref C_Next) "_forms" = some none) (no_Next_period : PySem.W.findIn K (.ref C_Next) "_period" = some none) (no_Next_bend : PySem.W.findIn K (.ref C_Next) "_bend" = some none) (no_Next_first : PySem.W.findIn K (.ref C_Next) "first" = some none) (no_Next_second : PySem.W.findIn K (.ref C_Next) "second" = some none) (me_Next_forms : PySem.W.findIn K (.ref C_Next) "forms" = some (some (.ref A_Rest_forms))) (mi_Next_forms : PySem.W.isFn K (.ref A_Rest_forms) = true) (me_Next_period : PySem.W.findIn K (.ref C_Next) "period" = some (some (.ref A_Rest_period))) (mi_Next_period : PySem.W.isFn K (.ref A_Rest_period) = true) (me_Next_bend : PySem.W.findIn K (.ref C_Next) "bend" = some (some (.ref A_Rest_bend))) (mi_Next_bend : PySem.W.isFn K (.ref A_Rest_bend) = true) (me_Next_written : PySem.W.findIn K (.ref C_Next) "written" = some (some (.ref A_Rest_written))) (mi_Next_written : PySem.W.isFn K (.ref A_Rest_written) = true) (strf_Next : PySem.W.findIn K (.ref C_Next) "__str__" = some (some (.ref A_Rest_str))) (stri_Next : PySem.W.isFn K (.ref A_Rest_str) = true) (reprf_Next : PySem.W.findIn K (.ref C_Next) "__repr__" = some (some (.ref A_Rest_repr))) (repri_Next : PySem.W.isFn K (.ref A_Rest_repr) = true) (eqf_Next : PySem.W.findIn K (.ref C_Next) "__eq__" = some (some (.ref A_Rest_eq))) (eqi_Next : PySem.W.isFn K (.ref A_Rest_eq) = true) (nf_Next_str : PySem.W.notFirst K C_Next (.type "str") = true) (nf_Next_int : PySem.W.notFirst K C_Next (.type "int") = true) (nf_Next : PySem.W.notFirst K C_Next (.ref C_Next) = true) (nf_Next_NoneType : PySem.W.notFirst K C_Next (.type "NoneType") = true) (nf_Next_bool : PySem.W.notFirst K C_Next (.type "bool") = true) (nf_Next_list : PySem.W.notFirst K C_Next (.type "list") = true) (nf_Next_tuple : PySem.W.notFirst K C_Next (.type "tuple") = true) (nef_Next : PySem.W.findIn K (.ref C_Next) "__ne__" = some (some (.builtin "object.__ne__"))) (nem_Next : PySem.W.mroIn K C_Next (.type "object") = some true) (nf_Next_Window : PySem.W.notFirst K C_Next (.ref C_Window) = true) (nf_Next_Days : PySem.W.notFirst K C_Next (.ref C_Days) = true) (nf_Next_Later : PySem.W.notFirst K C_Next (.ref C_Later) = true) (nf_Next_Sooner : PySem.W.notFirst K C_Next (.ref C_Sooner) = true) (kb_int_Next : PySem.W.kitOne K (.type "int") (.ref C_Next) = some false) (kb_bool_Next : PySem.W.kitOne K (.type "bool") (.ref C_Next) = some false) (kb_str_Next : PySem.W.kitOne K (.type "str") (.ref C_Next) = some false) (kb_NoneType_Next : PySem.W.kitOne K (.type "NoneType") (.ref C_Next) = some false) (kb_list_Next : PySem.W.kitOne K (.type "list") (.ref C_Next) = some false) (kb_tuple_Next : PySem.W.kitOne K (.type "tuple") (.ref C_Next) = some false) (kb_dict_Next : PySem.W.kitOne K (.type "dict") (.ref C_Next) = some false) :
    LamX.LawAtS PySem.Challenge.rw_surelet_k04_rests_built_and_refused w K CX0 14 63 "_law_script" mg fa h := by
  have e := hfa.symm.trans (PySem.W.mg_of X G a_law)
  cases e
  let T := tx_mk X G aC_SureletError aC_InvalidNumber aC_InvalidBorders aC_InvalidRest aC_TooMany aC_Rest aC_Window aC_Days aC_Later aC_Sooner aC_Next a_InvalidNumber_init i_InvalidNumber_init l_InvalidNumber_init c_InvalidNumber_init k_InvalidNumber_init cell_InvalidNumber_init code_InvalidNumber_init vs_InvalidNumber_init fl_InvalidNumber_init cd_InvalidNumber_init a_InvalidBorders_init i_InvalidBorders_init l_InvalidBorders_init c_InvalidBorders_init k_InvalidBorders_init cell_InvalidBorders_init code_InvalidBorders_init vs_InvalidBorders_init fl_InvalidBorders_init cd_InvalidBorders_init a_InvalidRest_init i_InvalidRest_init l_InvalidRest_init c_InvalidRest_init k_InvalidRest_init cell_InvalidRest_init code_InvalidRest_init vs_InvalidRest_init fl_InvalidRest_init cd_InvalidRest_init a_TooMany_init i_TooMany_init l_TooMany_init c_TooMany_init k_TooMany_init cell_TooMany_init code_TooMany_init vs_TooMany_init fl_TooMany_init cd_TooMany_init a_is_number l_is_number c_is_number k_is_number a_Rest_init i_Rest_init l_Rest_init c_Rest_init k_Rest_init a_Rest_forms i_Rest_forms l_Rest_forms c_Rest_forms k_Rest_forms a_Rest_period i_Rest_period l_Rest_period c_Rest_period k_Rest_period a_Rest_bend i_Rest_bend l_Rest_bend c_Rest_bend k_Rest_bend a_Rest_written i_Rest_written l_Rest_written c_Rest_written k_Rest_written a_Rest_str i_Rest_str l_Rest_str c_Rest_str k_Rest_str a_Rest_repr i_Rest_repr l_Rest_repr c_Rest_repr k_Rest_repr a_Rest_eq i_Rest_eq l_Rest_eq c_Rest_eq k_Rest_eq a_Window_init i_Window_init l_Window_init c_Window_init k_Window_init cell_Window_init code_Window_init vs_Window_init fl_Window_init cd_Window_init a_Days_init i_Days_init l_Days_init c_Days_init k_Days_init cell_Days_init code_Days_init vs_Days_init fl_Days_init cd_Days_init a_Days_borders i_Days_borders l_Days_borders c_Days_borders k_Days_borders a_joined l_joined c_joined k_joined a_Later_init i_Later_init l_Later_init c_Later_init k_Later_init cell_Later_init code_Later_init vs_Later_init fl_Later_init cd_Later_init a_Sooner_init i_Sooner_init l_Sooner_init c_Sooner_init k_Sooner_init cell_Sooner_init code_Sooner_init vs_Sooner_init fl_Sooner_init cd_Sooner_init a_Next_init i_Next_init l_Next_init c_Next_init k_Next_init cell_Next_init code_Next_init vs_Next_init fl_Next_init cd_Next_init a_bag l_bag c_bag k_bag a_draw l_draw c_draw k_draw a_of l_of c_of k_of a_like l_like c_like k_like a_odd l_odd c_odd k_odd a_llcm l_llcm c_llcm k_llcm a_text l_text c_text k_text a_facts l_facts c_facts k_facts a_ask l_ask c_ask k_ask a_in l_in c_in k_in a_number l_number c_number k_number a_borders l_borders c_borders k_borders a_days_due l_days_due c_days_due k_days_due a_window l_window c_window k_window td_window tp_window tn_window a_days l_days c_days k_days td_days tp_days tn_days a_pair l_pair c_pair k_pair a_pair_due l_pair_due c_pair_due k_pair_due a_class_so l_class_so c_class_so k_class_so a_under l_under c_under k_under td_under tp_under tn_under a_told_so l_told_so c_told_so k_told_so a_equal_so l_equal_so c_equal_so k_equal_so a_law l_law c_law k_law tne_window_days tne_window_under tne_days_under top_super st_thirdparty z_all z_bool z_dict z_enumerate z_int z_isinstance z_len z_list z_max z_range z_repr z_str z_super z_tuple z_zip ac_BORDERS ac_FORMS ac_PERIOD ab_lcm el_InvalidNumber es_InvalidNumber eb_InvalidNumber et_InvalidNumber ek_InvalidNumber em_InvalidNumber eu_InvalidNumber ev_InvalidNumber ega_InvalidNumber egg_InvalidNumber ehd_InvalidNumber eti_InvalidNumber xb_InvalidNumber_InvalidNumber xi_InvalidNumber_InvalidNumber xt_InvalidNumber_InvalidNumber xs_InvalidNumber_InvalidNumber no_InvalidNumber_value no_InvalidNumber_code el_InvalidBorders es_InvalidBorders eb_InvalidBorders et_InvalidBorders ek_InvalidBorders em_InvalidBorders eu_InvalidBorders ev_InvalidBorders ega_InvalidBorders egg_InvalidBorders ehd_InvalidBorders eti_InvalidBorders xb_InvalidBorders_InvalidNumber xi_InvalidBorders_InvalidNumber xt_InvalidBorders_InvalidNumber xs_InvalidBorders_InvalidNumber xb_InvalidBorders_InvalidBorders xi_InvalidBorders_InvalidBorders xt_InvalidBorders_InvalidBorders xs_InvalidBorders_InvalidBorders no_InvalidBorders_at no_InvalidBorders_code el_InvalidRest es_InvalidRest eb_InvalidRest et_InvalidRest ek_InvalidRest em_InvalidRest eu_InvalidRest ev_InvalidRest ega_InvalidRest egg_InvalidRest ehd_InvalidRest eti_InvalidRest xb_InvalidRest_InvalidNumber xi_InvalidRest_InvalidNumber xt_InvalidRest_InvalidNumber xs_InvalidRest_InvalidNumber xb_InvalidRest_InvalidBorders xi_InvalidRest_InvalidBorders xt_InvalidRest_InvalidBorders xs_InvalidRest_InvalidBorders xb_InvalidRest_InvalidRest xi_InvalidRest_InvalidRest xt_InvalidRest_InvalidRest xs_InvalidRest_InvalidRest no_InvalidRest_value no_InvalidRest_code el_TooMany es_TooMany eb_TooMany et_TooMany ek_TooMany em_TooMany eu_TooMany ev_TooMany ega_TooMany egg_TooMany ehd_TooMany eti_TooMany xb_TooMany_InvalidNumber xi_TooMany_InvalidNumber xt_TooMany_InvalidNumber xs_TooMany_InvalidNumber xb_TooMany_InvalidBorders xi_TooMany_InvalidBorders xt_TooMany_InvalidBorders xs_TooMany_InvalidBorders xb_TooMany_InvalidRest xi_TooMany_InvalidRest xt_TooMany_InvalidRest xs_TooMany_InvalidRest xb_TooMany_TooMany xi_TooMany_TooMany xt_TooMany_TooMany xs_TooMany_TooMany no_TooMany_what no_TooMany_count no_TooMany_code kb_int_Rest kb_bool_Rest kb_str_Rest kb_NoneType_Rest kb_list_Rest kb_tuple_Rest kb_dict_Rest pg_Window hd_Window po_Window sa_Window mk_Window kc_Window th_Window tn_Window tk_Window tm_Window kt_Window_Rest kt_Window_Window kt_Window_Days kt_Window_Later kt_Window_Sooner kt_Window_Next su_Window sm_Window sf_Window st_Window no_Window_text no_Window_forms no_Window_period no_Window_bend no_Window_width me_Window_forms mi_Window_forms me_Window_period mi_Window_period me_Window_bend mi_Window_bend me_Window_written mi_Window_written strf_Window stri_Window reprf_Window repri_Window eqf_Window eqi_Window nf_Window_str nf_Window_int nf_Window nf_Window_NoneType nf_Window_bool nf_Window_list nf_Window_tuple nef_Window nem_Window nf_Window_Days nf_Window_Later nf_Window_Sooner nf_Window_Next kb_int_Window kb_bool_Window kb_str_Window kb_NoneType_Window kb_list_Window kb_tuple_Window kb_dict_Window pg_Days hd_Days po_Days sa_Days mk_Days kc_Days th_Days tn_Days tk_Days tm_Days kt_Days_Rest kt_Days_Window kt_Days_Days kt_Days_Later kt_Days_Sooner kt_Days_Next su_Days sm_Days sf_Days st_Days no_Days_text no_Days_forms no_Days_period no_Days_bend no_Days_every no_Days_borders me_Days_forms mi_Days_forms me_Days_period mi_Days_period me_Days_bend mi_Days_bend me_Days_written mi_Days_written me_Days_borders mi_Days_borders strf_Days stri_Days reprf_Days repri_Days eqf_Days eqi_Days nf_Days_str nf_Days_int nf_Days nf_Days_NoneType nf_Days_bool nf_Days_list nf_Days_tuple nef_Days nem_Days nf_Days_Window nf_Days_Later nf_Days_Sooner nf_Days_Next kb_int_Days kb_bool_Days kb_str_Days kb_NoneType_Days kb_list_Days kb_tuple_Days kb_dict_Days pg_Later hd_Later po_Later sa_Later mk_Later kc_Later th_Later tn_Later tk_Later tm_Later kt_Later_Rest kt_Later_Window kt_Later_Days kt_Later_Later kt_Later_Sooner kt_Later_Next su_Later sm_Later sf_Later st_Later no_Later_text no_Later_forms no_Later_period no_Later_bend no_Later_first no_Later_second me_Later_forms mi_Later_forms me_Later_period mi_Later_period me_Later_bend mi_Later_bend me_Later_written mi_Later_written strf_Later stri_Later reprf_Later repri_Later eqf_Later eqi_Later nf_Later_str nf_Later_int nf_Later nf_Later_NoneType nf_Later_bool nf_Later_list nf_Later_tuple nef_Later nem_Later nf_Later_Window nf_Later_Days nf_Later_Sooner nf_Later_Next kb_int_Later kb_bool_Later kb_str_Later kb_NoneType_Later kb_list_Later kb_tuple_Later kb_dict_Later pg_Sooner hd_Sooner po_Sooner sa_Sooner mk_Sooner kc_Sooner th_Sooner tn_Sooner tk_Sooner tm_Sooner kt_Sooner_Rest kt_Sooner_Window kt_Sooner_Days kt_Sooner_Later kt_Sooner_Sooner kt_Sooner_Next su_Sooner sm_Sooner sf_Sooner st_Sooner no_Sooner_text no_Sooner_forms no_Sooner_period no_Sooner_bend no_Sooner_first no_Sooner_second me_Sooner_forms mi_Sooner_forms me_Sooner_period mi_Sooner_period me_Sooner_bend mi_Sooner_bend me_Sooner_written mi_Sooner_written strf_Sooner stri_Sooner reprf_Sooner repri_Sooner eqf_Sooner eqi_Sooner nf_Sooner_str nf_Sooner_int nf_Sooner nf_Sooner_NoneType nf_Sooner_bool nf_Sooner_list nf_Sooner_tuple nef_Sooner nem_Sooner nf_Sooner_Window nf_Sooner_Days nf_Sooner_Later nf_Sooner_Next kb_int_Sooner kb_bool_Sooner kb_str_Sooner kb_NoneType_Sooner kb_list_Sooner kb_tuple_Sooner kb_dict_Sooner pg_Next hd_Next po_Next sa_Next mk_Next kc_Next th_Next tn_Next tk_Next tm_Next kt_Next_Rest kt_Next_Window kt_Next_Days kt_Next_Later kt_Next_Sooner kt_Next_Next su_Next sm_Next sf_Next st_Next no_Next_text no_Next_forms no_Next_period no_Next_bend no_Next_first no_Next_second me_Next_forms mi_Next_forms me_Next_period mi_Next_period me_Next_bend mi_Next_bend me_Next_written mi_Next_written strf_Next stri_Next reprf_Next repri_Next eqf_Next eqi_Next nf_Next_str nf_Next_int nf_Next nf_Next_NoneType nf_Next_bool nf_Next_list nf_Next_tuple nef_Next nem_Next nf_Next_Window nf_Next_Days nf_Next_Later nf_Next_Sooner kb_int_Next kb_bool_Next kb_str_Next kb_NoneType_Next kb_list_Next kb_tuple_Next kb_dict_Next
  have at_window := tab _ _ _ rc_window (tabIn_of a_window l_window rfl td_window tp_window)
  have at_days := tab _ _ _ rc_days (tabIn_of a_days l_days rfl td_days tp_days)
  have at_under := tab _ _ _ rc_under (tabIn_of a_under l_under rfl td_under tp_under)
  have c1 : ∀ p ∈ ([(cda_window, tb_window), (cda_days, tb_days), (cda_under, tb_under)] : List (Addr × Addr)), h.get? p.2 = some { cls := .none, data := .fields #[] } := fun p hp => by
    rcases List.mem_cons.mp hp with rfl | hp
    · exact at_window.2
    rcases List.mem_cons.mp hp with rfl | hp
    · exact at_days.2
    rcases List.mem_cons.mp hp with rfl | hp
    · exact at_under.2
    cases hp
  have c2 : ∀ p ∈ ([(cda_window, tb_window), (cda_days, tb_days), (cda_under, tb_under)] : List (Addr × Addr)), K.lookup p.2 = none := fun p hp => by
    rcases List.mem_cons.mp hp with rfl | hp
    · exact tn_window
    rcases List.mem_cons.mp hp with rfl | hp
    · exact tn_days
    rcases List.mem_cons.mp hp with rfl | hp
    · exact tn_under
    cases hp
  have c3 : ∀ p ∈ ([(cda_window, tb_window), (cda_days, tb_days), (cda_under, tb_under)] : List (Addr × Addr)), PySem.W.CodeHd h p.1 p.2 := fun p hp => by
    rcases List.mem_cons.mp hp with rfl | hp
    · exact at_window.1
    rcases List.mem_cons.mp hp with rfl | hp
    · exact at_days.1
    rcases List.mem_cons.mp hp with rfl | hp
    · exact at_under.1
    cases hp
  refine ⟨_, [(cda_window, tb_window), (cda_days, tb_days), (cda_under, tb_under)], spLaw T, c1, c2, c3, fun s v => .of_eq rfl, fun H a ns _ _ ht hS => ⟨a, ns, rfl, hS, fun p hp => ?_, fun _ => rfl⟩, fun base _ _ TB => ok_law T (TB (cda_window, tb_window) ((.head _))) (TB (cda_days, tb_days) ((.tail _ (.head _)))) (TB (cda_under, tb_under) ((.tail _ (.tail _ (.head _)))))⟩
  have ht2 := fun (p : Addr × Addr) (hp : p ∈ ([(cda_window, tb_window), (cda_days, tb_days), (cda_under, tb_under)] : List (Addr × Addr))) => ht p hp
  have key : H p.1 = some (.tbl #[]) := by
    have h_window : H tb_window = some (.tbl #[]) := ht2 (cda_window, tb_window) ((.head _))
    have h_days : H tb_days = some (.tbl #[]) := ht2 (cda_days, tb_days) ((.tail _ (.head _)))
    have h_under : H tb_under = some (.tbl #[]) := ht2 (cda_under, tb_under) ((.tail _ (.tail _ (.head _))))
    rcases mem_TL hp with e | e | e <;> rw [e] <;> assumption
  exact LamX.TabS.nil key
theorem walk {q : Program} {loose : List Str} {XP : (Str → Option Value) → Heap → Prop} {YP : World → Heap → Prop} {d : DefRec} {K : Params → PySem.W.Frag} (hn : PySem.Challenge.rw_surelet_k04_rests_built_and_refused.most = some 63) (hdf : d.params.defaults = [])
    (hY : ∀ (w : World) (h : Heap), YP w h → (K w.params).In h)
    (F : ∀ (w : World) (mg : Str → Option Value) (fa : Addr) (h : Heap), (K w.params).In h → h.Ns mainGlobals mg → mg d.name = some (.ref fa) → TabsTold q (K w.params) h → LamX.LawAtS PySem.Challenge.rw_surelet_k04_rests_built_and_refused w (K w.params) CX0 14 63 "_law_script" mg fa h) :
    PySem.W.WalkO q loose XP YP PySem.Challenge.rw_surelet_k04_rests_built_and_refused.row.toRowW d [] (fun f vs => PySem.call f vs) := by
  refine Att.attach_callB hn hdf fun w z0 z1 mg mb fa ob pm cd doc a us ns GT Y ho hd hcd hmg hobj hints hlen hbits hgens => ?_
  have KX := hY w _ Y
  obtain ⟨fd, cs, sp, a1, a2, a3, a4, a5, a6⟩ := F w mg fa _ KX GT.T.g hmg fun x c P hr ht => by
    obtain ⟨d2, hd2⟩ := Option.isSome_iff_exists.mp hr
    exact PySem.W.tab_of GT.T KX hd2 ht
  have small : ns.length ≤ sizeLine := Nat.le_trans hlen (by decide)
  exact LamX.law_callTs KX GT.T.g GT.T.b GT.T.builtins GT.T.nolimit hgens a1 a2 a3 GT.T.bmain hobj hints small ⟨rfl, by decide, by decide⟩ a6 a4 (fun H hH hS => a5 H a ns hlen hbits hH hS) fun _ _ _ z => z
end Law

open PySem PySem.W PyProof.Rows in
set_option maxRecDepth 100000 in
set_option maxHeartbeats 0 in
theorem PySem.Challenge.cw_surelet_k04_rests_built_and_refused_holds : PySem.Challenge.rw_surelet_k04_rests_built_and_refused.Holds := by
  w_on; o_law; k_head; (case hw => w_witness2)
  k_fill
  refine Law.walk rfl rfl (fun w h Y => PySem.W.km_in_of Y) ?F
  case F =>
    intro w mg fa h KX G hmg tab
    refine' Law.all_mk KX G hmg tab ?rc_window ?rc_days ?rc_under ?aC_SureletError ?aC_InvalidNumber ?aC_InvalidBorders ?aC_InvalidRest ?aC_TooMany ?aC_Rest ?aC_Window ?aC_Days ?aC_Later ?aC_Sooner ?aC_Next ?a_InvalidNumber_init ?i_InvalidNumber_init ?l_InvalidNumber_init ?c_InvalidNumber_init ?k_InvalidNumber_init ?cell_InvalidNumber_init ?code_InvalidNumber_init ?vs_InvalidNumber_init ?fl_InvalidNumber_init ?cd_InvalidNumber_init ?a_InvalidBorders_init ?i_InvalidBorders_init ?l_InvalidBorders_init ?c_InvalidBorders_init ?k_InvalidBorders_init ?cell_InvalidBorders_init ?code_InvalidBorders_init ?vs_InvalidBorders_init ?fl_InvalidBorders_init ?cd_InvalidBorders_init ?a_InvalidRest_init ?i_InvalidRest_init ?l_InvalidRest_init ?c_InvalidRest_init ?k_InvalidRest_init ?cell_InvalidRest_init ?code_InvalidRest_init ?vs_InvalidRest_init ?fl_InvalidRest_init ?cd_InvalidRest_init ?a_TooMany_init ?i_TooMany_init ?l_TooMany_init ?c_TooMany_init ?k_TooMany_init ?cell_TooMany_init ?code_TooMany_init ?vs_TooMany_init ?fl_TooMany_init ?cd_TooMany_init ?a_is_number ?l_is_number ?c_is_number ?k_is_number ?a_Rest_init ?i_Rest_init ?l_Rest_init ?c_Rest_init ?k_Rest_init ?a_Rest_forms ?i_Rest_forms ?l_Rest_forms ?c_Rest_forms ?k_Rest_forms ?a_Rest_period ?i_Rest_period ?l_Rest_period ?c_Rest_period ?k_Rest_period ?a_Rest_bend ?i_Rest_bend ?l_Rest_bend ?c_Rest_bend ?k_Rest_bend ?a_Rest_written ?i_Rest_written ?l_Rest_written ?c_Rest_written ?k_Rest_written ?a_Rest_str ?i_Rest_str ?l_Rest_str ?c_Rest_str ?k_Rest_str ?a_Rest_repr ?i_Rest_repr ?l_Rest_repr ?c_Rest_repr ?k_Rest_repr ?a_Rest_eq ?i_Rest_eq ?l_Rest_eq ?c_Rest_eq ?k_Rest_eq ?a_Window_init ?i_Window_init ?l_Window_init ?c_Window_init ?k_Window_init ?cell_Window_init ?code_Window_init ?vs_Window_init ?fl_Window_init ?cd_Window_init ?a_Days_init ?i_Days_init ?l_Days_init ?c_Days_init ?k_Days_init ?cell_Days_init ?code_Days_init ?vs_Days_init ?fl_Days_init ?cd_Days_init ?a_Days_borders ?i_Days_borders ?l_Days_borders ?c_Days_borders ?k_Days_borders ?a_joined ?l_joined ?c_joined ?k_joined ?a_Later_init ?i_Later_init ?l_Later_init ?c_Later_init ?k_Later_init ?cell_Later_init ?code_Later_init ?vs_Later_init ?fl_Later_init ?cd_Later_init ?a_Sooner_init ?i_Sooner_init ?l_Sooner_init ?c_Sooner_init ?k_Sooner_init ?cell_Sooner_init ?code_Sooner_init ?vs_Sooner_init ?fl_Sooner_init ?cd_Sooner_init ?a_Next_init ?i_Next_init ?l_Next_init ?c_Next_init ?k_Next_init ?cell_Next_init ?code_Next_init ?vs_Next_init ?fl_Next_init ?cd_Next_init ?a_bag ?l_bag ?c_bag ?k_bag ?a_draw ?l_draw ?c_draw ?k_draw ?a_of ?l_of ?c_of ?k_of ?a_like ?l_like ?c_like ?k_like ?a_odd ?l_odd ?c_odd ?k_odd ?a_llcm ?l_llcm ?c_llcm ?k_llcm ?a_text ?l_text ?c_text ?k_text ?a_facts ?l_facts ?c_facts ?k_facts ?a_ask ?l_ask ?c_ask ?k_ask ?a_in ?l_in ?c_in ?k_in ?a_number ?l_number ?c_number ?k_number ?a_borders ?l_borders ?c_borders ?k_borders ?a_days_due ?l_days_due ?c_days_due ?k_days_due ?a_window ?l_window ?c_window ?k_window ?td_window ?tp_window ?tn_window ?a_days ?l_days ?c_days ?k_days ?td_days ?tp_days ?tn_days ?a_pair ?l_pair ?c_pair ?k_pair ?a_pair_due ?l_pair_due ?c_pair_due ?k_pair_due ?a_class_so ?l_class_so ?c_class_so ?k_class_so ?a_under ?l_under ?c_under ?k_under ?td_under ?tp_under ?tn_under ?a_told_so ?l_told_so ?c_told_so ?k_told_so ?a_equal_so ?l_equal_so ?c_equal_so ?k_equal_so ?a_law ?l_law ?c_law ?k_law ?tne_window_days ?tne_window_under ?tne_days_under ?top_super ?st_thirdparty ?z_all ?z_bool ?z_dict ?z_enumerate ?z_int ?z_isinstance ?z_len ?z_list ?z_max ?z_range ?z_repr ?z_str ?z_super ?z_tuple ?z_zip ?ac_BORDERS ?ac_FORMS ?ac_PERIOD ?ab_lcm ?el_InvalidNumber ?es_InvalidNumber ?eb_InvalidNumber ?et_InvalidNumber ?ek_InvalidNumber ?em_InvalidNumber ?eu_InvalidNumber ?ev_InvalidNumber ?ega_InvalidNumber ?egg_InvalidNumber ?ehd_InvalidNumber ?eti_InvalidNumber ?xb_InvalidNumber_InvalidNumber ?xi_InvalidNumber_InvalidNumber ?xt_InvalidNumber_InvalidNumber ?xs_InvalidNumber_InvalidNumber ?no_InvalidNumber_value ?no_InvalidNumber_code ?el_InvalidBorders ?es_InvalidBorders ?eb_InvalidBorders ?et_InvalidBorders ?ek_InvalidBorders ?em_InvalidBorders ?eu_InvalidBorders ?ev_InvalidBorders ?ega_InvalidBorders ?egg_InvalidBorders ?ehd_InvalidBorders ?eti_InvalidBorders ?xb_InvalidBorders_InvalidNumber ?xi_InvalidBorders_InvalidNumber ?xt_InvalidBorders_InvalidNumber ?xs_InvalidBorders_InvalidNumber ?xb_InvalidBorders_InvalidBorders ?xi_InvalidBorders_InvalidBorders ?xt_InvalidBorders_InvalidBorders ?xs_InvalidBorders_InvalidBorders ?no_InvalidBorders_at ?no_InvalidBorders_code ?el_InvalidRest ?es_InvalidRest ?eb_InvalidRest ?et_InvalidRest ?ek_InvalidRest ?em_InvalidRest ?eu_InvalidRest ?ev_InvalidRest ?ega_InvalidRest ?egg_InvalidRest ?ehd_InvalidRest ?eti_InvalidRest ?xb_InvalidRest_InvalidNumber ?xi_InvalidRest_InvalidNumber ?xt_InvalidRest_InvalidNumber ?xs_InvalidRest_InvalidNumber ?xb_InvalidRest_InvalidBorders ?xi_InvalidRest_InvalidBorders ?xt_InvalidRest_InvalidBorders ?xs_InvalidRest_InvalidBorders ?xb_InvalidRest_InvalidRest ?xi_InvalidRest_InvalidRest ?xt_InvalidRest_InvalidRest ?xs_InvalidRest_InvalidRest ?no_InvalidRest_value ?no_InvalidRest_code ?el_TooMany ?es_TooMany ?eb_TooMany ?et_TooMany ?ek_TooMany ?em_TooMany ?eu_TooMany ?ev_TooMany ?ega_TooMany ?egg_TooMany ?ehd_TooMany ?eti_TooMany ?xb_TooMany_InvalidNumber ?xi_TooMany_InvalidNumber ?xt_TooMany_InvalidNumber ?xs_TooMany_InvalidNumber ?xb_TooMany_InvalidBorders ?xi_TooMany_InvalidBorders ?xt_TooMany_InvalidBorders ?xs_TooMany_InvalidBorders ?xb_TooMany_InvalidRest ?xi_TooMany_InvalidRest ?xt_TooMany_InvalidRest ?xs_TooMany_InvalidRest ?xb_TooMany_TooMany ?xi_TooMany_TooMany ?xt_TooMany_TooMany ?xs_TooMany_TooMany ?no_TooMany_what ?no_TooMany_count ?no_TooMany_code ?kb_int_Rest ?kb_bool_Rest ?kb_str_Rest ?kb_NoneType_Rest ?kb_list_Rest ?kb_tuple_Rest ?kb_dict_Rest ?pg_Window ?hd_Window ?po_Window ?sa_Window ?mk_Window ?kc_Window ?th_Window ?tn_Window ?tk_Window ?tm_Window ?kt_Window_Rest ?kt_Window_Window ?kt_Window_Days ?kt_Window_Later ?kt_Window_Sooner ?kt_Window_Next ?su_Window ?sm_Window ?sf_Window ?st_Window ?no_Window_text ?no_Window_forms ?no_Window_period ?no_Window_bend ?no_Window_width ?me_Window_forms ?mi_Window_forms ?me_Window_period ?mi_Window_period ?me_Window_bend ?mi_Window_bend ?me_Window_written ?mi_Window_written ?strf_Window ?stri_Window ?reprf_Window ?repri_Window ?eqf_Window ?eqi_Window ?nf_Window_str ?nf_Window_int ?nf_Window ?nf_Window_NoneType ?nf_Window_bool ?nf_Window_list ?nf_Window_tuple ?nef_Window ?nem_Window ?nf_Window_Days ?nf_Window_Later ?nf_Window_Sooner ?nf_Window_Next ?kb_int_Window ?kb_bool_Window ?kb_str_Window ?kb_NoneType_Window ?kb_list_Window ?kb_tuple_Window ?kb_dict_Window ?pg_Days ?hd_Days ?po_Days ?sa_Days ?mk_Days ?kc_Days ?th_Days ?tn_Days ?tk_Days ?tm_Days ?kt_Days_Rest ?kt_Days_Window ?kt_Days_Days ?kt_Days_Later ?kt_Days_Sooner ?kt_Days_Next ?su_Days ?sm_Days ?sf_Days ?st_Days ?no_Days_text ?no_Days_forms ?no_Days_period ?no_Days_bend ?no_Days_every ?no_Days_borders ?me_Days_forms ?mi_Days_forms ?me_Days_period ?mi_Days_period ?me_Days_bend ?mi_Days_bend ?me_Days_written ?mi_Days_written ?me_Days_borders ?mi_Days_borders ?strf_Days ?stri_Days ?reprf_Days ?repri_Days ?eqf_Days ?eqi_Days ?nf_Days_str ?nf_Days_int ?nf_Days ?nf_Days_NoneType ?nf_Days_bool ?nf_Days_list ?nf_Days_tuple ?nef_Days ?nem_Days ?nf_Days_Window ?nf_Days_Later ?nf_Days_Sooner ?nf_Days_Next ?kb_int_Days ?kb_bool_Days ?kb_str_Days ?kb_NoneType_Days ?kb_list_Days ?kb_tuple_Days ?kb_dict_Days ?pg_Later ?hd_Later ?po_Later ?sa_Later ?mk_Later ?kc_Later ?th_Later ?tn_Later ?tk_Later ?tm_Later ?kt_Later_Rest ?kt_Later_Window ?kt_Later_Days ?kt_Later_Later ?kt_Later_Sooner ?kt_Later_Next ?su_Later ?sm_Later ?sf_Later ?st_Later ?no_Later_text ?no_Later_forms ?no_Later_period ?no_Later_bend ?no_Later_first ?no_Later_second ?me_Later_forms ?mi_Later_forms ?me_Later_period ?mi_Later_period ?me_Later_bend ?mi_Later_bend ?me_Later_written ?mi_Later_written ?strf_Later ?stri_Later ?reprf_Later ?repri_Later ?eqf_Later ?eqi_Later ?nf_Later_str ?nf_Later_int ?nf_Later ?nf_Later_NoneType ?nf_Later_bool ?nf_Later_list ?nf_Later_tuple ?nef_Later ?nem_Later ?nf_Later_Window ?nf_Later_Days ?nf_Later_Sooner ?nf_Later_Next ?kb_int_Later ?kb_bool_Later ?kb_str_Later ?kb_NoneType_Later ?kb_list_Later ?kb_tuple_Later ?kb_dict_Later ?pg_Sooner ?hd_Sooner ?po_Sooner ?sa_Sooner ?mk_Sooner ?kc_Sooner ?th_Sooner ?tn_Sooner ?tk_Sooner ?tm_Sooner ?kt_Sooner_Rest ?kt_Sooner_Window ?kt_Sooner_Days ?kt_Sooner_Later ?kt_Sooner_Sooner ?kt_Sooner_Next ?su_Sooner ?sm_Sooner ?sf_Sooner ?st_Sooner ?no_Sooner_text ?no_Sooner_forms ?no_Sooner_period ?no_Sooner_bend ?no_Sooner_first ?no_Sooner_second ?me_Sooner_forms ?mi_Sooner_forms ?me_Sooner_period ?mi_Sooner_period ?me_Sooner_bend ?mi_Sooner_bend ?me_Sooner_written ?mi_Sooner_written ?strf_Sooner ?stri_Sooner ?reprf_Sooner ?repri_Sooner ?eqf_Sooner ?eqi_Sooner ?nf_Sooner_str ?nf_Sooner_int ?nf_Sooner ?nf_Sooner_NoneType ?nf_Sooner_bool ?nf_Sooner_list ?nf_Sooner_tuple ?nef_Sooner ?nem_Sooner ?nf_Sooner_Window ?nf_Sooner_Days ?nf_Sooner_Later ?nf_Sooner_Next ?kb_int_Sooner ?kb_bool_Sooner ?kb_str_Sooner ?kb_NoneType_Sooner ?kb_list_Sooner ?kb_tuple_Sooner ?kb_dict_Sooner ?pg_Next ?hd_Next ?po_Next ?sa_Next ?mk_Next ?kc_Next ?th_Next ?tn_Next ?tk_Next ?tm_Next ?kt_Next_Rest ?kt_Next_Window ?kt_Next_Days ?kt_Next_Later ?kt_Next_Sooner ?kt_Next_Next ?su_Next ?sm_Next ?sf_Next ?st_Next ?no_Next_text ?no_Next_forms ?no_Next_period ?no_Next_bend ?no_Next_first ?no_Next_second ?me_Next_forms ?mi_Next_forms ?me_Next_period ?mi_Next_period ?me_Next_bend ?mi_Next_bend ?me_Next_written ?mi_Next_written ?strf_Next ?stri_Next ?reprf_Next ?repri_Next ?eqf_Next ?eqi_Next ?nf_Next_str ?nf_Next_int ?nf_Next ?nf_Next_NoneType ?nf_Next_bool ?nf_Next_list ?nf_Next_tuple ?nef_Next ?nem_Next ?nf_Next_Window ?nf_Next_Days ?nf_Next_Later ?nf_Next_Sooner ?kb_int_Next ?kb_bool_Next ?kb_str_Next ?kb_NoneType_Next ?kb_list_Next ?kb_tuple_Next ?kb_dict_Next
    (case rc_window => first | decide +kernel | rfl)
    (case rc_days => first | decide +kernel | rfl)
    (case rc_under => first | decide +kernel | rfl)
    (case aC_SureletError => k_is)
    (case aC_InvalidNumber => k_is)
    (case aC_InvalidBorders => k_is)
    (case aC_InvalidRest => k_is)
    (case aC_TooMany => k_is)
    (case aC_Rest => k_is)
    (case aC_Window => k_is)
    (case aC_Days => k_is)
    (case aC_Later => k_is)
    (case aC_Sooner => k_is)
    (case aC_Next => k_is)
    (case a_InvalidNumber_init => k_is)
    (case i_InvalidNumber_init => k_is)
    (case l_InvalidNumber_init => k_is)
    (case c_InvalidNumber_init => k_is)
    (case k_InvalidNumber_init => k_is)
    (case cell_InvalidNumber_init => k_is)
    (case code_InvalidNumber_init => k_is)
    (case vs_InvalidNumber_init => exact rfl)
    (case fl_InvalidNumber_init => decide +kernel)
    (case cd_InvalidNumber_init => k_is)
    (case a_InvalidBorders_init => k_is)
    (case i_InvalidBorders_init => k_is)
    (case l_InvalidBorders_init => k_is)
    (case c_InvalidBorders_init => k_is)
    (case k_InvalidBorders_init => k_is)
    (case cell_InvalidBorders_init => k_is)
    (case code_InvalidBorders_init => k_is)
    (case vs_InvalidBorders_init => exact rfl)
    (case fl_InvalidBorders_init => decide +kernel)
    (case cd_InvalidBorders_init => k_is)
    (case a_InvalidRest_init => k_is)
    (case i_InvalidRest_init => k_is)
    (case l_InvalidRest_init => k_is)
    (case c_InvalidRest_init => k_is)
    (case k_InvalidRest_init => k_is)
    (case cell_InvalidRest_init => k_is)
    (case code_InvalidRest_init => k_is)
    (case vs_InvalidRest_init => exact rfl)
    (case fl_InvalidRest_init => decide +kernel)
    (case cd_InvalidRest_init => k_is)
    (case a_TooMany_init => k_is)
    (case i_TooMany_init => k_is)
    (case l_TooMany_init => k_is)
    (case c_TooMany_init => k_is)
    (case k_TooMany_init => k_is)
    (case cell_TooMany_init => k_is)
    (case code_TooMany_init => k_is)
    (case vs_TooMany_init => exact rfl)
    (case fl_TooMany_init => decide +kernel)
    (case cd_TooMany_init => k_is)
    (case a_is_number => k_is)
    (case l_is_number => k_is)
    (case c_is_number => k_is)
    (case k_is_number => k_is)
    (case a_Rest_init => k_is)
    (case i_Rest_init => k_is)
    (case l_Rest_init => k_is)
    (case c_Rest_init => k_is)
    (case k_Rest_init => k_is)
    (case a_Rest_forms => k_is)
    (case i_Rest_forms => k_is)
    (case l_Rest_forms => k_is)
    (case c_Rest_forms => k_is)
    (case k_Rest_forms => k_is)
    (case a_Rest_period => k_is)
    (case i_Rest_period => k_is)
    (case l_Rest_period => k_is)
    (case c_Rest_period => k_is)
    (case k_Rest_period => k_is)
    (case a_Rest_bend => k_is)
    (case i_Rest_bend => k_is)
    (case l_Rest_bend => k_is)
    (case c_Rest_bend => k_is)
    (case k_Rest_bend => k_is)
    (case a_Rest_written => k_is)
    (case i_Rest_written => k_is)
    (case l_Rest_written => k_is)
    (case c_Rest_written => k_is)
    (case k_Rest_written => k_is)
    (case a_Rest_str => k_is)
    (case i_Rest_str => k_is)
    (case l_Rest_str => k_is)
    (case c_Rest_str => k_is)
    (case k_Rest_str => k_is)
    (case a_Rest_repr => k_is)
    (case i_Rest_repr => k_is)
    (case l_Rest_repr => k_is)
    (case c_Rest_repr => k_is)
    (case k_Rest_repr => k_is)
    (case a_Rest_eq => k_is)
    (case i_Rest_eq => k_is)
    (case l_Rest_eq => k_is)
    (case c_Rest_eq => k_is)
    (case k_Rest_eq => k_is)
    (case a_Window_init => k_is)
    (case i_Window_init => k_is)
    (case l_Window_init => k_is)
    (case c_Window_init => k_is)
    (case k_Window_init => k_is)
    (case cell_Window_init => k_is)
    (case code_Window_init => k_is)
    (case vs_Window_init => exact rfl)
    (case fl_Window_init => decide +kernel)
    (case cd_Window_init => k_is)
    (case a_Days_init => k_is)
    (case i_Days_init => k_is)
    (case l_Days_init => k_is)
    (case c_Days_init => k_is)
    (case k_Days_init => k_is)
    (case cell_Days_init => k_is)
    (case code_Days_init => k_is)
    (case vs_Days_init => exact rfl)
    (case fl_Days_init => decide +kernel)
    (case cd_Days_init => k_is)
    (case a_Days_borders => k_is)
    (case i_Days_borders => k_is)
    (case l_Days_borders => k_is)
    (case c_Days_borders => k_is)
    (case k_Days_borders => k_is)
    (case a_joined => k_is)
    (case l_joined => k_is)
    (case c_joined => k_is)
    (case k_joined => k_is)
    (case a_Later_init => k_is)
    (case i_Later_init => k_is)
    (case l_Later_init => k_is)
    (case c_Later_init => k_is)
    (case k_Later_init => k_is)
    (case cell_Later_init => k_is)
    (case code_Later_init => k_is)
    (case vs_Later_init => exact rfl)
    (case fl_Later_init => decide +kernel)
    (case cd_Later_init => k_is)
    (case a_Sooner_init => k_is)
    (case i_Sooner_init => k_is)
    (case l_Sooner_init => k_is)
    (case c_Sooner_init => k_is)
    (case k_Sooner_init => k_is)
    (case cell_Sooner_init => k_is)
    (case code_Sooner_init => k_is)
    (case vs_Sooner_init => exact rfl)
    (case fl_Sooner_init => decide +kernel)
    (case cd_Sooner_init => k_is)
    (case a_Next_init => k_is)
    (case i_Next_init => k_is)
    (case l_Next_init => k_is)
    (case c_Next_init => k_is)
    (case k_Next_init => k_is)
    (case cell_Next_init => k_is)
    (case code_Next_init => k_is)
    (case vs_Next_init => exact rfl)
    (case fl_Next_init => decide +kernel)
    (case cd_Next_init => k_is)
    (case a_bag => k_is)
    (case l_bag => k_is)
    (case c_bag => k_is)
    (case k_bag => k_is)
    (case a_draw => k_is)
    (case l_draw => k_is)
    (case c_draw => k_is)
    (case k_draw => k_is)
    (case a_of => k_is)
    (case l_of => k_is)
    (case c_of => k_is)
    (case k_of => k_is)
    (case a_like => k_is)
    (case l_like => k_is)
    (case c_like => k_is)
    (case k_like => k_is)
    (case a_odd => k_is)
    (case l_odd => k_is)
    (case c_odd => k_is)
    (case k_odd => k_is)
    (case a_llcm => k_is)
    (case l_llcm => k_is)
    (case c_llcm => k_is)
    (case k_llcm => k_is)
    (case a_text => k_is)
    (case l_text => k_is)
    (case c_text => k_is)
    (case k_text => k_is)
    (case a_facts => k_is)
    (case l_facts => k_is)
    (case c_facts => k_is)
    (case k_facts => k_is)
    (case a_ask => k_is)
    (case l_ask => k_is)
    (case c_ask => k_is)
    (case k_ask => k_is)
    (case a_in => k_is)
    (case l_in => k_is)
    (case c_in => k_is)
    (case k_in => k_is)
    (case a_number => k_is)
    (case l_number => k_is)
    (case c_number => k_is)
    (case k_number => k_is)
    (case a_borders => k_is)
    (case l_borders => k_is)
    (case c_borders => k_is)
    (case k_borders => k_is)
    (case a_days_due => k_is)
    (case l_days_due => k_is)
    (case c_days_due => k_is)
    (case k_days_due => k_is)
    (case a_window => k_is)
    (case l_window => k_is)
    (case c_window => k_is)
    (case k_window => k_is)
    (case td_window => k_is)
    (case tp_window => exact rfl)
    (case tn_window => first | k_is | kernel_rfl | rfl)
    (case a_days => k_is)
    (case l_days => k_is)
    (case c_days => k_is)
    (case k_days => k_is)
    (case td_days => k_is)
    (case tp_days => exact rfl)
    (case tn_days => first | k_is | kernel_rfl | rfl)
    (case a_pair => k_is)
    (case l_pair => k_is)
    (case c_pair => k_is)
    (case k_pair => k_is)
    (case a_pair_due => k_is)
    (case l_pair_due => k_is)
    (case c_pair_due => k_is)
    (case k_pair_due => k_is)
    (case a_class_so => k_is)
    (case l_class_so => k_is)
    (case c_class_so => k_is)
    (case k_class_so => k_is)
    (case a_under => k_is)
    (case l_under => k_is)
    (case c_under => k_is)
    (case k_under => k_is)
    (case td_under => k_is)
    (case tp_under => exact rfl)
    (case tn_under => first | k_is | kernel_rfl | rfl)
    (case a_told_so => k_is)
    (case l_told_so => k_is)
    (case c_told_so => k_is)
    (case k_told_so => k_is)
    (case a_equal_so => k_is)
    (case l_equal_so => k_is)
    (case c_equal_so => k_is)
    (case k_equal_so => k_is)
    (case a_law => k_is)
    (case l_law => k_is)
    (case c_law => k_is)
    (case k_law => k_is)
    (case tne_window_days => decide)
    (case tne_window_under => decide)
    (case tne_days_under => decide)
    (case top_super => decide +kernel)
    (case st_thirdparty => k_is)
    (case z_all => k_is)
    (case z_bool => k_is)
    (case z_dict => k_is)
    (case z_enumerate => k_is)
    (case z_int => k_is)
    (case z_isinstance => k_is)
    (case z_len => k_is)
    (case z_list => k_is)
    (case z_max => k_is)
    (case z_range => k_is)
    (case z_repr => k_is)
    (case z_str => k_is)
    (case z_super => k_is)
    (case z_tuple => k_is)
    (case z_zip => k_is)
    (case ac_BORDERS => k_is)
    (case ac_FORMS => k_is)
    (case ac_PERIOD => k_is)
    (case ab_lcm => k_is)
    (case el_InvalidNumber => k_is)
    (case es_InvalidNumber => k_is)
    (case eb_InvalidNumber => k_is)
    (case et_InvalidNumber => k_is)
    (case ek_InvalidNumber => k_is)
    (case em_InvalidNumber => k_is)
    (case eu_InvalidNumber => first | ks_is | k_is)
    (case ev_InvalidNumber => k_is)
    (case ega_InvalidNumber => k_is)
    (case egg_InvalidNumber => k_is)
    (case ehd_InvalidNumber => k_is)
    (case eti_InvalidNumber => k_is)
    (case xb_InvalidNumber_InvalidNumber => k_is)
    (case xi_InvalidNumber_InvalidNumber => k_is)
    (case xt_InvalidNumber_InvalidNumber => k_is)
    (case xs_InvalidNumber_InvalidNumber => first | rfl | k_is)
    (case no_InvalidNumber_value => k_is)
    (case no_InvalidNumber_code => k_is)
    (case el_InvalidBorders => k_is)
    (case es_InvalidBorders => k_is)
    (case eb_InvalidBorders => k_is)
    (case et_InvalidBorders => k_is)
    (case ek_InvalidBorders => k_is)
    (case em_InvalidBorders => k_is)
    (case eu_InvalidBorders => first | ks_is | k_is)
    (case ev_InvalidBorders => k_is)
    (case ega_InvalidBorders => k_is)
    (case egg_InvalidBorders => k_is)
    (case ehd_InvalidBorders => k_is)
    (case eti_InvalidBorders => k_is)
    (case xb_InvalidBorders_InvalidNumber => k_is)
    (case xi_InvalidBorders_InvalidNumber => k_is)
    (case xt_InvalidBorders_InvalidNumber => k_is)
    (case xs_InvalidBorders_InvalidNumber => first | rfl | k_is)
    (case xb_InvalidBorders_InvalidBorders => k_is)
    (case xi_InvalidBorders_InvalidBorders => k_is)
    (case xt_InvalidBorders_InvalidBorders => k_is)
    (case xs_InvalidBorders_InvalidBorders => first | rfl | k_is)
    (case no_InvalidBorders_at => k_is)
    (case no_InvalidBorders_code => k_is)
    (case el_InvalidRest => k_is)
    (case es_InvalidRest => k_is)
    (case eb_InvalidRest => k_is)
    (case et_InvalidRest => k_is)
    (case ek_InvalidRest => k_is)
    (case em_InvalidRest => k_is)
    (case eu_InvalidRest => first | ks_is | k_is)
    (case ev_InvalidRest => k_is)
    (case ega_InvalidRest => k_is)
    (case egg_InvalidRest => k_is)
    (case ehd_InvalidRest => k_is)
    (case eti_InvalidRest => k_is)
    (case xb_InvalidRest_InvalidNumber => k_is)
    (case xi_InvalidRest_InvalidNumber => k_is)
    (case xt_InvalidRest_InvalidNumber => k_is)
    (case xs_InvalidRest_InvalidNumber => first | rfl | k_is)
    (case xb_InvalidRest_InvalidBorders => k_is)
    (case xi_InvalidRest_InvalidBorders => k_is)
    (case xt_InvalidRest_InvalidBorders => k_is)
    (case xs_InvalidRest_InvalidBorders => first | rfl | k_is)
    (case xb_InvalidRest_InvalidRest => k_is)
    (case xi_InvalidRest_InvalidRest => k_is)
    (case xt_InvalidRest_InvalidRest => k_is)
    (case xs_InvalidRest_InvalidRest => first | rfl | k_is)
    (case no_InvalidRest_value => k_is)
    (case no_InvalidRest_code => k_is)
    (case el_TooMany => k_is)
    (case es_TooMany => k_is)
    (case eb_TooMany => k_is)
    (case et_TooMany => k_is)
    (case ek_TooMany => k_is)
    (case em_TooMany => k_is)
    (case eu_TooMany => first | ks_is | k_is)
    (case ev_TooMany => k_is)
    (case ega_TooMany => k_is)
    (case egg_TooMany => k_is)
    (case ehd_TooMany => k_is)
    (case eti_TooMany => k_is)
    (case xb_TooMany_InvalidNumber => k_is)
    (case xi_TooMany_InvalidNumber => k_is)
    (case xt_TooMany_InvalidNumber => k_is)
    (case xs_TooMany_InvalidNumber => first | rfl | k_is)
    (case xb_TooMany_InvalidBorders => k_is)
    (case xi_TooMany_InvalidBorders => k_is)
    (case xt_TooMany_InvalidBorders => k_is)
    (case xs_TooMany_InvalidBorders => first | rfl | k_is)
    (case xb_TooMany_InvalidRest => k_is)
    (case xi_TooMany_InvalidRest => k_is)
    (case xt_TooMany_InvalidRest => k_is)
    (case xs_TooMany_InvalidRest => first | rfl | k_is)
    (case xb_TooMany_TooMany => k_is)
    (case xi_TooMany_TooMany => k_is)
    (case xt_TooMany_TooMany => k_is)
    (case xs_TooMany_TooMany => first | rfl | k_is)
    (case no_TooMany_what => k_is)
    (case no_TooMany_count => k_is)
    (case no_TooMany_code => k_is)
    (case kb_int_Rest => first | k_is | kernel_rfl)
    (case kb_bool_Rest => first | k_is | kernel_rfl)
    (case kb_str_Rest => first | k_is | kernel_rfl)
    (case kb_NoneType_Rest => first | k_is | kernel_rfl)
    (case kb_list_Rest => first | k_is | kernel_rfl)
    (case kb_tuple_Rest => first | k_is | kernel_rfl)
    (case kb_dict_Rest => first | k_is | kernel_rfl)
    (case pg_Window => k_is)
    (case hd_Window => k_is)
    (case po_Window => k_is)
    (case sa_Window => k_is)
    (case mk_Window => k_is)
    (case kc_Window => k_is)
    (case th_Window => k_is)
    (case tn_Window => k_is)
    (case tk_Window => k_is)
    (case tm_Window => k_is)
    (case kt_Window_Rest => first | k_is | kernel_rfl)
    (case kt_Window_Window => first | k_is | kernel_rfl)
    (case kt_Window_Days => first | k_is | kernel_rfl)
    (case kt_Window_Later => first | k_is | kernel_rfl)
    (case kt_Window_Sooner => first | k_is | kernel_rfl)
    (case kt_Window_Next => first | k_is | kernel_rfl)
    (case su_Window => k_is)
    (case sm_Window => first | ks_is | k_is)
    (case sf_Window => k_is)
    (case st_Window => k_is)
    (case no_Window_text => k_is)
    (case no_Window_forms => k_is)
    (case no_Window_period => k_is)
    (case no_Window_bend => k_is)
    (case no_Window_width => k_is)
    (case me_Window_forms => k_is)
    (case mi_Window_forms => k_is)
    (case me_Window_period => k_is)
    (case mi_Window_period => k_is)
    (case me_Window_bend => k_is)
    (case mi_Window_bend => k_is)
    (case me_Window_written => k_is)
    (case mi_Window_written => k_is)
    (case strf_Window => k_is)
    (case stri_Window => k_is)
    (case reprf_Window => k_is)
    (case repri_Window => k_is)
    (case eqf_Window => k_is)
    (case eqi_Window => k_is)
    (case nf_Window_str => first | k_is | kernel_rfl)
    (case nf_Window_int => first | k_is | kernel_rfl)
    (case nf_Window => first | k_is | kernel_rfl)
    (case nf_Window_NoneType => first | k_is | kernel_rfl)
    (case nf_Window_bool => first | k_is | kernel_rfl)
    (case nf_Window_list => first | k_is | kernel_rfl)
    (case nf_Window_tuple => first | k_is | kernel_rfl)
    (case nef_Window => k_is)
    (case nem_Window => k_is)
    (case nf_Window_Days => first | k_is | kernel_rfl)
    (case nf_Window_Later => first | k_is | kernel_rfl)
    (case nf_Window_Sooner => first | k_is | kernel_rfl)
    (case nf_Window_Next => first | k_is | kernel_rfl)
    (case kb_int_Window => first | k_is | kernel_rfl)
    (case kb_bool_Window => first | k_is | kernel_rfl)
    (case kb_str_Window => first | k_is | kernel_rfl)
    (case kb_NoneType_Window => first | k_is | kernel_rfl)
    (case kb_list_Window => first | k_is | kernel_rfl)
    (case kb_tuple_Window => first | k_is | kernel_rfl)
    (case kb_dict_Window => first | k_is | kernel_rfl)
    (case pg_Days => k_is)
    (case hd_Days => k_is)
    (case po_Days => k_is)
    (case sa_Days => k_is)
    (case mk_Days => k_is)
    (case kc_Days => k_is)
    (case th_Days => k_is)
    (case tn_Days => k_is)
    (case tk_Days => k_is)
    (case tm_Days => k_is)
    (case kt_Days_Rest => first | k_is | kernel_rfl)
    (case kt_Days_Window => first | k_is | kernel_rfl)
    (case kt_Days_Days => first | k_is | kernel_rfl)
    (case kt_Days_Later => first | k_is | kernel_rfl)
    (case kt_Days_Sooner => first | k_is | kernel_rfl)
    (case kt_Days_Next => first | k_is | kernel_rfl)
    (case su_Days => k_is)
    (case sm_Days => first | ks_is | k_is)
    (case sf_Days => k_is)
    (case st_Days => k_is)
    (case no_Days_text => k_is)
    (case no_Days_forms => k_is)
    (case no_Days_period => k_is)
    (case no_Days_bend => k_is)
    (case no_Days_every => k_is)
    (case no_Days_borders => k_is)
    (case me_Days_forms => k_is)
    (case mi_Days_forms => k_is)
    (case me_Days_period => k_is)
    (case mi_Days_period => k_is)
    (case me_Days_bend => k_is)
    (case mi_Days_bend => k_is)
    (case me_Days_written => k_is)
    (case mi_Days_written => k_is)
    (case me_Days_borders => k_is)
    (case mi_Days_borders => k_is)
    (case strf_Days => k_is)
    (case stri_Days => k_is)
    (case reprf_Days => k_is)
    (case repri_Days => k_is)
    (case eqf_Days => k_is)
    (case eqi_Days => k_is)
    (case nf_Days_str => first | k_is | kernel_rfl)
    (case nf_Days_int => first | k_is | kernel_rfl)
    (case nf_Days => first | k_is | kernel_rfl)
    (case nf_Days_NoneType => first | k_is | kernel_rfl)
    (case nf_Days_bool => first | k_is | kernel_rfl)
    (case nf_Days_list => first | k_is | kernel_rfl)
    (case nf_Days_tuple => first | k_is | kernel_rfl)
    (case nef_Days => k_is)
    (case nem_Days => k_is)
    (case nf_Days_Window => first | k_is | kernel_rfl)
    (case nf_Days_Later => first | k_is | kernel_rfl)
    (case nf_Days_Sooner => first | k_is | kernel_rfl)
    (case nf_Days_Next => first | k_is | kernel_rfl)
    (case kb_int_Days => first | k_is | kernel_rfl)
    (case kb_bool_Days => first | k_is | kernel_rfl)
    (case kb_str_Days => first | k_is | kernel_rfl)
    (case kb_NoneType_Days => first | k_is | kernel_rfl)
    (case kb_list_Days => first | k_is | kernel_rfl)
    (case kb_tuple_Days => first | k_is | kernel_rfl)
    (case kb_dict_Days => first | k_is | kernel_rfl)
    (case pg_Later => k_is)
    (case hd_Later => k_is)
    (case po_Later => k_is)
    (case sa_Later => k_is)
    (case mk_Later => k_is)
    (case kc_Later => k_is)
    (case th_Later => k_is)
    (case tn_Later => k_is)
    (case tk_Later => k_is)
    (case tm_Later => k_is)
    (case kt_Later_Rest => first | k_is | kernel_rfl)
    (case kt_Later_Window => first | k_is | kernel_rfl)
    (case kt_Later_Days => first | k_is | kernel_rfl)
    (case kt_Later_Later => first | k_is | kernel_rfl)
    (case kt_Later_Sooner => first | k_is | kernel_rfl)
    (case kt_Later_Next => first | k_is | kernel_rfl)
    (case su_Later => k_is)
    (case sm_Later => first | ks_is | k_is)
    (case sf_Later => k_is)
    (case st_Later => k_is)
    (case no_Later_text => k_is)
    (case no_Later_forms => k_is)
    (case no_Later_period => k_is)
    (case no_Later_bend => k_is)
    (case no_Later_first => k_is)
    (case no_Later_second => k_is)
    (case me_Later_forms => k_is)
    (case mi_Later_forms => k_is)
    (case me_Later_period => k_is)
    (case mi_Later_period => k_is)
    (case me_Later_bend => k_is)
    (case mi_Later_bend => k_is)
    (case me_Later_written => k_is)
    (case mi_Later_written => k_is)
    (case strf_Later => k_is)
    (case stri_Later => k_is)
    (case reprf_Later => k_is)
    (case repri_Later => k_is)
    (case eqf_Later => k_is)
    (case eqi_Later => k_is)
    (case nf_Later_str => first | k_is | kernel_rfl)
    (case nf_Later_int => first | k_is | kernel_rfl)
    (case nf_Later => first | k_is | kernel_rfl)
    (case nf_Later_NoneType => first | k_is | kernel_rfl)
    (case nf_Later_bool => first | k_is | kernel_rfl)
    (case nf_Later_list => first | k_is | kernel_rfl)
    (case nf_Later_tuple => first | k_is | kernel_rfl)
    (case nef_Later => k_is)
    (case nem_Later => k_is)
    (case nf_Later_Window => first | k_is | kernel_rfl)
    (case nf_Later_Days => first | k_is | kernel_rfl)
    (case nf_Later_Sooner => first | k_is | kernel_rfl)
    (case nf_Later_Next => first | k_is | kernel_rfl)
    (case kb_int_Later => first | k_is | kernel_rfl)
    (case kb_bool_Later => first | k_is | kernel_rfl)
    (case kb_str_Later => first | k_is | kernel_rfl)
    (case kb_NoneType_Later => first | k_is | kernel_rfl)
    (case kb_list_Later => first | k_is | kernel_rfl)
    (case kb_tuple_Later => first | k_is | kernel_rfl)
    (case kb_dict_Later => first | k_is | kernel_rfl)
    (case pg_Sooner => k_is)
    (case hd_Sooner => k_is)
    (case po_Sooner => k_is)
    (case sa_Sooner => k_is)
    (case mk_Sooner => k_is)
    (case kc_Sooner => k_is)
    (case th_Sooner => k_is)
    (case tn_Sooner => k_is)
    (case tk_Sooner => k_is)
    (case tm_Sooner => k_is)
    (case kt_Sooner_Rest => first | k_is | kernel_rfl)
    (case kt_Sooner_Window => first | k_is | kernel_rfl)
    (case kt_Sooner_Days => first | k_is | kernel_rfl)
    (case kt_Sooner_Later => first | k_is | kernel_rfl)
    (case kt_Sooner_Sooner => first | k_is | kernel_rfl)
    (case kt_Sooner_Next => first | k_is | kernel_rfl)
    (case su_Sooner => k_is)
    (case sm_Sooner => first | ks_is | k_is)
    (case sf_Sooner => k_is)
    (case st_Sooner => k_is)
    (case no_Sooner_text => k_is)
    (case no_Sooner_forms => k_is)
    (case no_Sooner_period => k_is)
    (case no_Sooner_bend => k_is)
    (case no_Sooner_first => k_is)
    (case no_Sooner_second => k_is)
    (case me_Sooner_forms => k_is)
    (case mi_Sooner_forms => k_is)
    (case me_Sooner_period => k_is)
    (case mi_Sooner_period => k_is)
    (case me_Sooner_bend => k_is)
    (case mi_Sooner_bend => k_is)
    (case me_Sooner_written => k_is)
    (case mi_Sooner_written => k_is)
    (case strf_Sooner => k_is)
    (case stri_Sooner => k_is)
    (case reprf_Sooner => k_is)
    (case repri_Sooner => k_is)
    (case eqf_Sooner => k_is)
    (case eqi_Sooner => k_is)
    (case nf_Sooner_str => first | k_is | kernel_rfl)
    (case nf_Sooner_int => first | k_is | kernel_rfl)
    (case nf_Sooner => first | k_is | kernel_rfl)
    (case nf_Sooner_NoneType => first | k_is | kernel_rfl)
    (case nf_Sooner_bool => first | k_is | kernel_rfl)
    (case nf_Sooner_list => first | k_is | kernel_rfl)
    (case nf_Sooner_tuple => first | k_is | kernel_rfl)
    (case nef_Sooner => k_is)
    (case nem_Sooner => k_is)
    (case nf_Sooner_Window => first | k_is | kernel_rfl)
    (case nf_Sooner_Days => first | k_is | kernel_rfl)
    (case nf_Sooner_Later => first | k_is | kernel_rfl)
    (case nf_Sooner_Next => first | k_is | kernel_rfl)
    (case kb_int_Sooner => first | k_is | kernel_rfl)
    (case kb_bool_Sooner => first | k_is | kernel_rfl)
    (case kb_str_Sooner => first | k_is | kernel_rfl)
    (case kb_NoneType_Sooner => first | k_is | kernel_rfl)
    (case kb_list_Sooner => first | k_is | kernel_rfl)
    (case kb_tuple_Sooner => first | k_is | kernel_rfl)
    (case kb_dict_Sooner => first | k_is | kernel_rfl)
    (case pg_Next => k_is)
    (case hd_Next => k_is)
    (case po_Next => k_is)
    (case sa_Next => k_is)
    (case mk_Next => k_is)
    (case kc_Next => k_is)
    (case th_Next => k_is)
    (case tn_Next => k_is)
    (case tk_Next => k_is)
    (case tm_Next => k_is)
    (case kt_Next_Rest => first | k_is | kernel_rfl)
    (case kt_Next_Window => first | k_is | kernel_rfl)
    (case kt_Next_Days => first | k_is | kernel_rfl)
    (case kt_Next_Later => first | k_is | kernel_rfl)
    (case kt_Next_Sooner => first | k_is | kernel_rfl)
    (case kt_Next_Next => first | k_is | kernel_rfl)
    (case su_Next => k_is)
    (case sm_Next => first | ks_is | k_is)
    (case sf_Next => k_is)
    (case st_Next => k_is)
    (case no_Next_text => k_is)
    (case no_Next_forms => k_is)
    (case no_Next_period => k_is)
    (case no_Next_bend => k_is)
    (case no_Next_first => k_is)
    (case no_Next_second => k_is)
    (case me_Next_forms => k_is)
    (case mi_Next_forms => k_is)
    (case me_Next_period => k_is)
    (case mi_Next_period => k_is)
    (case me_Next_bend => k_is)
    (case mi_Next_bend => k_is)
    (case me_Next_written => k_is)
    (case mi_Next_written => k_is)
    (case strf_Next => k_is)
    (case stri_Next => k_is)
    (case reprf_Next => k_is)
    (case repri_Next => k_is)
    (case eqf_Next => k_is)
    (case eqi_Next => k_is)
    (case nf_Next_str => first | k_is | kernel_rfl)
    (case nf_Next_int => first | k_is | kernel_rfl)
    (case nf_Next => first | k_is | kernel_rfl)
    (case nf_Next_NoneType => first | k_is | kernel_rfl)
    (case nf_Next_bool => first | k_is | kernel_rfl)
    (case nf_Next_list => first | k_is | kernel_rfl)
    (case nf_Next_tuple => first | k_is | kernel_rfl)
    (case nef_Next => k_is)
    (case nem_Next => k_is)
    (case nf_Next_Window => first | k_is | kernel_rfl)
    (case nf_Next_Days => first | k_is | kernel_rfl)
    (case nf_Next_Later => first | k_is | kernel_rfl)
    (case nf_Next_Sooner => first | k_is | kernel_rfl)
    (case kb_int_Next => first | k_is | kernel_rfl)
    (case kb_bool_Next => first | k_is | kernel_rfl)
    (case kb_str_Next => first | k_is | kernel_rfl)
    (case kb_NoneType_Next => first | k_is | kernel_rfl)
    (case kb_list_Next => first | k_is | kernel_rfl)
    (case kb_tuple_Next => first | k_is | kernel_rfl)
    (case kb_dict_Next => first | k_is | kernel_rfl)

