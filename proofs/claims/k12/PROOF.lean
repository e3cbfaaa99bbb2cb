import PyProof.Rows.All
import Wide.All
import OpenK.AllK
import Wide.FinOn
import HandS.ForMost
import HandS.IsInst
import HandS.FStr
import HandS.Gcd
import HandS.Style
import HandS.Nested
import HandS.Walk
import KE.KSuper
import HandS.Star
import HandS.ExcInit
import HandS.TryMany
import HandS.ExcField
import HandS.ExcOwn
import HandS.WordsExc
import KE.KExcSuper
import HandS.Lambda
import KE.KCallOwn
import HandS.DeepEq
import HandS.Zip
import HandS.More
import HandS.Small
import HandS.Text
import HandS.Flow
import HandS.RaiseMore
import PyProof.EnumMake
import PyProof.Draws
import KE.GoesMore
import KE.KTupSum
import HandS.TupAny
import HandS.MakeKwOnly
import HandS.MakeKw
import HandS.DictComp
import HandS.EndTab
import PySem.Challenge.RW_surelet_k12_whole_trees_refused
set_option Elab.async false
set_option linter.all false
set_option maxRecDepth 100000
set_option maxHeartbeats 4000000
/-! Kit: my own layer over the hand layer: names by one check each, operations by values, the steps of a reading, the bag of a law. -/
namespace Kit
open PySem PySem.Spec PyProof.Rows L2

/-! ### names -/
def visB (sc : Scope) (x : Str) : Bool :=
  (match sc.names.lookup x with | some .local => true | some .cell => true | some .free => true | _ => false) && (!(x == ("__debug__" : Str)) && !(x == ("__classdict__" : Str)))
theorem visB_ok {sc : Scope} {x : Str} (h : visB sc x = true) : Vis sc x ∧ (x == ("__debug__" : Str)) = false ∧ (x == ("__classdict__" : Str)) = false := by
  unfold visB at h
  simp only [Bool.and_eq_true, Bool.not_eq_true'] at h
  obtain ⟨h1, h2, h3⟩ := h
  refine ⟨?_, h2, h3⟩
  unfold Vis
  split at h1
  · exact .inl (by assumption)
  · exact .inr (.inl (by assumption))
  · exact .inr (.inr (by assumption))
  · cases h1
def locB (sc : Scope) (x : Str) : Bool := match sc.names.lookup x with | some .local => true | _ => false
def celB (sc : Scope) (x : Str) : Bool := match sc.names.lookup x with | some .cell => true | _ => false
theorem locB_ok {sc : Scope} {x : Str} (h : locB sc x = true) : sc.names.lookup x = some .local := by
  unfold locB at h
  split at h
  · assumption
  · cases h
theorem celB_ok {sc : Scope} {x : Str} (h : celB sc x = true) : sc.names.lookup x = some .cell := by
  unfold celB at h
  split at h
  · assumption
  · cases h
section
variable {X : Cx}
theorem kv {i : Nat} {x : Str} {pos : Pos} (h : visB X.env.scope x = true) (hN : X.N[i]? = some x := by rfl) : PE X (.Name x pos) (tVar i) :=
  let ⟨a, b, c⟩ := visB_ok h
  pe_var hN a b c
theorem kgL {i : Nat} {x : Str} {pos : Pos} (hN : X.N.Nodup) (h : locB X.env.scope x = true) (hi : X.N[i]? = some x := by rfl) : PG X (.Name x pos) (gName i) :=
  pg_name hN hi (.inl (locB_ok h)) (.inr (locB_ok h))
theorem kgC {i : Nat} {x : Str} {pos : Pos} (hN : X.N.Nodup) (h : celB X.env.scope x = true) (hi : X.N[i]? = some x := by rfl) (hf : X.fn x = true := by rfl) : PG X (.Name x pos) (gName i) :=
  pg_name hN hi (.inr (celB_ok h)) (.inl hf)
theorem ks_setL {i : Nat} {x : Str} {e : Expr} {te : TE} {p' pos : Pos} (hN : X.N.Nodup) (h : locB X.env.scope x = true) (he : PE X e te) (hi : X.N[i]? = some x := by rfl) (hs : swapsWith e (some (.Name x p')) pos.line X.env = pure false := by rfl) :
    PS X (.Assign [.Name x p'] e pos) (tAsg te (gName i)) := ps_set hN hi (.inl (locB_ok h)) he hs (.inr (locB_ok h))
theorem ks_setC {i : Nat} {x : Str} {e : Expr} {te : TE} {p' pos : Pos} (hN : X.N.Nodup) (h : celB X.env.scope x = true) (he : PE X e te) (hi : X.N[i]? = some x := by rfl) (hs : swapsWith e (some (.Name x p')) pos.line X.env = pure false := by rfl) (hf : X.fn x = true := by rfl) :
    PS X (.Assign [.Name x p'] e pos) (tAsg te (gName i)) := ps_set hN hi (.inr (celB_ok h)) he hs (.inl hf)

/-! ### built-in names -/
section
variable {e : Expr} {es : List Expr} {t : TA} {p pos : Pos}
theorem kty_int (hg : Gl X "int") (hm : X.mg "int" = none) : PE X (.Name "int" pos) (tC (.ty "int")) := pe_bltn hg hm (u := .type "int") (by decide +kernel) rfl
theorem kty_bool (hg : Gl X "bool") (hm : X.mg "bool" = none) : PE X (.Name "bool" pos) (tC (.ty "bool")) := pe_bltn hg hm (u := .type "bool") (by decide +kernel) rfl
theorem kty_str (hg : Gl X "str") (hm : X.mg "str" = none) : PE X (.Name "str" pos) (tC (.ty "str")) := pe_bltn hg hm (u := .type "str") (by decide +kernel) rfl
theorem kty_list (hg : Gl X "list") (hm : X.mg "list" = none) : PE X (.Name "list" pos) (tC (.ty "list")) := pe_bltn hg hm (u := .type "list") (by decide +kernel) rfl
theorem kty_tuple (hg : Gl X "tuple") (hm : X.mg "tuple" = none) : PE X (.Name "tuple" pos) (tC (.ty "tuple")) := pe_bltn hg hm (u := .type "tuple") (by decide +kernel) rfl
theorem kty_dict (hg : Gl X "dict") (hm : X.mg "dict" = none) : PE X (.Name "dict" pos) (tC (.ty "dict")) := pe_bltn hg hm (u := .type "dict") (by decide +kernel) rfl
theorem kcls {x : Str} {C : Addr} (hg : Gl X x) (hm : X.mg x = some (.ref C)) (hd : (x == ("__debug__" : Str)) = false := by decide) : PE X (.Name x pos) (tC (.ref C)) := pe_glob (v := .ref C) hg hm rfl hd
theorem kcB {x : Str} {id : String} {r : List V → Hp → VK → Prop} (hv : bootBuiltins x = some (.builtin id)) (hn : x ≠ "__name__") (hdb : (x == ("__debug__" : Str)) = false) (hc : CallR X (.builtin id) r) (hg : Gl X x) (hm : X.mg x = none) (ha : PA X (e :: es) t)
    (he : starEach (e :: es) X.env = (false, eval e X.env) :: starEach es X.env := by rfl) (hpl : (backTo pos (starEach es X.env)).any (·.1) = false := by rfl) : PE X (.Call (.Name x p) (e :: es) [] pos) (tCB r t) := pe_callB hc hg hm hv ha hn hdb he hpl
theorem kcT {x : Str} {T : String} {r : List V → Hp → VK → Prop} (hv : bootBuiltins x = some (.type T)) (hn : x ≠ "__name__") (hdb : (x == ("__debug__" : Str)) = false) (hc : CallR X (.type T) r) (hg : Gl X x) (hm : X.mg x = none) (ha : PA X (e :: es) t)
    (he : starEach (e :: es) X.env = (false, eval e X.env) :: starEach es X.env := by rfl) (hpl : (backTo pos (starEach es X.env)).any (·.1) = false := by rfl) : PE X (.Call (.Name x p) (e :: es) [] pos) (tCB r t) := pe_callTy hc hg hm hv ha hn hdb he hpl
theorem b_len : bootBuiltins "len" = some (.builtin "len") := by decide +kernel
theorem b_isinstance : bootBuiltins "isinstance" = some (.builtin "isinstance") := by decide +kernel
theorem b_max : bootBuiltins "max" = some (.builtin "max") := by decide +kernel
theorem b_min : bootBuiltins "min" = some (.builtin "min") := by decide +kernel
theorem b_abs : bootBuiltins "abs" = some (.builtin "abs") := by decide +kernel
theorem b_all : bootBuiltins "all" = some (.builtin "all") := by decide +kernel
theorem b_any : bootBuiltins "any" = some (.builtin "any") := by decide +kernel
theorem b_sum : bootBuiltins "sum" = some (.builtin "sum") := by decide +kernel
theorem b_ord : bootBuiltins "ord" = some (.builtin "ord") := by decide +kernel
theorem b_sorted : bootBuiltins "sorted" = some (.builtin "sorted") := by decide +kernel
theorem b_int : bootBuiltins "int" = some (.type "int") := by decide +kernel
theorem b_str : bootBuiltins "str" = some (.type "str") := by decide +kernel
theorem b_bool : bootBuiltins "bool" = some (.type "bool") := by decide +kernel
theorem b_list : bootBuiltins "list" = some (.type "list") := by decide +kernel
theorem b_tuple : bootBuiltins "tuple" = some (.type "tuple") := by decide +kernel
theorem b_dict : bootBuiltins "dict" = some (.type "dict") := by decide +kernel
end

/-! ### operations by values -/
def rAddU : R2 := fun x y H Q => match x, y with
  | .int i, .int j => Q (.int (i + j)) H
  | .str a, .str b => a.length + b.length ≤ sizeLine ∧ Q (.str (a ++ b)) H
  | .ref a, .ref b => ∃ xs ys, H a = some (.lst xs) ∧ H b = some (.lst ys) ∧ xs.length + ys.length ≤ sizeLine ∧ ∀ p, H p = none → Q (.ref p) (upd H p (.lst (xs ++ ys)))
  | _, _ => False
theorem kop_add : OpR X (binaryOp .Add) rAddU := by
  intro pins s σ H x y v u Q I rx ry h
  cases x <;> cases y <;> first
    | exact h.elim
    | exact op_add pins s σ H _ _ v u Q I rx ry ⟨_, _, rfl, rfl, h⟩
    | exact op_add_str pins s σ H _ _ v u Q I rx ry ⟨_, _, rfl, rfl, h.1, h.2⟩
    | (obtain ⟨xs, ys, h1, h2, h3, h4⟩ := h; exact op_cat pins s σ H _ _ v u Q I rx ry ⟨_, _, xs, ys, rfl, rfl, h1, h2, h3, h4⟩)
/-- math.lcm of two numbers from 0 on, below 2 ^ 32 -/
def rLcm : List V → Hp → VK → Prop := fun vs H Q => ∃ a b : Int, vs = [.int a, .int b] ∧ 0 ≤ a ∧ a < 2 ^ 32 ∧ 0 ≤ b ∧ b < 2 ^ 32 ∧ Q (.int ((Nat.lcm a.natAbs b.natAbs : Nat) : Int)) H
theorem kcr_lcm : CallR X (.builtin "math.lcm") rLcm := by
  intro pins s σ H vs us Q I r h
  obtain ⟨a, b, rfl, ha, ha2, hb, hb2, q⟩ := h
  obtain ⟨t, u, rfl⟩ := Vals.int2 r
  have e : (Nat.lcm 1 a.natAbs).lcm b.natAbs = Nat.lcm a.natAbs b.natAbs := by rw [Nat.lcm_one_left]
  have hle : Nat.lcm a.natAbs b.natAbs < 2 ^ 64 := by
    by_cases h0 : a.natAbs = 0
    · rw [h0, Nat.lcm_zero_left]; decide
    · by_cases h1 : b.natAbs = 0
      · rw [h1, Nat.lcm_zero_right]; decide
      · have q1 : Nat.lcm a.natAbs b.natAbs ≤ a.natAbs * b.natAbs := Nat.le_of_dvd (Nat.mul_pos (by omega) (by omega)) (Nat.lcm_dvd (Nat.dvd_mul_right _ _) (Nat.dvd_mul_left _ _))
        have q2 : a.natAbs * b.natAbs < 2 ^ 32 * 2 ^ 32 := Nat.mul_lt_mul'' (by omega) (by omega)
        omega
  refine PySem.W.mg_lcm (by omega) (by omega) ?_ ?_
  · rw [e, Int.natAbs_natCast]
    by_cases h0 : Nat.lcm a.natAbs b.natAbs = 0
    · rw [h0]; decide
    · have : (Nat.lcm a.natAbs b.natAbs).log2 < 64 := (Nat.log2_lt h0).mpr hle
      exact Nat.lt_of_lt_of_le this (by decide)
  · rw [e]
    exact ⟨.int _, H, I.tok _, ⟨_, rfl⟩, q⟩
end


/-! ### rules with the written part told -/
section
variable {X : Cx}
/-- a statement whose ways meet in W -/
def tMeet (t u : TS) : TS := fun D σ H => ∃ W : L2.St → Hp → Prop, t { D with nx := W } σ H ∧ ∀ σ' H', W σ' H' → u D σ' H'
theorem kss_meet {st : Stmt} {rest : List Stmt} {t u : TS} (h1 : PS X st t) (h2 : PSs X rest u) : PSs X (st :: rest) (tMeet t u) := by
  refine ⟨fun pins s σ H D I h => ?_⟩
  obtain ⟨W, hw, hu⟩ := h
  refine wpAny_execs_cons (thn (h1.run pins s σ H _ I hw) fun f s' hf => ?_)
  cases f with
  | next =>
    obtain ⟨σ', H', I', q⟩ := hf
    exact h2.run pins s' σ' H' D I' (hu σ' H' q)
  | ret u => exact hf
  | brk => exact hf
  | cont => exact hf
theorem kix (K : PySem.W.Frag) (hK : X.K = K := by rfl) : IxR X (rIx K) := by subst hK; exact ix_seq
def rLenU (K : PySem.W.Frag) : List V → Hp → VK → Prop := fun xs H Q => ∃ x n, xs = [x] ∧ LenV K x H n ∧ Q (.int (n : Nat)) H
theorem kc_len (K : PySem.W.Frag) (hK : X.K = K := by rfl) : CallR X (.builtin "len") (rLenU K) := by subst hK; exact call_len
def rInt1 : List V → Hp → VK → Prop := fun xs H Q => match xs with
  | [.int i] => Q (.int i) H
  | [.bl k] => Q (.int (if k then 1 else 0)) H
  | _ => False
theorem kc_int : CallR X (.type "int") rInt1 := by
  intro pins s σ H xs us Q I r h
  match xs, r, h with
  | [.int i], r, h => exact call_int1 pins s σ H _ us Q I r (.inl ⟨i, rfl, h⟩)
  | [.bl k], r, h => exact call_int1 pins s σ H _ us Q I r (.inr ⟨k, rfl, h⟩)
def rBool1 : List V → Hp → VK → Prop := fun xs H Q => match xs with
  | [.int i] => Q (.bl (i != 0)) H
  | [.bl k] => Q (.bl k) H
  | _ => False
theorem kc_bool : CallR X (.type "bool") rBool1 := by
  intro pins s σ H xs us Q I r h
  match xs, r, h with
  | [.int i], r, h => exact call_bool1 pins s σ H _ us Q I r (.inl ⟨i, rfl, h⟩)
  | [.bl k], r, h => exact call_bool1 pins s σ H _ us Q I r (.inr ⟨k, rfl, h⟩)
def rStr1 : List V → Hp → VK → Prop := fun xs H Q => ∃ i : Int, xs = [.int i] ∧ i.natAbs.log2 < 1920 ∧ Q (.str (toString i)) H
theorem kc_str : CallR X (.type "str") rStr1 := call_str_int
def rListU (K : PySem.W.Frag) : List V → Hp → VK → Prop := fun xs H Q => ∃ p ys, xs = [.ref p] ∧ (SqL K H p ys ∨ SqT K H p ys) ∧ ∀ l, H l = none → Q (.ref l) (upd H l (.lst ys))
theorem kc_list (K : PySem.W.Frag) (hK : X.K = K := by rfl) : CallR X (.type "list") (rListU K) := by subst hK; exact call_list_of
def rTupleU (K : PySem.W.Frag) : List V → Hp → VK → Prop := fun xs H Q => ∃ p ys, xs = [.ref p] ∧ ((SqL K H p ys ∧ ∀ l, H l = none → Q (.ref l) (upd H l (.tup ys))) ∨ (SqT K H p ys ∧ Q (.ref p) H))
theorem kc_tuple (K : PySem.W.Frag) (hK : X.K = K := by rfl) : CallR X (.type "tuple") (rTupleU K) := by subst hK; exact call_tuple_of
theorem kc_isi (K : PySem.W.Frag) (hK : X.K = K := by rfl) : CallR X (.builtin "isinstance") (rIsi K) := by subst hK; exact call_isi
theorem kc_isiT (K : PySem.W.Frag) (hK : X.K = K := by rfl) : CallR X (.builtin "isinstance") (rIsiT K) := by subst hK; exact call_isiT
def rMax2 : List V → Hp → VK → Prop := fun xs H Q => match xs with
  | [.int i, .int j] => Q (.int (if j > i then j else i)) H
  | _ => False
theorem kc_max2 (hc : X.calm = true) : CallR X (.builtin "max") rMax2 := by
  intro pins s σ H xs us Q I r h
  match xs, r, h with
  | [.int i, .int j], r, h => exact call_max2 hc pins s σ H _ us Q I r ⟨i, j, rfl, h⟩
def rMin2 : List V → Hp → VK → Prop := fun xs H Q => match xs with
  | [.int i, .int j] => Q (.int (if j < i then j else i)) H
  | _ => False
theorem kc_min2 (hc : X.calm = true) : CallR X (.builtin "min") rMin2 := by
  intro pins s σ H xs us Q I r h
  match xs, r, h with
  | [.int i, .int j], r, h => exact call_min2 hc pins s σ H _ us Q I r ⟨i, j, rfl, h⟩
theorem kc_sum (K : PySem.W.Frag) (hc : X.calm = true) (hK : X.K = K := by rfl) : CallR X (.builtin "sum") (rSum K) := by subst hK; exact cr_sum hc
theorem ksl_list (K : PySem.W.Frag) (hK : X.K = K := by rfl) : SlR X (rSlL K) := by subst hK; exact sl_list
theorem kpi_list (K : PySem.W.Frag) {tg l : Expr} {tl : TE} (hl : PE X l tl) (hK : X.K = K := by rfl) : PI X tg l (iList K tl) := by subst hK; exact pi_list hl
theorem kpi_tup (K : PySem.W.Frag) {tg l : Expr} {tl : TE} (hl : PE X l tl) (hK : X.K = K := by rfl) : PI X tg l (iTup K tl) := by subst hK; exact pi_tup hl
theorem kpe_fld (K : PySem.W.Frag) {e : Expr} {f : Str} {ta : TE} {pos : Pos} (he : PE X e ta) (hK : X.K = K := by rfl) (hb : attributeBase e f X.env (eval e X.env) = eval e X.env := by rfl) : PE X (.Attribute e f pos) (tFld K ta f) := by subst hK; exact pe_fld he hb
theorem kps_fld (K : PySem.W.Frag) {o value : Expr} {f : Str} {ta tv : TE} {pos pos' : Pos} (ha : PE X o ta) (hv : PE X value tv) (hK : X.K = K := by rfl) (hs : swapsWith value (some (.Attribute o f pos')) pos.line X.env = pure false := by rfl) : PS X (.Assign [.Attribute o f pos'] value pos) (sFld K ta tv f) := by subst hK; exact ps_fld ha hv hs
def tTruU (K : PySem.W.Frag) (ta : TE) : TT := fun σ H Q => ta σ H fun x H' => ∃ k, TruV K x H' k ∧ Q k H'
theorem kpt_truth (K : PySem.W.Frag) {a : Expr} {ta : TE} (ha : PE X a ta) (hK : X.K = K := by rfl) (he : ∀ whole, isTrue a X.env whole = (do let v ← whole; standAt a.pos; holding [v] (truthy v)) := by intro _; rfl) : PT X a (tTruU K ta) := by subst hK; exact pt_truth ha he
theorem kop_in (K : PySem.W.Frag) (hK : X.K = K := by rfl) : OpR X (compareOp .In) (rIn K false) := by subst hK; exact op_in_seq
theorem kop_nin (K : PySem.W.Frag) (hK : X.K = K := by rfl) : OpR X (compareOp .NotIn) (rIn K true) := by subst hK; exact op_notIn_seq
theorem kpg_tup (K : PySem.W.Frag) (n : Nat) {es : List Expr} {k : Nat} {t : TGs} {pos : Pos} (hc : X.calm = true) (h : PGs X es t) (hK : X.K = K := by rfl) (hn : (assignEach es X.env).length = n := by rfl) (hst : (assignEach es X.env).findIdx? (·.1) = none := by rfl) : PG X (.Tuple es k pos) (gTup K n t) := by subst hK; exact pg_tup hc h hn hst
end

theorem small_size' {n : Nat} (h : n ≤ 1000000) : n ≤ sizeLine := Nat.le_trans h (by rw [sizeLine_eq]; decide)
/-! ### the steps of a reading -/
section
variable {σ : L2.St} {H : Hp} {Q : VK} {D : Ends} {t u : TS} {te ta tb : TE} {tt tu : TT} {tA tr : TA} {g : TG} {i : Nat} {v x y : V} {r : R2}
theorem k_seq (h : t { D with nx := u D } σ H) : tSeq t u D σ H := h
theorem k_asg (h : te σ H fun x H1 => g x σ H1 D.nx) : tAsg te g D σ H := h
theorem k_gName {Q : L2.St → Hp → Prop} (h : Q (σ.set i (some v)) H) : gName i v σ H Q := h
theorem k_drop (h : te σ H fun _ H1 => D.nx σ H1) : tDrop te D σ H := h
theorem k_ret (h : te σ H D.rt) : tRet te D σ H := h
theorem k_retN (h : D.rt .non H) : tRetN D σ H := h
theorem k_next (h : D.nx σ H) : tNext D σ H := h
theorem k_break (h : D.bk σ H) : tBreak D σ H := h
theorem k_cont (h : D.ct σ H) : tCont D σ H := h
theorem k_ifS (h : tt σ H fun b H1 => if b = true then t D σ H1 else u D σ H1) : tIfS tt t u D σ H := h
theorem k_var (h : σ[i]? = some (some v)) (k : Q v H) : tVar i σ H Q := ⟨v, h, k⟩
theorem k_c (k : Q v H) : tC v σ H Q := k
theorem k_op (h : ta σ H fun x H1 => tb σ H1 fun y H2 => r x y H2 Q) : tOp r ta tb σ H Q := h
theorem k_un {r : V → Hp → VK → Prop} (h : ta σ H fun x H1 => r x H1 Q) : tUn r ta σ H Q := h
theorem k_test {Q : Bool → Hp → Prop} (h : te σ H fun x H' => ∃ k, x = .bl k ∧ Q k H') : tTest te σ H Q := h
theorem k_B {Q : Bool → Hp → Prop} (h : te σ H fun x H' => ∃ k, x = .bl k ∧ Q k H') : tB te σ H Q := h
theorem k_bl {b : Bool} {Q : Bool → Prop} (h : Q b) : ∃ k, V.bl b = .bl k ∧ Q k := ⟨b, rfl, h⟩
theorem k_and {Q : Bool → Hp → Prop} (h : tt σ H fun c H1 => if c = true then tu σ H1 Q else Q false H1) : tAnd tt tu σ H Q := h
theorem k_or {Q : Bool → Hp → Prop} (h : tt σ H fun c H1 => if c = true then Q true H1 else tu σ H1 Q) : tOr tt tu σ H Q := h
theorem k_not {Q : Bool → Hp → Prop} (h : tt σ H fun c H1 => Q (!c) H1) : tNot tt σ H Q := h
theorem k_andV (h : ta σ H fun x H1 => ∃ c, x = .bl c ∧ if c = true then tb σ H1 Q else Q (.bl false) H1) : tAndV ta tb σ H Q := h
theorem k_orV (h : ta σ H fun x H1 => ∃ c, x = .bl c ∧ if c = true then Q (.bl true) H1 else tb σ H1 Q) : tOrV ta tb σ H Q := h
theorem k_notV (h : ta σ H fun x H1 => ∃ c, x = .bl c ∧ Q (.bl (!c)) H1) : tNotV ta σ H Q := h
theorem k_if (h : tt σ H fun c H1 => if c = true then ta σ H1 Q else tb σ H1 Q) : tIf tt ta tb σ H Q := h
theorem k_nil {Q : List V → Hp → Prop} (h : Q [] H) : tNil σ H Q := h
theorem k_cons {Q : List V → Hp → Prop} (h : ta σ H fun x H1 => tr σ H1 fun xs H2 => Q (x :: xs) H2) : tCons ta tr σ H Q := h
theorem k_CB {r : List V → Hp → VK → Prop} (h : tA σ H fun vs H1 => r vs H1 Q) : tCB r tA σ H Q := h
theorem k_call {sp : Sp} {dvs : List V} {E : XK} (h : tA σ H fun vs H1 => sp (vs ++ dvs) H1 Q E) : tCall sp dvs E tA σ H Q := h
theorem k_tup (h : tA σ H fun xs H1 => xs.length ≤ sizeLine ∧ ∀ p, H1 p = none → Q (.ref p) (upd H1 p (.tup xs))) : tTup tA σ H Q := h
theorem k_lst (h : tA σ H fun xs H1 => xs.length ≤ sizeLine ∧ ∀ p, H1 p = none → Q (.ref p) (upd H1 p (.lst xs))) : tLst tA σ H Q := h
theorem k_tru {K : PySem.W.Frag} {Q : Bool → Hp → Prop} (h : ta σ H fun x H' => ∃ k, TruV K x H' k ∧ Q k H') : (fun (σ : L2.St) (H : Hp) (Q : Bool → Hp → Prop) => ta σ H fun x H' => ∃ k, TruV K x H' k ∧ Q k H') σ H Q := h
theorem k_gSub {to ti : TE} {t : TSet} {Q : L2.St → Hp → Prop} (h : to σ H fun o H1 => ti σ H1 fun i H2 => t o i v H2 fun H3 => Q σ H3) : gSub to ti t v σ H Q := h
theorem k_par {i j : Nat} (h : tA σ H fun vs H1 => ∃ v w, vs = [v, w] ∧ D.nx ((σ.set i (some v)).set j (some w)) H1) : tPar i j tA D σ H := h
theorem k_pair {v w : V} {P : V → V → Prop} (h : P v w) : ∃ a b, [v, w] = [a, b] ∧ P a b := ⟨v, w, rfl, h⟩
theorem k_sl {r : V → Option Int → Option Int → Hp → VK → Prop} {tl th : TO} (h : te σ H fun x H1 => tl σ H1 fun l H2 => th σ H2 fun u H3 => r x l u H3 Q) : tSl r te tl th σ H Q := h
theorem k_noPart {Q : Option Int → Hp → Prop} (h : Q none H) : tNoPart σ H Q := h
theorem k_part {Q : Option Int → Hp → Prop} (h : te σ H fun x H1 => ∃ i, x = .int i ∧ Q (some i) H1) : tPart te σ H Q := h
theorem k_int {i : Int} {P : Int → Prop} (h : P i) : ∃ j, V.int i = .int j ∧ P j := ⟨i, rfl, h⟩

/-- values -/
theorem k_addI {i j : Int} (k : Q (.int (i + j)) H) : rAddU (.int i) (.int j) H Q := k
theorem k_I0 {f : Int → Int → V} {i j : Int} (k : Q (f i j) H) : rI0 f (.int i) (.int j) H Q := ⟨i, j, rfl, rfl, k⟩
theorem k_I {C : Int → Int → Prop} {f : Int → Int → V} {i j : Int} (c : C i j) (k : Q (f i j) H) : rI C f (.int i) (.int j) H Q := ⟨i, j, rfl, rfl, c, k⟩
theorem k_U {f : Int → V} {i : Int} (k : Q (f i) H) : rU f (.int i) H Q := ⟨i, rfl, k⟩
theorem k_eq {x y : V} (s : scal x y = true) (k : Q (.bl (decide (x = y))) H) : rEq x y H Q := ⟨s, k⟩
theorem k_ne {x y : V} (s : scal x y = true) (k : Q (.bl (!decide (x = y))) H) : rNe x y H Q := ⟨s, k⟩
theorem k_eqI {i j : Int} (k : Q (.bl (decide (i = j))) H) : rEq (.int i) (.int j) H Q := ⟨rfl, by
  have e : decide (V.int i = V.int j) = decide (i = j) := by simp
  rw [e]; exact k⟩
theorem k_neI {i j : Int} (k : Q (.bl (!decide (i = j))) H) : rNe (.int i) (.int j) H Q := ⟨rfl, by
  have e : decide (V.int i = V.int j) = decide (i = j) := by simp
  rw [e]; exact k⟩
theorem k_ixL {K : PySem.W.Frag} {p : Addr} {xs : List V} {i : Int} (h : SqL K H p xs) (a : atI xs i = some v) (k : Q v H) : rIx K (.ref p) (.int i) H Q := .inl ⟨p, xs, i, v, rfl, rfl, h, a, k⟩
theorem k_ixT {K : PySem.W.Frag} {p : Addr} {xs : List V} {i : Int} (h : SqT K H p xs) (a : atI xs i = some v) (k : Q v H) : rIx K (.ref p) (.int i) H Q := .inr (.inl ⟨p, xs, i, v, rfl, rfl, h, a, k⟩)
theorem k_ixS {K : PySem.W.Frag} {z : Str} {i : Int} {c : Nat} (h : z.length ≤ sizeLine) (a : atI z.cps.toList i = some c) (k : Q (.str ⟨#[c]⟩) H) : rIx K (.str z) (.int i) H Q := .inr (.inr ⟨z, i, c, rfl, rfl, h, a, k⟩)
theorem k_meet {σ : L2.St} {H : Hp} {D : Ends} {t u : TS} (W : L2.St → Hp → Prop) (h : t { D with nx := W } σ H) (k : ∀ σ' H', W σ' H' → u D σ' H') : tMeet t u D σ H := ⟨W, h, k⟩
theorem k_addL {p q : Addr} {xs ys : List V} {H : Hp} {Q : VK} (h1 : H p = some (.lst xs)) (h2 : H q = some (.lst ys)) (hz : xs.length + ys.length ≤ 1000000) (k : ∀ l, H l = none → Q (.ref l) (upd H l (.lst (xs ++ ys)))) : rAddU (.ref p) (.ref q) H Q := ⟨xs, ys, h1, h2, small_size' hz, k⟩
theorem k_addS {a b : Str} {H : Hp} {Q : VK} (hz : a.length + b.length ≤ 1000000) (k : Q (.str (a ++ b)) H) : rAddU (.str a) (.str b) H Q := ⟨small_size' hz, k⟩
theorem k_int1 {i : Int} (k : Q (.int i) H) : rInt1 [.int i] H Q := k
theorem k_lenL {K : PySem.W.Frag} {p : Addr} {xs : List V} (h : SqL K H p xs) (k : Q (.int (xs.length : Nat)) H) : rLenU K [.ref p] H Q := ⟨_, _, rfl, .inl ⟨xs, h, rfl⟩, k⟩
theorem k_lenT {K : PySem.W.Frag} {p : Addr} {xs : List V} (h : SqT K H p xs) (k : Q (.int (xs.length : Nat)) H) : rLenU K [.ref p] H Q := ⟨_, _, rfl, .inr ⟨xs, h, rfl⟩, k⟩
theorem k_lenS {K : PySem.W.Frag} {z : Str} (h : z.length ≤ sizeLine) (k : Q (.int (z.length : Nat)) H) : rLenU K [.str z] H Q := ⟨_, _, rfl, ⟨h, rfl⟩, k⟩
theorem k_max2 {i j : Int} (k : Q (.int (if j > i then j else i)) H) : rMax2 [.int i, .int j] H Q := k
theorem k_min2 {i j : Int} (k : Q (.int (if j < i then j else i)) H) : rMin2 [.int i, .int j] H Q := k
theorem k_setL {p : Addr} {xs : List V} {k : Int} {j : Nat} {w : V} {Q : Hp → Prop} (h : H p = some (.lst xs)) (e : ixN xs.length k = some j) (q : Q (upd H p (.lst (xs.set j w)))) : rSetL (.ref p) (.int k) w H Q := ⟨p, xs, k, j, rfl, rfl, h, e, q⟩
/-- tests whose answer is known, or open -/
theorem k_t {A B : Prop} (h : A) : if true = true then A else B := by rw [if_pos rfl]; exact h
theorem k_f {A B : Prop} (h : B) : if false = true then A else B := by rw [if_neg Bool.false_ne_true]; exact h
theorem k_t' {A B : Prop} (h : A) : if (!false) = true then A else B := k_t (B := B) h
theorem k_f' {A B : Prop} (h : B) : if (!true) = true then A else B := k_f (A := A) h
theorem k_o1 {b : Bool} {A B : Prop} (h : A) : if (true || b) = true then A else B := k_t (B := B) h
theorem k_o2 {A B : Prop} (h : A) : if (false || true) = true then A else B := k_t (B := B) h
theorem k_o3 {A B : Prop} (h : B) : if (false || false) = true then A else B := k_f (A := A) h
theorem k_o4 {b : Bool} {A B : Prop} (h : B) : if (!(true || b)) = true then A else B := k_f (A := A) h
theorem k_o5 {A B : Prop} (h : B) : if (!(false || true)) = true then A else B := k_f (A := A) h
theorem k_o6 {A B : Prop} (h : A) : if (!(false || false)) = true then A else B := k_t (B := B) h
theorem k_chain {r r' : R2} {tc : TE} (h : ta σ H fun x H1 => tb σ H1 fun y H2 => r x y H2 fun z H3 => ∃ k, z = .bl k ∧ (if k = true then tc σ H3 fun w' H4 => r' y w' H4 Q else Q (.bl false) H3)) : tChain r r' ta tb tc σ H Q := h
theorem k_dt {c : Prop} [Decidable c] {A B : Prop} (hc : c) (h : A) : if decide c = true then A else B := by rw [decide_eq_true hc]; exact k_t h
theorem k_df {c : Prop} [Decidable c] {A B : Prop} (hc : ¬ c) (h : B) : if decide c = true then A else B := by rw [decide_eq_false hc]; exact k_f h
theorem k_d {c : Prop} [Decidable c] {A B : Prop} (h1 : c → A) (h2 : ¬ c → B) : if decide c = true then A else B := by
  by_cases hc : c
  · exact k_dt hc (h1 hc)
  · exact k_df hc (h2 hc)
theorem k_nt {c : Prop} [Decidable c] {A B : Prop} (hc : c) (h : B) : if (!decide c) = true then A else B := by rw [decide_eq_true hc]; exact k_f h
theorem k_nf {c : Prop} [Decidable c] {A B : Prop} (hc : ¬ c) (h : A) : if (!decide c) = true then A else B := by rw [decide_eq_false hc]; exact k_t h
theorem k_n {c : Prop} [Decidable c] {A B : Prop} (h1 : c → B) (h2 : ¬ c → A) : if (!decide c) = true then A else B := by
  by_cases hc : c
  · exact k_nt hc (h1 hc)
  · exact k_nf hc (h2 hc)
theorem k_b {b : Bool} {A B : Prop} (h1 : b = true → A) (h2 : b = false → B) : if b = true then A else B := by
  cases b with
  | true => exact k_t (h1 rfl)
  | false => exact k_f (h2 rfl)
end

/-! ### heaps -/
theorem same_new {H : Hp} {p : Addr} {o : HO} (h : H p = none) : Same H (upd H p o) := fun a u e => by
  rw [upd_ne (ne_of_none e h)]
  exact e
theorem same_t {K : PySem.W.Frag} {H H' : Hp} {a : Addr} {xs : List V} (e : Same H H') (h : SqT K H a xs) : SqT K H' a xs := by
  rcases h with (h | ⟨o, h⟩) | h
  · exact .inl (.inl (e _ _ h))
  · exact .inl (.inr ⟨o, e _ _ h⟩)
  · exact .inr h
/-- over a heap G that does not know b, b's object put on top -/
theorem up_same {G : Hp} {b : Addr} {β : HO} (hb : G b = none) : Same G (upd G b β) := same_new hb
theorem up_get {G : Hp} {a b : Addr} {o β : HO} (hb : G b = none) (h : G a = some o) : upd G b β a = some o := same_new hb _ _ h
theorem up_none {G : Hp} {p b : Addr} {β : HO} (h : upd G b β p = none) : G p = none ∧ p ≠ b := by
  by_cases e : p = b
  · rw [e, upd_same] at h; cases h
  · rw [upd_ne e] at h; exact ⟨h, e⟩
theorem upd_swap {G : Hp} {a b : Addr} {o β : HO} (h : a ≠ b) : upd (upd G b β) a o = upd (upd G a o) b β := by
  funext c
  unfold upd
  by_cases h1 : c = a
  · subst h1
    simp [h]
  · simp [h1]
theorem up_new {G : Hp} {b : Addr} {β o : HO} {P : Addr → Hp → Prop} (hb : G b = none) (k : ∀ p G', G p = none → p ≠ b → G' = upd G p o → G' b = none → Same G G' → G' p = some o → P p (upd G' b β)) :
    ∀ p, upd G b β p = none → P p (upd (upd G b β) p o) := fun p hp => by
  obtain ⟨h1, h2⟩ := up_none hp
  rw [upd_swap h2]
  exact k p _ h1 h2 rfl (by rw [upd_ne (Ne.symm h2)]; exact hb) (same_new h1) upd_same
theorem k_setLu {G : Hp} {b : Addr} {xs ys : List V} {k : Int} {j : Nat} {w : V} {Q : Hp → Prop} (e : ixN xs.length k = some j) (ey : xs.set j w = ys) (q : Q (upd G b (.lst ys))) : rSetL (.ref b) (.int k) w (upd G b (.lst xs)) Q := by
  subst ey
  exact k_setL upd_same e (by rw [upd_upd]; exact q)
theorem upd_at {H H' : Hp} {p : Addr} {o : HO} (e : upd H p o = H') : H' p = some o := by rw [← e]; exact upd_same
theorem upd_sm {H H' : Hp} {p : Addr} {o : HO} (e : upd H p o = H') (n : H p = none) : Same H H' := by rw [← e]; exact same_new n
theorem split_up {G H' : Hp} {b : Addr} {β : HO} (hb : G b = none) (e : Same (upd G b β) H') : ∃ G', G' b = none ∧ Same G G' ∧ H' = upd G' b β := by
  refine ⟨fun a => if a = b then none else H' a, if_pos rfl, fun a o h => ?_, ?_⟩
  · show (if a = b then none else H' a) = some o
    have hne : a ≠ b := ne_of_none h hb
    rw [if_neg hne]
    exact e _ _ (up_get hb h)
  · funext a
    unfold upd
    by_cases h : a = b
    · rw [if_pos h, h]
      exact e _ _ upd_same
    · rw [if_neg h]
      show H' a = if a = b then none else H' a
      rw [if_neg h]
theorem kb_int_int : kitB "int" "int" = some true := by decide +kernel
theorem kb_int_bool : kitB "int" "bool" = some false := by decide +kernel
theorem kb_int_str : kitB "int" "str" = some false := by decide +kernel
theorem kb_int_list : kitB "int" "list" = some false := by decide +kernel
theorem kb_int_tuple : kitB "int" "tuple" = some false := by decide +kernel
theorem kb_int_dict : kitB "int" "dict" = some false := by decide +kernel
theorem kb_bool_int : kitB "bool" "int" = some true := by decide +kernel
theorem kb_bool_bool : kitB "bool" "bool" = some true := by decide +kernel
theorem kb_bool_str : kitB "bool" "str" = some false := by decide +kernel
theorem kb_bool_list : kitB "bool" "list" = some false := by decide +kernel
theorem kb_bool_tuple : kitB "bool" "tuple" = some false := by decide +kernel
theorem kb_bool_dict : kitB "bool" "dict" = some false := by decide +kernel
theorem kb_str_int : kitB "str" "int" = some false := by decide +kernel
theorem kb_str_bool : kitB "str" "bool" = some false := by decide +kernel
theorem kb_str_str : kitB "str" "str" = some true := by decide +kernel
theorem kb_str_list : kitB "str" "list" = some false := by decide +kernel
theorem kb_str_tuple : kitB "str" "tuple" = some false := by decide +kernel
theorem kb_str_dict : kitB "str" "dict" = some false := by decide +kernel
theorem kb_NoneType_int : kitB "NoneType" "int" = some false := by decide +kernel
theorem kb_NoneType_bool : kitB "NoneType" "bool" = some false := by decide +kernel
theorem kb_NoneType_str : kitB "NoneType" "str" = some false := by decide +kernel
theorem kb_NoneType_list : kitB "NoneType" "list" = some false := by decide +kernel
theorem kb_NoneType_tuple : kitB "NoneType" "tuple" = some false := by decide +kernel
theorem kb_NoneType_dict : kitB "NoneType" "dict" = some false := by decide +kernel
theorem kb_list_int : kitB "list" "int" = some false := by decide +kernel
theorem kb_list_bool : kitB "list" "bool" = some false := by decide +kernel
theorem kb_list_str : kitB "list" "str" = some false := by decide +kernel
theorem kb_list_list : kitB "list" "list" = some true := by decide +kernel
theorem kb_list_tuple : kitB "list" "tuple" = some false := by decide +kernel
theorem kb_list_dict : kitB "list" "dict" = some false := by decide +kernel
theorem kb_tuple_int : kitB "tuple" "int" = some false := by decide +kernel
theorem kb_tuple_bool : kitB "tuple" "bool" = some false := by decide +kernel
theorem kb_tuple_str : kitB "tuple" "str" = some false := by decide +kernel
theorem kb_tuple_list : kitB "tuple" "list" = some false := by decide +kernel
theorem kb_tuple_tuple : kitB "tuple" "tuple" = some true := by decide +kernel
theorem kb_tuple_dict : kitB "tuple" "dict" = some false := by decide +kernel
theorem kb_dict_int : kitB "dict" "int" = some false := by decide +kernel
theorem kb_dict_bool : kitB "dict" "bool" = some false := by decide +kernel
theorem kb_dict_str : kitB "dict" "str" = some false := by decide +kernel
theorem kb_dict_list : kitB "dict" "list" = some false := by decide +kernel
theorem kb_dict_tuple : kitB "dict" "tuple" = some false := by decide +kernel
theorem kb_dict_dict : kitB "dict" "dict" = some true := by decide +kernel
/-- isinstance of built-in types -/
theorem k_isi {K : PySem.W.Frag} {H : Hp} {v : V} {a T : String} {b : Bool} {Q : VK} (ty : TyX K H v (.type a)) (hk : kitB a T = some b) (k : Q (.bl b) H) : rIsi K [v, .ty T] H Q := ⟨v, .ty T, _, _, b, rfl, .ty T, ty, kit_ty hk, k⟩
theorem k_isiT {K : PySem.W.Frag} {H : Hp} {v : V} {p : Addr} {a T1 T2 : String} {b1 b2 : Bool} {Q : VK} (hp : H p = some (.tup [.ty T1, .ty T2])) (ty : TyX K H v (.type a)) (h1 : kitB a T1 = some b1) (h2 : kitB a T2 = some b2) (k : Q (.bl (b1 || b2)) H) : rIsiT K [v, .ref p] H Q :=
  ⟨v, p, _, _, _, b1 || b2, rfl, hp, .cons (.ty T1) (.cons (.ty T2) .nil), ty, kitAny_cons (kit_ty h1) (fun e => by subst e; exact kitAny_cons (kit_ty h2) (fun e => by subst e; exact kitAny_nil) (fun e => by subst e; rfl)) (fun e => by subst e; rfl), k⟩
/-- isinstance of an own instance -/
theorem k_isiO {K : PySem.W.Frag} {H : Hp} {v : V} {t : Value} {C : Addr} {b : Bool} {Q : VK} (ty : TyX K H v t) (hk : PySem.W.kitOne K t (.ref C) = some b) (k : Q (.bl b) H) : rIsi K [v, .ref C] H Q := ⟨v, .ref C, _, _, b, rfl, .own C, ty, hk, k⟩
theorem one_new {G : Hp} {o : HO} {P : Addr → Hp → Prop} (k : ∀ p G', G p = none → G' = upd G p o → Same G G' → G' p = some o → P p G') : ∀ p, G p = none → P p (upd G p o) := fun p hp => k p _ hp rfl (same_new hp) upd_same
theorem small_size {n : Nat} (h : n ≤ 1000000) : n ≤ sizeLine := Nat.le_trans h (by rw [sizeLine_eq]; decide)
theorem small_lt {n : Nat} (h : n ≤ 1000000) : n < sizeLine := Nat.lt_of_le_of_lt h (by rw [sizeLine_eq]; decide)

/-! ### fields by place: the names written, the values by place -/
def nin (x : Str) : List Str → Bool
  | [] => true
  | n :: r => !(n == x) && nin x r
def pos? (x : Str) : List Str → Option Nat
  | [] => none
  | n :: r => if n == x then some 0 else (pos? x r).map (· + 1)
abbrev FL (ns : List Str) (vs : List V) : List (Str × V) := ns.zip vs
theorem fl_get {x : Str} : ∀ {ns : List Str} {vs : List V} {i : Nat} {v : V}, pos? x ns = some i → vs[i]? = some v → (FL ns vs).lookup x = some v
  | [], _, _, _, h, _ => by cases h
  | n :: r, [], i, v, h, hv => by simp at hv
  | n :: r, w :: ws, i, v, h, hv => by
    unfold pos? at h
    show List.lookup x ((n, w) :: FL r ws) = some v
    rw [List.lookup_cons]
    by_cases e : n == x
    · rw [if_pos e] at h
      cases h
      have e' : (x == n) = true := by rw [beq_iff_eq] at e ⊢; exact e.symm
      rw [e']
      exact hv
    · rw [if_neg e] at h
      have e' : (x == n) = false := by
        rw [Bool.eq_false_iff]
        intro q
        rw [beq_iff_eq] at q
        exact e (by rw [q]; simp)
      rw [e']
      cases hp : pos? x r with
      | none => rw [hp] at h; cases h
      | some j =>
        rw [hp] at h
        cases h
        exact fl_get (ns := r) hp (by simpa using hv)
theorem fl_no {x : Str} : ∀ {ns : List Str} {vs : List V}, nin x ns = true → (FL ns vs).lookup x = none
  | [], _, _ => rfl
  | n :: r, [], _ => rfl
  | n :: r, w :: ws, h => by
    unfold nin at h
    simp only [Bool.and_eq_true, Bool.not_eq_true'] at h
    show List.lookup x ((n, w) :: FL r ws) = none
    have e' : (x == n) = false := by
      rw [Bool.eq_false_iff]
      intro q
      rw [beq_iff_eq] at q
      rw [q] at h
      simp at h
    rw [List.lookup_cons, e']
    exact fl_no h.2
theorem fl_put {x : Str} {v : V} : ∀ {ns : List Str} {vs : List V}, ns.length = vs.length → nin x ns = true → putF x v (FL ns vs) = FL (ns ++ [x]) (vs ++ [v])
  | [], [], _, _ => rfl
  | n :: r, w :: ws, hl, h => by
    unfold nin at h
    simp only [Bool.and_eq_true, Bool.not_eq_true'] at h
    have e' : ¬ n = x := fun q => by
      rw [q] at h
      simp at h
    show (if n = x then _ else (n, w) :: putF x v (FL r ws)) = _
    rw [if_neg e', fl_put (by simpa using hl) h.2]
    rfl
theorem fl_len {ns : List Str} {vs : List V} : (FL ns vs).length ≤ ns.length := by
  rw [List.length_zip]
  omega
section
variable {K : PySem.W.Frag} {σ : L2.St} {H : Hp} {Q : VK} {D : Ends} {ta tv : TE} {f : Str} {a C dx : Addr} {ns : List Str} {vs : List V} {v y : V}
def rFld (K : PySem.W.Frag) (f : Str) (x : V) (H : Hp) (Q : VK) : Prop := ∃ a C dx fs v, x = .ref a ∧ H a = some (.ins C dx fs) ∧ Cls K C ∧ NoAttr K C f ∧ fs.lookup f = some v ∧ Q v H
theorem k_fld (h : ta σ H fun x H1 => rFld K f x H1 Q) : tFld K ta f σ H Q := h
theorem k_fldAt {i : Nat} (h : H a = some (.ins C dx (FL ns vs))) (c : Cls K C) (n : NoAttr K C f) (hi : pos? f ns = some i) (hv : vs[i]? = some v) (q : Q v H) : rFld K f (.ref a) H Q := ⟨a, C, dx, _, v, rfl, h, c, n, fl_get hi hv, q⟩
def rPutF (K : PySem.W.Frag) (f : Str) (y x : V) (H : Hp) (Q : Hp → Prop) : Prop := ∃ a C dx fs, x = .ref a ∧ H a = some (.ins C dx fs) ∧ Cls K C ∧ NoAttr K C f ∧ fs.length < 1000 ∧ Q (upd H a (.ins C dx (putF f y fs)))
theorem k_putF (h : tv σ H fun y H1 => ta σ H1 fun x H2 => rPutF K f y x H2 fun H3 => D.nx σ H3) : sFld K ta tv f D σ H := h
theorem k_putAt {Q : Hp → Prop} (h : H a = some (.ins C dx (FL ns vs))) (c : Cls K C) (n : NoAttr K C f) (hl : ns.length = vs.length) (hn : nin f ns = true) (hs : ns.length < 1000) (q : Q (upd H a (.ins C dx (FL (ns ++ [f]) (vs ++ [y]))))) : rPutF K f y (.ref a) H Q :=
  ⟨a, C, dx, _, rfl, h, c, n, Nat.lt_of_le_of_lt fl_len hs, by rw [fl_put hl hn]; exact q⟩
/-- the same, the instance just laid on top -/
theorem k_putTop {Q : Hp → Prop} (c : Cls K C) (n : NoAttr K C f) (hl : ns.length = vs.length) (hn : nin f ns = true) (hs : ns.length < 1000) (q : Q (upd H a (.ins C dx (FL (ns ++ [f]) (vs ++ [y]))))) : rPutF K f y (.ref a) (upd H a (.ins C dx (FL ns vs))) Q :=
  k_putAt upd_same c n hl hn hs (by rw [upd_upd]; exact q)
end
theorem len_text {i : Int} {k : Nat} (hk : 0 < k) (h : i.natAbs < 10 ^ k) : (Str.ofString (toString i)).length ≤ k + 1 := by
  have e := PySem.int_text_length_le10 hk h
  rw [PySem.ofString_length]
  exact e
theorem log_text {i : Int} {k : Nat} (hk : k ≤ 1000) (h : i.natAbs < 2 ^ k) : i.natAbs.log2 < 1920 := by
  by_cases h0 : i.natAbs = 0
  · rw [h0]; decide
  · exact Nat.lt_of_lt_of_le ((Nat.log2_lt h0).mpr h) (by omega)

theorem k_disp {n : Nat} {P : Prop} (h : n ≤ 1000000) (k : P) : n ≤ sizeLine ∧ P := ⟨small_size h, k⟩
/-! ### loops -/
section
variable {K : PySem.W.Frag} {σ : L2.St} {H : Hp} {D : Ends} {wi : TI} {g : TG} {tb : TS} {tl : TE} {ta : TA} {a : Addr} {xs : List V}
def ForW (J : It) (g : TG) (tb : TS) (D : Ends) (σ : L2.St) (H1 : Hp) : Prop := ∃ W : Nat → Nat → L2.St → Hp → Prop, (∃ m, W 0 m σ H1) ∧ ∀ i m σ H, W i m σ H →
  (J.stop i H ∧ D.nx σ H) ∨ (J.go i H ∧ ∃ N : L2.St → Hp → Prop, (∀ σ' H', N σ' H' → ∃ m', m' < m ∧ W (i + 1) m' σ' H') ∧ ∀ x H', J.yld i H x H' → g x σ H' fun σ2 H2 => tb { D with nx := N, ct := N, bk := D.nx } σ2 H2)
theorem k_for (h : wi σ H fun J H1 => ForW J g tb D σ H1) : tFor wi g tb D σ H := h
def rIL (K : PySem.W.Frag) (R : It → Hp → Prop) (x : V) (H : Hp) : Prop := ∃ a, x = .ref a ∧ (∃ xs, SqL K H a xs) ∧ R (Itl K a) H
def rIT (K : PySem.W.Frag) (R : It → Hp → Prop) (x : V) (H : Hp) : Prop := ∃ a, x = .ref a ∧ (∃ xs, SqT K H a xs) ∧ R (Itt K a) H
theorem k_iList {R : It → Hp → Prop} (h : tl σ H fun x H1 => rIL K R x H1) : iList K tl σ H R := h
theorem k_iTup {R : It → Hp → Prop} (h : tl σ H fun x H1 => rIT K R x H1) : iTup K tl σ H R := h
theorem k_iL {R : It → Hp → Prop} (h : SqL K H a xs) (k : R (Itl K a) H) : rIL K R (.ref a) H := ⟨a, rfl, ⟨xs, h⟩, k⟩
theorem k_iT {R : It → Hp → Prop} (h : SqT K H a xs) (k : R (Itt K a) H) : rIT K R (.ref a) H := ⟨a, rfl, ⟨xs, h⟩, k⟩
theorem k_forList (xs : List V) (Pv : Nat → L2.St → Hp → Prop) (h0 : Pv 0 σ H) (hl : ∀ i σ H, i ≤ xs.length → Pv i σ H → SqL K H a xs)
    (hs : ∀ i x σ H, xs[i]? = some x → Pv i σ H → g x σ H fun σ2 H2 => tb { D with nx := Pv (i + 1), ct := Pv (i + 1), bk := D.nx } σ2 H2) (hd : ∀ σ H, Pv xs.length σ H → D.nx σ H) : ForW (Itl K a) g tb D σ H := for_list Pv h0 hl hs hd
theorem k_forTup (xs : List V) (Pv : Nat → L2.St → Hp → Prop) (h0 : Pv 0 σ H) (hl : ∀ i σ H, i ≤ xs.length → Pv i σ H → SqT K H a xs)
    (hs : ∀ i x σ H, xs[i]? = some x → Pv i σ H → g x σ H fun σ2 H2 => tb { D with nx := Pv (i + 1), ct := Pv (i + 1), bk := D.nx } σ2 H2) (hd : ∀ σ H, Pv xs.length σ H → D.nx σ H) : ForW (Itt K a) g tb D σ H := for_tup Pv h0 hl hs hd
def rR1 (R : It → Hp → Prop) (vs : List V) (H : Hp) : Prop := ∃ j : Int, vs = [.int j] ∧ -(2 ^ 62) ≤ j ∧ j < 2 ^ 62 ∧ R (Itr 0 j.toNat) H
def rR2 (R : It → Hp → Prop) (vs : List V) (H : Hp) : Prop := ∃ i j : Int, vs = [.int i, .int j] ∧ (-(2 ^ 62) ≤ i ∧ i < 2 ^ 62 ∧ -(2 ^ 62) ≤ j ∧ j < 2 ^ 62) ∧ R (Itr i (j - i).toNat) H
theorem k_rng1 {R : It → Hp → Prop} (h : ta σ H fun vs H1 => rR1 R vs H1) : iRng1 ta σ H R := h
theorem k_rng2 {R : It → Hp → Prop} (h : ta σ H fun vs H1 => rR2 R vs H1) : iRng2 ta σ H R := h
theorem k_r1 {R : It → Hp → Prop} {j : Int} (h : -(2 ^ 62) ≤ j ∧ j < 2 ^ 62) (k : R (Itr 0 j.toNat) H) : rR1 R [.int j] H := ⟨j, rfl, h.1, h.2, k⟩
theorem k_r2 {R : It → Hp → Prop} {i j : Int} (h : -(2 ^ 62) ≤ i ∧ i < 2 ^ 62 ∧ -(2 ^ 62) ≤ j ∧ j < 2 ^ 62) (k : R (Itr i (j - i).toNat) H) : rR2 R [.int i, .int j] H := ⟨i, j, rfl, h, k⟩
theorem k_forRange {lo : Int} {n : Nat} (Pv : Nat → L2.St → Hp → Prop) (h0 : Pv 0 σ H)
    (hs : ∀ i σ H, i < n → Pv i σ H → g (.int (lo + i)) σ H fun σ2 H2 => tb { D with nx := Pv (i + 1), ct := Pv (i + 1), bk := D.nx } σ2 H2) (hd : ∀ σ H, Pv n σ H → D.nx σ H) : ForW (Itr lo n) g tb D σ H := for_range Pv h0 hs hd
/-- comprehensions -/
def LcW (J : It) (g : TG) (tt : TT) (te : TE) (vs : List Nat) (σ : L2.St) (H1 : Hp) (D : Addr) (Qd : Hp → Prop) : Prop := ∃ W : Nat → Nat → Hp → Prop, (∃ m, W 0 m (upd H1 D (.lst []))) ∧ ∀ i m H, W i m H →
  (J.stop i H ∧ Qd H) ∨ (J.go i H ∧ ∃ Nx : Hp → Prop, (∀ H', Nx H' → ∃ m', m' < m ∧ W (i + 1) m' H') ∧ ∀ x H', J.yld i H x H' → g x (wipe σ vs) H' fun σ2 H2 => wipe σ2 vs = wipe σ vs ∧ tt σ2 H2 fun b H3 =>
    if b = true then te σ2 H3 fun y H4 => ∃ acc, H4 D = some (.lst acc) ∧ acc.length < sizeLine ∧ Nx (upd H4 D (.lst (acc ++ [y]))) else Nx H3)
theorem k_lc {tt : TT} {te : TE} {vs : List Nat} {Q : VK} (h : wi σ H fun J H1 => ∀ D, H1 D = none → LcW J g tt te vs σ H1 D (fun H2 => Q (.ref D) H2)) : tLc wi g tt te vs σ H Q := h
theorem k_lcList {tt : TT} {te : TE} {vs : List Nat} {D : Addr} {Qd : Hp → Prop} (xs : List V) (Pv : Nat → Hp → Prop) (h0 : Pv 0 (upd H D (.lst []))) (hl : ∀ i H, i ≤ xs.length → Pv i H → SqL K H a xs)
    (hs : ∀ i x H, xs[i]? = some x → Pv i H → g x (wipe σ vs) H fun σ2 H2 => wipe σ2 vs = wipe σ vs ∧ tt σ2 H2 fun b H3 =>
      if b = true then te σ2 H3 fun y H4 => ∃ acc, H4 D = some (.lst acc) ∧ acc.length < sizeLine ∧ Pv (i + 1) (upd H4 D (.lst (acc ++ [y]))) else Pv (i + 1) H3) (hd : ∀ H, Pv xs.length H → Qd H) : LcW (Itl K a) g tt te vs σ H D Qd := lc_list Pv h0 hl hs hd
theorem k_lcTup {tt : TT} {te : TE} {vs : List Nat} {D : Addr} {Qd : Hp → Prop} (xs : List V) (Pv : Nat → Hp → Prop) (h0 : Pv 0 (upd H D (.lst []))) (hl : ∀ i H, i ≤ xs.length → Pv i H → SqT K H a xs)
    (hs : ∀ i x H, xs[i]? = some x → Pv i H → g x (wipe σ vs) H fun σ2 H2 => wipe σ2 vs = wipe σ vs ∧ tt σ2 H2 fun b H3 =>
      if b = true then te σ2 H3 fun y H4 => ∃ acc, H4 D = some (.lst acc) ∧ acc.length < sizeLine ∧ Pv (i + 1) (upd H4 D (.lst (acc ++ [y]))) else Pv (i + 1) H3) (hd : ∀ H, Pv xs.length H → Qd H) : LcW (Itt K a) g tt te vs σ H D Qd := lc_tup Pv h0 hl hs hd
theorem k_lcRange {tt : TT} {te : TE} {vs : List Nat} {D : Addr} {Qd : Hp → Prop} {lo : Int} {n : Nat} (Pv : Nat → Hp → Prop) (h0 : Pv 0 (upd H D (.lst [])))
    (hs : ∀ i H, i < n → Pv i H → g (.int (lo + i)) (wipe σ vs) H fun σ2 H2 => wipe σ2 vs = wipe σ vs ∧ tt σ2 H2 fun b H3 =>
      if b = true then te σ2 H3 fun y H4 => ∃ acc, H4 D = some (.lst acc) ∧ acc.length < sizeLine ∧ Pv (i + 1) (upd H4 D (.lst (acc ++ [y]))) else Pv (i + 1) H3) (hd : ∀ H, Pv n H → Qd H) : LcW (Itr lo n) g tt te vs σ H D Qd := lc_range Pv h0 hs hd
theorem k_yes {Q : Bool → Hp → Prop} (h : Q true H) : tYes σ H Q := h
/-- a while by an invariant and a measure, the test read at once -/
theorem k_while {c : TT} (W : Nat → L2.St → Hp → Prop) (m : Nat) (h0 : W m σ H)
    (hs : ∀ m σ H, W m σ H → c σ H fun b H1 => if b = true then ∃ N : L2.St → Hp → Prop, (∀ σ' H', N σ' H' → ∃ m', m' < m ∧ W m' σ' H') ∧ tb { D with nx := N, ct := N, bk := D.nx } σ H1 else D.nx σ H1) : tWhile c tb D σ H := ⟨W, ⟨m, h0⟩, hs⟩
/-- list(..), tuple(..) of what is read -/
theorem k_listL {p : Addr} {ys : List V} {Q : VK} (h : SqL K H p ys) (k : ∀ l, H l = none → Q (.ref l) (upd H l (.lst ys))) : rListU K [.ref p] H Q := ⟨p, ys, rfl, .inl h, k⟩
theorem k_listT {p : Addr} {ys : List V} {Q : VK} (h : SqT K H p ys) (k : ∀ l, H l = none → Q (.ref l) (upd H l (.lst ys))) : rListU K [.ref p] H Q := ⟨p, ys, rfl, .inr h, k⟩
theorem k_tupleL {p : Addr} {ys : List V} {Q : VK} (h : SqL K H p ys) (k : ∀ l, H l = none → Q (.ref l) (upd H l (.tup ys))) : rTupleU K [.ref p] H Q := ⟨p, ys, rfl, .inl ⟨h, k⟩⟩
theorem k_slL {p : Addr} {ys : List V} {lo hi : Option Int} {Q : VK} (h : SqL K H p ys) (k : ∀ l, H l = none → Q (.ref l) (upd H l (.lst (cutV ys lo hi)))) : rSlL K (.ref p) lo hi H Q := ⟨p, ys, rfl, h, k⟩
end
theorem cut_ints {ns : List Int} {lo hi : Option Int} : ∃ ms : List Int, cutV (ns.map V.int) lo hi = ms.map V.int := by
  unfold cutV
  exact ⟨_, by rw [List.length_map, ← List.map_drop, ← List.map_take]⟩

/-! ### targets that are tuples; walks of any kind -/
section
variable {K : PySem.W.Frag} {σ : L2.St} {H : Hp} {D : Ends} {g : TG} {tb : TS} {n : Nat} {J : It} {G : Hp → Prop} {Y : Nat → Hp → V → Hp → Prop}
theorem k_gTup {p : Addr} {xs : List V} {t : TGs} {Q : L2.St → Hp → Prop} (h : SqT K H p xs) (hl : xs.length = n) (k : t xs σ H Q) : gTup K n t (.ref p) σ H Q := ⟨p, xs, rfl, h, hl, k⟩
theorem k_gCons {v : V} {r : List V} {t : TG} {u : TGs} {Q : L2.St → Hp → Prop} (k : t v σ H fun σ' H' => u r σ' H' Q) : gCons t u (v :: r) σ H Q := ⟨v, r, rfl, k⟩
theorem k_gNil {Q : L2.St → Hp → Prop} (k : Q σ H) : gNil [] σ H Q := ⟨rfl, k⟩
theorem k_forIt (w : Walk J n G Y) (Pv : Nat → L2.St → Hp → Prop) (h0 : Pv 0 σ H) (hG : ∀ i σ H, i ≤ n → Pv i σ H → G H)
    (hs : ∀ i x σ H H', i < n → Pv i σ H → Y i H x H' → g x σ H' fun σ2 H2 => tb { D with nx := Pv (i + 1), ct := Pv (i + 1), bk := D.nx } σ2 H2) (hd : ∀ σ H, Pv n σ H → D.nx σ H) : ForW J g tb D σ H := for_it w Pv h0 hG hs hd
theorem k_lcIt (w : Walk J n G Y) {tt : TT} {te : TE} {vs : List Nat} {D : Addr} {Qd : Hp → Prop} (Pv : Nat → Hp → Prop) (h0 : Pv 0 (upd H D (.lst []))) (hG : ∀ i H, i ≤ n → Pv i H → G H)
    (hs : ∀ i x H H', i < n → Pv i H → Y i H x H' → g x (wipe σ vs) H' fun σ2 H2 => wipe σ2 vs = wipe σ vs ∧ tt σ2 H2 fun b H3 =>
      if b = true then te σ2 H3 fun y H4 => ∃ acc, H4 D = some (.lst acc) ∧ acc.length < sizeLine ∧ Pv (i + 1) (upd H4 D (.lst (acc ++ [y]))) else Pv (i + 1) H3) (hd : ∀ H, Pv n H → Qd H) : LcW J g tt te vs σ H D Qd := lc_it w Pv h0 hG hs hd
theorem k_iEnum {ta : TA} {R : It → Hp → Prop} (h : ta σ H fun vs H1 => ∃ a xs, vs = [.ref a] ∧ SqL K H1 a xs ∧ R (Ite K a) H1) : iEnum K ta σ H R := h
theorem k_iZip {ta : TA} {R : It → Hp → Prop} (h : ta σ H fun vs H1 => ∃ a b xs ys, vs = [.ref a, .ref b] ∧ SqL K H1 a xs ∧ SqL K H1 b ys ∧ R (Itz K a b) H1) : iZip K ta σ H R := h
theorem kpi_enum {X : Cx} (K : PySem.W.Frag) {e : Expr} {ta : TA} {p pos tpos : Pos} {elts : List Expr} {kk : Nat} (hg : Gl X "enumerate") (hm : X.mg "enumerate" = none) (ha : PA X [e] ta) (hK : X.K = K := by rfl) (hs : starEach [e] X.env = [(false, eval e X.env)] := by rfl) :
    PI X (.Tuple elts kk tpos) (.Call (.Name "enumerate" p) [e] [] pos) (iEnum K ta) := by subst hK; exact pi_enum hg hm ha hs
end
def rJoin (K : PySem.W.Frag) (x : V) (y : V) (H : Hp) (Q : VK) : Prop := ∃ a p, ∃ ys : List Str, x = .str a ∧ [y] = [V.ref p] ∧ (SqL K H p (ys.map V.str) ∨ SqT K H p (ys.map V.str)) ∧ (ys.map (·.length)).sum + ys.length * a.length ≤ 16777216 ∧ Q (.str (Txt.join a ys)) H
def tJoinU (K : PySem.W.Frag) (to te : TE) : TE := fun σ H Q => to σ H fun x H1 => (∃ a, x = .str a) ∧ te σ H1 fun y H2 => rJoin K x y H2 Q
theorem kpe_join {X : Cx} (K : PySem.W.Frag) {o e : Expr} {to te : TE} {apos pos : Pos} (ho : PE X o to) (he : PE X e te) (hK : X.K = K := by rfl) (hs : starEach [e] X.env = [(false, eval e X.env)] := by rfl) (hbase : attributeBase o "join" X.env (eval o X.env) = eval o X.env := by rfl) (hline : (apos.endLine == pos.line) = true := by rfl) :
    PE X (.Call (.Attribute o "join" apos) [e] [] pos) (tJoinU K to te) := by subst hK; exact pe_join ho he hs hbase hline
theorem k_joinC {K : PySem.W.Frag} {σ : L2.St} {H : Hp} {Q : VK} {z : Str} {te : TE} (h : te σ H fun y H2 => rJoin K (.str z) y H2 Q) : tJoinU K (tC (.str z)) te σ H Q := ⟨⟨z, rfl⟩, h⟩
theorem k_joinL {K : PySem.W.Frag} {H : Hp} {Q : VK} {z : Str} {p : Addr} {ys : List Str} (h : SqL K H p (ys.map V.str)) (hz : (ys.map (·.length)).sum + ys.length * z.length ≤ 16777216) (k : ∀ out : Str, out = Txt.join z ys → Q (.str out) H) : rJoin K (.str z) (.ref p) H Q := ⟨z, p, ys, rfl, rfl, .inl h, hz, k _ rfl⟩
/-! ### f-strings, join -/
section
variable {σ : L2.St} {H : Hp} {te : TE}
theorem k_js {ts : List TE} {Q : VK} (h : tJs ts Str.empty σ H fun out H1 => Q (.str out) H1) : (fun (σ : L2.St) (H : Hp) (Q : VK) => tJs ts Str.empty σ H fun out H1 => Q (.str out) H1) σ H Q := h
theorem k_jsNil {acc : Str} {Q : Str → Hp → Prop} (h : Q acc H) : tJs [] acc σ H Q := h
theorem k_jsCons {ts : List TE} {acc : Str} {Q : Str → Hp → Prop} (h : te σ H fun x H1 => ∃ y : Str, x = .str y ∧ (acc ++ y).length ≤ sizeLine ∧ tJs ts (acc ++ y) σ H1 Q) : tJs (te :: ts) acc σ H Q := h
theorem k_jsV {acc z : Str} {P : Str → Prop} (h : (acc ++ z).length ≤ 1000000) (k : P z) : ∃ y : Str, V.str z = .str y ∧ (acc ++ y).length ≤ sizeLine ∧ P y := ⟨z, rfl, small_size h, k⟩
def rFmt (x : V) (H : Hp) (Q : VK) : Prop := (∃ y : Str, x = .str y ∧ y.length ≤ sizeLine ∧ Q (.str y) H) ∨ ∃ i : Int, x = .int i ∧ i.natAbs.log2 < 1920 ∧ Q (.str (toString i)) H
theorem k_fmt {Q : VK} (h : te σ H fun x H1 => rFmt x H1 Q) : tFmt te σ H Q := h
theorem k_fmtS {z : Str} {Q : VK} (h : z.length ≤ 1000000) (k : Q (.str z) H) : rFmt (.str z) H Q := .inl ⟨z, rfl, small_size h, k⟩
theorem k_fmtI {i : Int} {Q : VK} (h : i.natAbs < 2 ^ 64) (k : Q (.str (toString i)) H) : rFmt (.int i) H Q := .inr ⟨i, rfl, log_text (k := 64) (by decide) h, k⟩
theorem k_str1 {i : Int} {Q : VK} (h : i.natAbs < 2 ^ 64) (k : Q (.str (toString i)) H) : rStr1 [.int i] H Q := ⟨i, rfl, log_text (k := 64) (by decide) h, k⟩
end
theorem len_empty : Str.empty.length = 0 := by decide +kernel

/-! ### what changes one object alone -/
def SameBut (a : Addr) (H H' : Hp) : Prop := ∀ b o, b ≠ a → H b = some o → H' b = some o
theorem SameBut.refl (a : Addr) (H : Hp) : SameBut a H H := fun _ _ _ h => h
theorem SameBut.trans {a : Addr} {H H1 H2 : Hp} (x : SameBut a H H1) (y : SameBut a H1 H2) : SameBut a H H2 := fun b o n h => y b o n (x b o n h)
theorem SameBut.of {a : Addr} {H H' : Hp} (x : Same H H') : SameBut a H H' := fun b o _ h => x b o h
theorem SameBut.put {a : Addr} {H H' : Hp} {o : HO} (x : SameBut a H H') : SameBut a H (upd H' a o) := fun b u n h => by
  rw [upd_ne n]
  exact x b u n h
/-- the object was new: all is as it was -/
theorem SameBut.made {x dx : Addr} {H H' : Hp} {C : Addr} {fs : List (Str × V)} (hx : H x = none) (hd : H dx = none) (ne : dx ≠ x) (s : SameBut x (upd (upd H dx (.own x)) x (.ins C dx fs)) H') : Same H H' := fun b o h => by
  have n1 : b ≠ x := ne_of_none h hx
  have n2 : b ≠ dx := ne_of_none h hd
  exact s b o n1 (by rw [upd_ne n1, upd_ne n2]; exact h)
theorem cc_look {cc : Addr} : List.lookup ("__class__" : Str) [(("__class__" : Str), cc)] = some cc := by
  rw [List.lookup_cons]
  simp
end Kit

/-! Sup: methods of the program's own classes that say super().m(..): the def closes over its class. -/
namespace Kit
open PySem PySem.Spec PyProof.Rows L2

structure SupAt (K : PySem.W.Frag) (C D f2 : Addr) (name : Str) : Prop where
  sub : PySem.W.mroIn K C (.ref D) = some true
  m : PySem.W.ks_superIn K C D name = some (some (.ref f2))
  fn : PySem.W.fnIn K f2 = true
  ty : PySem.W.typeIn K (.ref f2) = some (.type "function")
structure SupDef (P : Program) (K : PySem.W.Frag) (mg : Str → Option Value) (f D cc cda : Addr) (sf : Str) : Prop where
  fn : ∃ oc od fd osl ar, K.lookup f = some ⟨oc, od, .func fd, osl⟩ ∧ (fd.params.posonlyargs ++ fd.params.args).head? = some ar ∧ ar.arg = sf
  code : ∃ ccl cdd vs ccs file tf, K.lookup cda = some ⟨ccl, cdd, .fields vs, ccs⟩ ∧ vs[2]? = some (.str file tf) ∧ ((P.main.file : Str) == file) = true
  cell : ∃ cl cld csl, K.lookup cc = some ⟨cl, cld, .cell (some (.ref D)), csl⟩
  cls : ∃ cdD, PySem.W.clsIn K D = some cdD
  sup : mg "super" = none
  top : (P.main.scope.names.lookup ("super" : Str)).isSome = false
  st : PySem.W.nsIn K cStatics "thirdparty.any" = some none

/-- a block, a statement, in the activation of the def whose whole body is told -/
structure PSA (X : Cx) (body sts : List Stmt) (t : TS) : Prop where
  go : ∀ (pins : List (Addr × Obj)) (s : Shared) (σ : L2.St) (H : Hp) (D : Ends), Inv X pins σ H s → t D σ H → PySem.wpAt (model X.prog X.w) X.A (.func body X.env) (execs sts X.env) (SP X pins D) X.xe s
structure PSt (X : Cx) (body : List Stmt) (st : Stmt) (t : TS) : Prop where
  go : ∀ (pins : List (Addr × Obj)) (s : Shared) (σ : L2.St) (H : Hp) (D : Ends), Inv X pins σ H s → t D σ H → PySem.wpAt (model X.prog X.w) X.A (.func body X.env) (exec st X.env) (SP X pins D) X.xe s
section
variable {X : Cx} {body rest sts : List Stmt} {st : Stmt} {t u : TS}
theorem psa_of (h : PSs X sts t) : PSA X body sts t := ⟨fun pins s σ H D I q => wpAt_of_wpAny (h.run pins s σ H D I q)⟩
theorem pst_of (h : PS X st t) : PSt X body st t := ⟨fun pins s σ H D I q => wpAt_of_wpAny (h.run pins s σ H D I q)⟩
theorem psa_cons (h1 : PSt X body st t) (h2 : PSA X body rest u) : PSA X body (st :: rest) (tSeq t u) := by
  refine ⟨fun pins s σ H D I q => ks_wpAt_execs_cons (ks_wpAt_mono (h1.go pins s σ H _ I q) (fun fl s' hf => ?_) fun _ _ z => z)⟩
  cases fl with
  | next =>
    obtain ⟨σ', H', I', q'⟩ := hf
    exact h2.go pins s' σ' H' D I' q'
  | ret v => exact hf
  | brk => exact hf
  | cont => exact hf
theorem psa_one (h1 : PSt X body st t) : PSA X body [st] t := by
  refine ⟨fun pins s σ H D I q => ks_wpAt_execs_cons (ks_wpAt_mono (h1.go pins s σ H _ I q) (fun fl s' hf => ?_) fun _ _ z => z)⟩
  cases fl with
  | next => exact wpAt_of_wpAny (wpAny_execs_nil hf)
  | ret v => exact hf
  | brk => exact hf
  | cont => exact hf

/-- super().m(e, ..) as a statement; self in the first slot -/
def tSup (K : PySem.W.Frag) (D : Addr) (name : Str) (f2 : Addr) (sp : Sp) (dvs : List V) (E : XK) (ta : TA) : TS := fun B σ H => ∃ a C dx fs, σ[0]? = some (some (V.ref a)) ∧ H a = some (.ins C dx fs) ∧ SupAt K C D f2 name ∧
  ∀ q, H q = none → ta σ (upd H q (.met f2 a)) fun vs H1 => H1 q = some (.met f2 a) ∧ sp (.ref a :: (vs ++ dvs)) H1 (fun _ H2 => B.nx σ H2) E
theorem pst_super {f D cc cda f2 : Addr} {self name : Str} {e : Expr} {es : List Expr} {ta : TA} {sp : Sp} {dvs : List V} {ds : List Value} {E : XK} {CX : CXT} {k : Nat} {fd2 : FuncData} {ps : List Str} {p0 p1 apos pos spos : Pos} {pl : Sem Bool}
    (S : SupDef X.prog X.K X.mg f D cc cda self) (hfu : X.env.func = some f) (hco : X.env.code = .ref cda) (hks : X.env.kindOf "super" = some .globalImplicit) (hkc : X.env.kindOf "__class__" = some .free) (hcc : X.env.cells.lookup ("__class__" : Str) = some cc)
    (hN : X.N[0]? = some self) (hv : X.env.scope.names.lookup self = some .local) (hn : (name == ("__class__" : Str)) = false)
    (F : FnOk X.prog X.w X.K X.mg X.base CX k f2 fd2 ps sp) (hr : Room k X.A) (hb : Binds X.K fd2 ps ds) (hd : Vals dvs ds) (hx : Passes CX X E) (ha : PA X (e :: es) ta)
    (hs : swapsWith (.Call (.Attribute (.Call (.Name "super" p0) [] [] p1) name apos) (e :: es) [] pos) none spos.line X.env = pure false := by rfl)
    (he0 : eval (.Call (.Attribute (.Call (.Name "super" p0) [] [] p1) name apos) (e :: es) [] pos) X.env = (do
      let ov ← attributeBase (.Call (.Name "super" p0) [] [] p1) name X.env (eval (.Call (.Name "super" p0) [] [] p1) X.env)
      standAt apos.atName
      let (f, first) ← holding [ov] (getMethod ov name pl)
      callWith pos f first (backTo pos (starEach (e :: es) X.env)) []) := by rfl)
    (he : starEach (e :: es) X.env = (false, eval e X.env) :: starEach es X.env := by rfl) (hpl : (backTo pos (starEach es X.env)).any (·.1) = false := by rfl) :
    PSt X body (.Expr (.Call (.Attribute (.Call (.Name "super" p0) [] [] p1) name apos) (e :: es) [] pos) spos) (tSup X.K D name f2 sp dvs E ta) := by
  refine ⟨fun pins s σ H B I h => ?_⟩
  obtain ⟨a, C, dx, fs, hσ, hH, SA, q⟩ := h
  obtain ⟨oc, od, fd, osl, ar, lkf, hhead, har⟩ := S.fn
  obtain ⟨ccl, cdd, vs, ccs, file, tf, lkc, hvs, hfile⟩ := S.code
  obtain ⟨cl, cld, csl, lkcell⟩ := S.cell
  obtain ⟨cdD, hD⟩ := S.cls
  have KI := I.kIn
  obtain ⟨mA, OM, _⟩ := ins_get I.hok hH
  obtain ⟨odx, IA, _⟩ := OM.look
  obtain ⟨oD, hD1, hD2⟩ : ∃ oD, s.heap.get? D = some oD ∧ oD.data = .cls cdD := by
    unfold PySem.W.clsIn at hD
    split at hD
    · rename_i c d cd' sl ho
      cases hD
      exact ⟨_, KI _ _ ho, rfl⟩
    · cases hD
  obtain ⟨m, hns, hloc⟩ := I.loc
  obtain ⟨u, ru, lk⟩ := hloc 0 self (.ref a) hN hσ (.inl hv)
  cases ru
  have hself : m self = some (.ref a) := by
    rcases lk with ⟨_, z⟩ | ⟨z, _⟩
    · exact z
    · have z' : X.env.scope.names.lookup self = some .cell ∨ X.env.scope.names.lookup self = some .free := z
      rw [hv] at z'
      rcases z' with z' | z' <;> cases z'
  refine ks_wpAt_Expr_any ?_ I.quiet hs
  refine ks_wpAt_MethodCall ?_ he0
  refine ks_wpAt_super_base (env := X.env) hks hkc hn hfu (KI _ _ lkf) rfl hhead hco (KI _ _ lkc) rfl hvs hfile S.top ?_
  obtain ⟨mb, hb1, hb2⟩ := I.mod.blt
  refine PySem.W.ks_loadName_global I.ok.kind hks (Calls.loadGlobal_builtin (by rw [I.ok.glob]; exact I.mod.glob.keeps I.bk) S.sup (by rw [I.ok.blt]; exact hb1.keeps I.bk) ((hb2 "super" (by decide)).trans (show bootBuiltins "super" = some (.type "super") by decide +kernel)) ⟨rfl, ?_⟩)
  refine wpAny_loadName_free I.ok.kind hkc hcc ⟨_, KI _ _ lkcell, rfl⟩ ?_
  rw [har]
  refine wpAny_loadName_local I.ok.kind hv hns hself ?_
  refine ks_wpAny_isType_cls hD1 hD2 ⟨rfl, ?_⟩
  obtain ⟨hp, g, dr, tk, os⟩ := s
  refine ks_wpAny_call_super hD1 hD2 IA.at_ IA.cls (fun c e => ?_) (PySem.W.looks_mroIn KI SA.sub) (fun h' e k => ?_)
  · have z := IA.no
    unfold PySem.W.notCls at z
    rw [e] at z
    exact Bool.noConfusion z
  have I1 : Inv X pins σ H ⟨h', g, dr, tk, os⟩ := I.kept (t' := tk) k
  have KI1 := I1.kIn
  have hm := SA.m
  unfold PySem.W.ks_superIn at hm
  obtain ⟨cd, hc⟩ : ∃ cd, PySem.W.clsIn X.K C = some cd := by
    cases hc : PySem.W.clsIn X.K C with
    | none => rw [hc] at hm; cases hm
    | some cd => exact ⟨cd, rfl⟩
  rw [hc] at hm
  obtain ⟨of, lof, hofc⟩ : ∃ of, X.K.lookup f2 = some of ∧ of.cls = .type "function" := by
    have ht' : (X.K.lookup f2).map (·.cls) = some (.type "function") := SA.ty
    cases z : X.K.lookup f2 with
    | none => rw [z] at ht'; cases ht'
    | some of => rw [z] at ht'; exact ⟨of, rfl, Option.some.inj ht'⟩
  refine ks_wpAny_getMethod_super e (PySem.W.looks_opaque KI1 S.st) (l₀ := cd.mro) ?_ rfl KI1 hm (KI1 _ _ lof) hofc (PySem.W.ks_ne KI IA hc) hn ?_
  · exact fun A Q E s k q => wpAny_bind ((PySem.W.looks_clsIn KI1 hc) A _ E s k (wpAny_pure q))
  have nq : H h'.objs.size = none := I1.hok.fresh (Nat.le_refl _)
  have hq0 : (h'.push { cls := .type "method", data := .fields #[.ref f2, .ref a] }).get? h'.objs.size = some (PySem.W.methodObj (.ref f2) (.ref a)) := Heap.get?_push_at rfl rfl
  have I2 : Inv X pins σ (upd H h'.objs.size (.met f2 a)) ⟨h'.push { cls := .type "method", data := .fields #[.ref f2, .ref a] }, g, dr, tk + 1, os⟩ :=
    I1.laid (t' := tk + 1) (a := h'.objs.size) (o := .met f2 a) (h' := h'.push { cls := .type "method", data := .fields #[.ref f2, .ref a] }) (fun b o e => Heap.get?_push_of_some _ e) (Nat.le_refl _) hq0
  have hq := q h'.objs.size nq
  generalize h'.objs.size = qa at *
  refine PySem.W.callWith_of (P := fun h => PySem.W.MethP X.K qa f2 (.ref a) h) (by rw [he]; show ((false || (backTo pos (starEach es X.env)).any (·.1)) || false) = false; rw [hpl]; rfl) (PySem.W.keeps_M SA.fn) ?_
  rw [he]
  refine PySem.Calls.evalArgs_plain ?_
  have hrun := ha.run pos pins _ σ _ _ I2 hq
  rw [he] at hrun
  refine thn hrun fun us s1 ⟨ws, H1, I3, r1, hqm, hsp⟩ => ?_
  have hmo : s1.heap.get? qa = some (PySem.W.methodObj (.ref f2) (.ref a)) := I3.hok qa _ hqm
  refine ⟨⟨hmo, I3.kIn⟩, wpAny_call (ks_codeAny_call_bound hmo ?_)⟩
  have r2 : Vals (V.ref a :: (ws ++ dvs)) (Value.ref a :: (us ++ ds)) := .cons rfl (r1.append hd)
  have hl : (Value.ref a :: us ++ ds).length = ps.length := by
    have e := r2.length
    rw [F.len _ _ _ _ hsp] at e
    exact e.symm
  refine codeAny_mono (F.run X.A X.stack s1 H1 ⟨Value.ref a :: us, []⟩ (Value.ref a :: (us ++ ds)) _ _ E hr I3.env0 (hb _ (Value.ref a :: us) I3.kIn hl) r2 hsp) fun r s' hq' => ?_
  cases r with
  | error er => exact hx pins σ H1 s1 er s' I3 hq'
  | ok fl =>
    cases fl with
    | ret v =>
      obtain ⟨x, H2, I4, rx, q4⟩ := I3.after hq'
      exact ⟨σ, H2, I4, q4⟩
    | next => exact False.elim hq'
    | brk => exact False.elim hq'
    | cont => exact False.elim hq'
end

theorem kpst_super (K : PySem.W.Frag) {f D cc cda f2 : Addr} {self name : Str} {e : Expr} {es : List Expr} {ta : TA} {sp : Sp} {dvs : List V} {ds : List Value} {E : XK} {CX : CXT} {k : Nat} {fd2 : FuncData} {ps : List Str} {p0 p1 apos pos spos : Pos} {pl : Sem Bool}
    (S : SupDef X.prog X.K X.mg f D cc cda self) (hfu : X.env.func = some f) (hco : X.env.code = .ref cda) (hks : X.env.kindOf "super" = some .globalImplicit) (hkc : X.env.kindOf "__class__" = some .free) (hcc : X.env.cells.lookup ("__class__" : Str) = some cc)
    (hN : X.N[0]? = some self) (hv : X.env.scope.names.lookup self = some .local) (hn : (name == ("__class__" : Str)) = false)
    (F : FnOk X.prog X.w X.K X.mg X.base CX k f2 fd2 ps sp) (hr : Room k X.A) (hb : Binds X.K fd2 ps ds) (hd : Vals dvs ds) (hx : Passes CX X E) (ha : PA X (e :: es) ta) (hK : X.K = K := by rfl)
    (hs : swapsWith (.Call (.Attribute (.Call (.Name "super" p0) [] [] p1) name apos) (e :: es) [] pos) none spos.line X.env = pure false := by rfl)
    (he0 : eval (.Call (.Attribute (.Call (.Name "super" p0) [] [] p1) name apos) (e :: es) [] pos) X.env = (do
      let ov ← attributeBase (.Call (.Name "super" p0) [] [] p1) name X.env (eval (.Call (.Name "super" p0) [] [] p1) X.env)
      standAt apos.atName
      let (f, first) ← holding [ov] (getMethod ov name pl)
      callWith pos f first (backTo pos (starEach (e :: es) X.env)) []) := by rfl)
    (he : starEach (e :: es) X.env = (false, eval e X.env) :: starEach es X.env := by rfl) (hpl : (backTo pos (starEach es X.env)).any (·.1) = false := by rfl) :
    PSt X body (.Expr (.Call (.Attribute (.Call (.Name "super" p0) [] [] p1) name apos) (e :: es) [] pos) spos) (tSup K D name f2 sp dvs E ta) := by
  subst hK
  exact pst_super S hfu hco hks hkc hcc hN hv hn F hr hb hd hx ha hs he0 he hpl
theorem k_sup {K : PySem.W.Frag} {D0 f2 a C dx : Addr} {name : Str} {sp : Sp} {dvs : List V} {E : XK} {ta : TA} {B : Ends} {σ : L2.St} {H : Hp} {fs : List (Str × V)} (h0 : σ[0]? = some (some (V.ref a))) (h1 : H a = some (.ins C dx fs)) (h2 : SupAt K C D0 f2 name)
    (k : ∀ q H', H q = none → H' = upd H q (.met f2 a) → Same H H' → H' q = some (.met f2 a) → ta σ H' fun vs H1 => H1 q = some (.met f2 a) ∧ sp (.ref a :: (vs ++ dvs)) H1 (fun _ H2 => B.nx σ H2) E) : tSup K D0 name f2 sp dvs E ta B σ H :=
  ⟨a, C, dx, fs, h0, h1, h2, fun q nq => k q _ nq rfl (same_new nq) upd_same⟩
theorem PSA.nox {X : Cx} {body sts : List Stmt} {t : TS} (h : PSA X.nox body sts t) : PSA X body sts t := ⟨fun pins s σ H D I hw =>
  ks_wpAt_mono (h.go pins s σ H D (I.wish _) hw) (fun _ _ q => q.unwish) fun _ _ z => False.elim z⟩

/-- a method that closes over its class, as it stands behind the top -/
structure FunS (K : PySem.W.Frag) (x qual : Str) (st : Stmt) (f : Addr) (fd : FuncData) (cc cda : Addr) : Prop where
  ex : ∃ (oc : Value) (od : Option Addr) (kV doc pm : Value) (an : Option Addr) (ct : Value) (osl : Array (Option Value)),
    fd = PySem.W.fnX x qual (defArgs st) (defBody st) (defScope st) [("__class__", cc)] .none kV doc pm an (.ref cda) ct ∧ K.lookup f = some ⟨oc, od, .func fd, osl⟩ ∧ PySem.W.codeIn K (.ref cda) qual = true
  kp : PySem.W.keepIn K (.ref f) = true
section
variable {P : Program} {w : World} {K : PySem.W.Frag} {mg : Str → Option Value} {base : Heap}
theorem funS_mk {x qual : Str} {st : Stmt} {f cc cda : Addr} {oc : Value} {od an : Option Addr} {osl : Array (Option Value)} {kV doc pm ct : Value} (l : K.lookup f = some ⟨oc, od, .func (PySem.W.fnX x qual (defArgs st) (defBody st) (defScope st) [("__class__", cc)] .none kV doc pm an (.ref cda) ct), osl⟩)
    (c : PySem.W.codeIn K (.ref cda) qual = true) (k : PySem.W.keepIn K (.ref f) = true) : FunS K x qual st f (PySem.W.fnX x qual (defArgs st) (defBody st) (defScope st) [("__class__", cc)] .none kV doc pm an (.ref cda) ct) cc cda := ⟨⟨oc, od, kV, doc, pm, an, ct, osl, rfl, l, c⟩, k⟩
theorem FunS.binds {x qual : Str} {st : Stmt} {f cc cda : Addr} {fd : FuncData} {ps : List Str} (F : FunS K x qual st f fd cc cda)
    (h : ∀ (kV doc pm : Value) (an : Option Addr) (ct : Value) (us : List Value), us.length = ps.length → bindArgs (PySem.W.fnX x qual (defArgs st) (defBody st) (defScope st) [("__class__", cc)] .none kV doc pm an (.ref cda) ct) ⟨us, []⟩ = pure (ps.zip us)) : Binds K fd ps [] := by
  obtain ⟨oc, od, kV, doc, pm, an, ct, osl, rfl, lk, hcd⟩ := F.ex
  exact .all (h kV doc pm an ct)
abbrev nfS (x qual : Str) (st : Stmt) (cc cda : Addr) : NdefX.NF := ⟨x, qual, defArgs st, defBody st, defScope st, [("__class__", cc)], cda⟩
theorem FunS.ok {x qual : Str} {st : Stmt} {f cc cda D0 : Addr} {fd : FuncData} {N ps : List Str} {k : Nat} {sp : Sp} {cl : Value} {cld : Option Addr} {csl : Array (Option Value)} (F : FunS K x qual st f fd cc cda) (S : NdefX.NScope N ps ["__class__"] (defScope st))
    (hcell : K.lookup cc = some ⟨cl, cld, .cell (some (.ref D0)), csl⟩) (hbn : Binds K fd ps []) (len : ∀ vs H Q E, sp vs H Q E → vs.length = ps.length)
    (hbody : ∀ (A : Around) (outer : List Env) (s : Shared) (H : Hp) (vs : List V) (Q : VK) (E : XK), Room k (A.deeper (NdefX.envF (nfS x qual st cc cda) f s.heap.objs.size)) → sp vs H Q E →
      ∃ t, PSA (NdefX.ncx CX0 P w K mg base N (nfS x qual st cc cda) f A outer s H E).nox (defBody st) (defBody st) t ∧ t { nx := fun _ H' => Q .non H', rt := Q } (NdefX.startF N vs [some (.ref D0)]) H) :
    FnOk P w K mg base CX0 (k + 1) f fd ps sp := by
  obtain ⟨oc, od, kV, doc, pm, an, ct, osl, efd, lk, hcd⟩ := F.ex
  refine ⟨len, fun A outer s H args us vs Q E hr e0 hb r hsp => ?_⟩
  have hl := len _ _ _ _ hsp
  have KB := e0.mod.kin
  have KX : K.In s.heap := KB.keeps fun b o e => (e0.bs b o e).1
  have lim : s.heap.NoLimit := e0.mod.nolimit.keeps fun b o e => (e0.bs b o e).1
  have hc1 := e0.bs _ _ (KB _ _ hcell)
  have CA : NdefX.CellsAt [("__class__", cc)] ["__class__"] [some (.ref D0)] s.heap H := by
    have key : ∀ y c, List.lookup y [(("__class__" : Str), cc)] = some c → y = "__class__" ∧ c = cc := fun y c e => by
      rw [List.lookup_cons] at e
      by_cases hy : y = "__class__"
      · subst hy
        simp at e
        exact ⟨rfl, e.symm⟩
      · have : (y == ("__class__" : Str)) = false := by simpa using hy
        rw [this] at e
        cases e
    refine ⟨rfl, fun y c e => ?_, fun x y c e1 e2 => ((key x c e1).1).trans ((key y c e2).1).symm, fun i y e => ?_⟩
    · obtain ⟨rfl, rfl⟩ := key y c e
      exact ⟨hc1.2, _, _, hc1.1, rfl⟩
    · have hi : i = 0 := by
        have := (List.getElem?_eq_some_iff.mp e).1
        simp at this
        exact this
      subst hi
      have ey : ("__class__" : Str) = y := Option.some.inj e
      subst ey
      refine ⟨cc, by simp, fun v ev => ?_⟩
      have ev' : V.ref D0 = v := Option.some.inj (Option.some.inj ev)
      subst ev'
      exact ⟨.ref D0, rfl, _, hc1.1, rfl⟩
  subst efd
  refine codeAny_call_function hr.depth (KX _ _ lk) rfl S.co S.gen rfl (PySem.W.codeRec_of KX hcd) (hb _ _ _ _ ?_)
  refine wpAny_newFunctionEnv S.nocell (fun ⟨n, _⟩ hy => S.par n (List.of_mem_zip hy).1) (fun h₁ hns hsb => ⟨lim.fresh _ hsb, ?_⟩) S.kind
  show codeAny _ _ (.func (defBody st) (NdefX.envF (nfS x qual st cc cda) f s.heap.objs.size)) _ _
  have kp : ∀ b o, s.heap.get? b = some o → h₁.get? b = some o := fun b o e => hsb.extBut b o (Nat.ne_of_lt (Heap.lt_size e)) (Heap.get?_push_of_some _ e)
  obtain ⟨t, ht, hq⟩ := hbody A outer s H vs Q E (hr.deeper _) hsp
  have I : Inv (NdefX.ncx CX0 P w K mg base N (nfS x qual st cc cda) f A outer s H E) [] (NdefX.startF N vs [some (.ref D0)]) H { s with heap := h₁, toks := s.toks + (ps.zip us).length } :=
    NdefX.inv_startN (F := nfS x qual st cc cda) S hr.hd e0 hl r CA hns kp
  refine ks_codeAny_funcAt (ks_wpAt_mono (ht.nox.go [] _ _ H _ I hq) (fun fl s' hs => ?_) fun e s' hs => hs)
  have fin : ∀ {σ' : L2.St} {H' : Hp} {v : V} {u : Value}, Inv (NdefX.ncx CX0 P w K mg base N (nfS x qual st cc cda) f A outer s H E) [] σ' H' s' → L2.RelV v u → Q v H' → CE outer P w H s Q u s' :=
    fun {σ' H' v u} J rv q => ⟨v, H', J.os, J.bare, J.base, J.hok, rv, q⟩
  cases fl with
  | ret u =>
    obtain ⟨v, σ', H', J, rv, q⟩ := hs
    exact fin J rv q
  | next =>
    obtain ⟨σ', H', J, q⟩ := hs
    exact fin (v := V.non) (u := Value.none) J rfl q
  | brk =>
    obtain ⟨_, _, _, q⟩ := hs
    exact False.elim q
  | cont =>
    obtain ⟨_, _, _, q⟩ := hs
    exact False.elim q
end

/-! ### methods found by the instance's own class -/
/-- for an instance of C the method m keeps sp -/
def Disp (X : Cx) (CX : CXT) (k : Nat) (m : Str) (R : Addr → Sp → Prop) : Prop :=
  ∀ C sp, R C sp → ∃ g fd ps, Cls X.K C ∧ Meth X.K C m g ∧ FnOk X.prog X.w X.K X.mg X.base CX k g fd ps sp ∧ Binds X.K fd ps []
def tMethP (R : Addr → Sp → Prop) (m : Str) (E : XK) (ta : TE) (t : TA) : TE := fun σ H Q => ta σ H fun x H1 => ∃ a C dx fs sp, x = V.ref a ∧ H1 a = some (.ins C dx fs) ∧ R C sp ∧ fs.lookup m = none ∧ t σ H1 fun vs H2 => sp (x :: vs) H2 Q E
section
variable {X : Cx} {CX : CXT} {k : Nat} {m : Str} {R : Addr → Sp → Prop} {E : XK} {o e : Expr} {es : List Expr} {ta : TE} {t : TA} {apos pos : Pos} {pl : Sem Bool}
theorem kpe_methP (hR : Disp X CX k m R) (hr : Room k X.A) (hx : Passes CX X E) (he : PE X o ta) (ha : PA X (e :: es) t)
    (hst : starEach (e :: es) X.env = (false, eval e X.env) :: starEach es X.env := by rfl) (hpl : (backTo pos (starEach es X.env)).any (·.1) = false := by rfl)
    (ht : eval (.Call (.Attribute o m apos) (e :: es) [] pos) X.env = (do
      let ov ← eval o X.env
      standAt apos.atName
      let (f, first) ← holding [ov] (getMethod ov m pl)
      callWith pos f first (backTo pos (starEach (e :: es) X.env)) (backToKw pos (keywordEach [] X.env))) := by rfl) :
    PE X (.Call (.Attribute o m apos) (e :: es) [] pos) (tMethP R m E ta t) := by
  refine ⟨fun pins s σ H Q I h => PySem.W.methodCall_KW (pl := pl) (thn (he.run pins s σ H _ I h) fun u s1 hu => ?_) ht⟩
  obtain ⟨x, H1, I1, rx, a, C, dx, fs, sp, ex, ea, hRC, l, q⟩ := hu
  subst ex
  obtain rfl : u = Value.ref a := rx
  obtain ⟨g, fd, ps, c, hm, F, hb⟩ := hR C sp hRC
  refine getmeth_ok I1 ea c hm l (PySem.W.callWith_K (first := [.ref a]) (h₀ := X.base) I.ok.mod.kin hm.kp (thn (ha.run pos pins s1 σ H1 _ I1 q) fun us s2 hv => ?_) hst hpl)
  obtain ⟨vs, H2, I2, r, q2⟩ := hv
  exact ⟨I2.kIn, run_fn (us := .ref a :: us) (vs := .ref a :: vs) (dvs := []) (ds := []) F hr hb .nil hx I2 (.cons rfl r) (by rw [List.append_nil]; exact q2)⟩
theorem kpe_methP0 (hR : Disp X CX k m R) (hr : Room k X.A) (hx : Passes CX X E) (he : PE X o ta)
    (ht : eval (.Call (.Attribute o m apos) [] [] pos) X.env = (do
      let ov ← eval o X.env
      standAt apos.atName
      let (f, first) ← holding [ov] (getMethod ov m pl)
      callWith pos f first (backTo pos (starEach [] X.env)) (backToKw pos (keywordEach [] X.env))) := by rfl) :
    PE X (.Call (.Attribute o m apos) [] [] pos) (tMethP R m E ta tNil) := by
  refine ⟨fun pins s σ H Q I h => PySem.W.methodCall_KW (pl := pl) (thn (he.run pins s σ H _ I h) fun u s1 hu => ?_) ht⟩
  obtain ⟨x, H1, I1, rx, a, C, dx, fs, sp, ex, ea, hRC, l, q⟩ := hu
  subst ex
  obtain rfl : u = Value.ref a := rx
  obtain ⟨g, fd, ps, c, hm, F, hb⟩ := hR C sp hRC
  refine getmeth_ok I1 ea c hm l (PySem.W.callWith_K0 (first := [.ref a]) I1.kIn hm.kp ?_)
  exact run_fn (us := [.ref a]) (vs := [.ref a]) (dvs := []) (ds := []) F hr hb .nil hx I1 (.cons rfl .nil) q
/-- an instance called -/
def DispC (X : Cx) (CX : CXT) (k : Nat) (R : Addr → Sp → Prop) : Prop :=
  ∀ C sp, R C sp → ∃ g fd ps, StX.CallO X.K C g ∧ FnOk X.prog X.w X.K X.mg X.base CX k g fd ps sp ∧ Binds X.K fd ps []
def tCallP (R : Addr → Sp → Prop) (E : XK) (tf : TE) (t : TA) : TE := fun σ H Q => tf σ H fun y H1 => ∃ a C sp, y = V.ref a ∧ R C sp ∧ t σ H1 fun vs H2 => (∃ dx fs, H2 a = some (.ins C dx fs)) ∧ sp (V.ref a :: vs) H2 Q E
theorem kpe_callP {fe : Expr} {tf : TE} (hR : DispC X CX k R) (hr : Room k X.A) (hx : Passes CX X E) (hf : PE X fe tf) (ha : PA X (e :: es) t)
    (ht : eval (.Call fe (e :: es) [] pos) X.env = (do callWith pos (← eval fe X.env) [] (backTo pos (starEach (e :: es) X.env)) (backToKw pos (keywordEach [] X.env))) := by rfl)
    (he : starEach (e :: es) X.env = (false, eval e X.env) :: starEach es X.env := by rfl) (hpl : (backTo pos (starEach es X.env)).any (·.1) = false := by rfl) : PE X (.Call fe (e :: es) [] pos) (tCallP R E tf t) := by
  refine ⟨fun pins s σ H Q I h => Call_ (thn (hf.run pins s σ H _ I h) fun u s1 hu => ?_) ht⟩
  obtain ⟨y, H1, I1, ry, a, C, sp, ey, hRC, q⟩ := hu
  subst ey
  obtain rfl : u = Value.ref a := ry
  obtain ⟨g, fd, ps, c, F, hb⟩ := hR C sp hRC
  refine StX.callO_with (thn (ha.run pos pins s1 σ H1 _ I1 q) fun us s2 hv => ?_) he hpl
  obtain ⟨vs, H2, I2, r, hi, q2⟩ := hv
  obtain ⟨ox, od, J, hd⟩ := StX.insC_at I2 (.inr hi)
  refine ⟨⟨C, ox, od, J, hd⟩, ?_⟩
  have r2 : Vals (V.ref a :: vs) (Value.ref a :: us) := .cons rfl r
  have hl : (Value.ref a :: us).length = ps.length := by rw [← r2.length]; exact F.len _ _ _ _ q2
  refine wpAny_call (PySem.W.kco_code I2.kIn J hd c.at_ c.fn c.fi (codeAny_mono (F.run X.A X.stack s2 H2 ⟨Value.ref a :: us, []⟩ (Value.ref a :: us) (V.ref a :: vs) Q E hr I2.env0 ?_ r2 q2) fun res s' hq => ?_))
  · have z := hb s2 (Value.ref a :: us) I2.kIn (by rw [List.append_nil]; exact hl)
    rw [List.append_nil] at z
    exact z
  · cases res with
    | error er => exact hx pins σ H2 s2 er s' I2 hq
    | ok fl =>
      cases fl with
      | ret v => exact I2.after hq
      | next => exact False.elim hq
      | brk => exact False.elim hq
      | cont => exact False.elim hq
end

/-- what isinstance asks of an own class -/
structure ClsTy (K : PySem.W.Frag) (C : Addr) : Prop where
  cl : Cls K C
  ha : PySem.W.findIn K (.ref C) "__class__" = some (some (.builtin "object.__class__"))
  hn : PySem.W.specialIn K (.builtin "object.__class__") "__get__" = some (some (.builtin "getset_descriptor.__get__"))
  htk : PySem.W.takesIn K (.builtin "object.__class__") = some true
  hm : PySem.W.mroIn K C (.type "object") = some true
theorem ty_own {K : PySem.W.Frag} {H : Hp} {a C dx : Addr} {fs : List (Str × V)} (c : ClsTy K C) (e : H a = some (.ins C dx fs)) : TyX K H (.ref a) (.ref C) := .base (.ins e c.cl c.ha c.hn c.htk c.hm)
end Kit

namespace Kit
open PySem PySem.Spec PyProof.Rows L2
/-! ### super().__init__(..) in an own exception's __init__ -/
/-- a built-in __init__ bound to the object that is being made -/
def mwo (u a : Addr) : HO := .ext fun h => h.get? u = some (PySem.W.kxs_mw "ValueError.__init__" a)
structure SupAtE (K : PySem.W.Frag) (C D : Addr) : Prop where
  oex : OexC K C
  sub : PySem.W.mroIn K C (.ref D) = some true
  m : PySem.W.ks_superIn K C D "__init__" = some (some (.builtin "ValueError.__init__"))
  hB : PySem.W.subIn K (.ref C) (.type "ValueError") = some true
section
variable {prog : Program} {w : World} {A : Around} {E : Value → Shared → Prop} {h : Heap} {g : Array GenState} {dr : Drawn} {t : Nat} {os : OsState}
theorem call_mwE {K : PySem.W.Frag} {C a u t1 : Addr} {us : List Value} {Q : Value → Shared → Prop} (KX : K.In h) (T : OexC K C) (hu : h.get? u = some (PySem.W.kxs_mw "ValueError.__init__" a))
    (ha : h.get? a = some ({ cls := .ref C, dict := none, data := .fields #[.ref t1, .none, .none, .none, .bool false, .none] } : Obj)) (hl : us.length ≤ sizeLine)
    (hq : ∀ h' t2, (∀ b o, b ≠ a → h.get? b = some o → h'.get? b = some o) → h'.get? a = some (PySem.HandSPX.excO C t2) → Q .none ⟨h', g, dr, t, os⟩) : wpAny (model prog w) A (call (.ref u) us) Q E ⟨h, g, dr, t, os⟩ := by
  obtain ⟨nm, q, N, bs, bm, sn, sub, ab, col, dd, k0, k1, k2, k3, k5, hC, hbm⟩ := T.cls
  refine wpAny_call (codeAny_of_tree ?_)
  show wpAny (model prog w) A.in1 (callAny (.ref u) { pos := us, kw := [] }) _ _ _
  simp only [callAny]
  refine wpAny_bind (wpAny_load hu ?_)
  simp only [PySem.W.kxs_mw, show ((Value.type "method-wrapper" == Value.type "method") || (Value.type "method-wrapper" == Value.type "builtin_function_or_method") || (Value.type "method-wrapper" == Value.type "method-wrapper")) = true by decide, if_true]
  refine PySem.W.KFB.if_so (by decide) ?_
  refine wpAny_bind (PySem.W.check_bound_init F.excBase_ValueError.toExcCallFacts (KX _ _ hC) ha rfl ?_)
  refine wpAny_bind (wpAny_pure (wpAny_pure ?_))
  refine ⟨plainId_quiet F.excBase_ValueError.init.plain _, codeAny_builtin F.excBase_ValueError.initEntry ?_⟩
  wp_walk
  refine hq _ h.objs.size (fun c oc nc gc => ?_) ?_
  · rw [Heap.get?_update_other _ _ fun e => nc e.symm]; exact Heap.get?_push_of_some _ gc
  · rw [Heap.get?_update_self _ (Heap.get?_push_of_some _ ha) rfl]; rfl
end
section
variable {X : Cx} {body : List Stmt}
def tSupE (K : PySem.W.Frag) (D : Addr) (ta : TA) : TS := fun B σ H => ∃ a C, σ[0]? = some (some (V.ref a)) ∧ H a = some (exo a C none) ∧ SupAtE K C D ∧
  ∀ q, H q = none → ta σ (upd H q (mwo q a)) fun vs H1 => vs.length ≤ 1000 ∧ H1 q = some (mwo q a) ∧ H1 a = some (exo a C none) ∧ B.nx σ H1
theorem mwo_ok {P : Program} {w : World} {H : Hp} {h : Heap} {u a : Addr} (hu : h.get? u = some (PySem.W.kxs_mw "ValueError.__init__" a)) : ObjOk P w H h u (mwo u a) := ⟨hu, ⟨_, hu⟩, fun h1 h2 z k => k _ z⟩
theorem mwo_at {P : Program} {w : World} {H : Hp} {h : Heap} {u a : Addr} (hok : HOk P w H h) (e : H u = some (mwo u a)) : h.get? u = some (PySem.W.kxs_mw "ValueError.__init__" a) := by
  have z : ObjOk P w H h u (.ext fun h => h.get? u = some (PySem.W.kxs_mw "ValueError.__init__" a)) := hok u _ e
  exact z.1
theorem pst_supE {f D cc cda : Addr} {self : Str} {e : Expr} {es : List Expr} {ta : TA} {p0 p1 apos pos spos : Pos} {pl : Sem Bool}
    (S : SupDef X.prog X.K X.mg f D cc cda self) (hfu : X.env.func = some f) (hco : X.env.code = .ref cda) (hks : X.env.kindOf "super" = some .globalImplicit) (hkc : X.env.kindOf "__class__" = some .free) (hcc : X.env.cells.lookup ("__class__" : Str) = some cc)
    (hN : X.N[0]? = some self) (hv : X.env.scope.names.lookup self = some .local) (ha : PA X (e :: es) ta)
    (hs : swapsWith (.Call (.Attribute (.Call (.Name "super" p0) [] [] p1) "__init__" apos) (e :: es) [] pos) none spos.line X.env = pure false := by rfl)
    (he0 : eval (.Call (.Attribute (.Call (.Name "super" p0) [] [] p1) "__init__" apos) (e :: es) [] pos) X.env = (do
      let ov ← attributeBase (.Call (.Name "super" p0) [] [] p1) "__init__" X.env (eval (.Call (.Name "super" p0) [] [] p1) X.env)
      standAt apos.atName
      let (f, first) ← holding [ov] (getMethod ov "__init__" pl)
      callWith pos f first (backTo pos (starEach (e :: es) X.env)) []) := by rfl)
    (he : starEach (e :: es) X.env = (false, eval e X.env) :: starEach es X.env := by rfl) (hpl : (backTo pos (starEach es X.env)).any (·.1) = false := by rfl) :
    PSt X body (.Expr (.Call (.Attribute (.Call (.Name "super" p0) [] [] p1) "__init__" apos) (e :: es) [] pos) spos) (tSupE X.K D ta) := by
  refine ⟨fun pins s σ H B I h => ?_⟩
  obtain ⟨a, C, hσ, hH, SA, q⟩ := h
  obtain ⟨oc, od, fd, osl, ar, lkf, hhead, har⟩ := S.fn
  obtain ⟨ccl, cdd, vs, ccs, file, tf, lkc, hvs, hfile⟩ := S.code
  obtain ⟨cl, cld, csl, lkcell⟩ := S.cell
  obtain ⟨cdD, hD⟩ := S.cls
  have KI := I.kIn
  obtain ⟨t1, hget⟩ := exo_at I.hok hH
  have IA : PySem.W.InstAt s.heap a _ C none := ⟨hget, rfl, rfl, trivial⟩
  obtain ⟨oD, hD1, hD2⟩ : ∃ oD, s.heap.get? D = some oD ∧ oD.data = .cls cdD := by
    unfold PySem.W.clsIn at hD
    split at hD
    · rename_i c d cd' sl ho
      cases hD
      exact ⟨_, KI _ _ ho, rfl⟩
    · cases hD
  obtain ⟨m, hns, hloc⟩ := I.loc
  obtain ⟨u, ru, lk⟩ := hloc 0 self (.ref a) hN hσ (.inl hv)
  cases ru
  have hself : m self = some (.ref a) := by
    rcases lk with ⟨_, z⟩ | ⟨z, _⟩
    · exact z
    · have z' : X.env.scope.names.lookup self = some .cell ∨ X.env.scope.names.lookup self = some .free := z
      rw [hv] at z'
      rcases z' with z' | z' <;> cases z'
  refine ks_wpAt_Expr_any ?_ I.quiet hs
  refine ks_wpAt_MethodCall ?_ he0
  refine ks_wpAt_super_base (env := X.env) hks hkc (by decide) hfu (KI _ _ lkf) rfl hhead hco (KI _ _ lkc) rfl hvs hfile S.top ?_
  obtain ⟨mb, hb1, hb2⟩ := I.mod.blt
  refine PySem.W.ks_loadName_global I.ok.kind hks (Calls.loadGlobal_builtin (by rw [I.ok.glob]; exact I.mod.glob.keeps I.bk) S.sup (by rw [I.ok.blt]; exact hb1.keeps I.bk) ((hb2 "super" (by decide)).trans (show bootBuiltins "super" = some (.type "super") by decide +kernel)) ⟨rfl, ?_⟩)
  refine wpAny_loadName_free I.ok.kind hkc hcc ⟨_, KI _ _ lkcell, rfl⟩ ?_
  rw [har]
  refine wpAny_loadName_local I.ok.kind hv hns hself ?_
  refine ks_wpAny_isType_cls hD1 hD2 ⟨rfl, ?_⟩
  obtain ⟨hp, g, dr, tk, os⟩ := s
  refine ks_wpAny_call_super hD1 hD2 IA.at_ IA.cls (fun c e => ?_) (PySem.W.looks_mroIn KI SA.sub) (fun h' e k => ?_)
  · have z := IA.no
    unfold PySem.W.notCls at z
    rw [e] at z
    exact Bool.noConfusion z
  have I1 : Inv X pins σ H ⟨h', g, dr, tk, os⟩ := I.kept (t' := tk) k
  have KI1 := I1.kIn
  obtain ⟨t2, hget2⟩ := exo_at I1.hok hH
  have IB : PySem.W.InstAt h' a _ C none := ⟨hget2, rfl, rfl, trivial⟩
  have hm := SA.m
  unfold PySem.W.ks_superIn at hm
  obtain ⟨cd, hc⟩ : ∃ cd, PySem.W.clsIn X.K C = some cd := by
    cases hc : PySem.W.clsIn X.K C with
    | none => rw [hc] at hm; cases hm
    | some cd => exact ⟨cd, rfl⟩
  rw [hc] at hm
  refine PySem.W.kxs_getMethod PySem.W.kxs_ValueError e (PySem.W.looks_opaque KI1 S.st) (l₀ := cd.mro) ?_ rfl KI1 hm (IB.type.andThen (PySem.W.looks_subIn KI1 SA.hB)) (PySem.W.ks_ne KI IA hc) (by decide) ?_
  · exact fun A Q E s k q => wpAny_bind ((PySem.W.looks_clsIn KI1 hc) A _ E s k (wpAny_pure q))
  have nq : H h'.objs.size = none := I1.hok.fresh (Nat.le_refl _)
  have hq0 : (h'.push (PySem.W.kxs_mw "ValueError.__init__" a)).get? h'.objs.size = some (PySem.W.kxs_mw "ValueError.__init__" a) := Heap.get?_push_at rfl rfl
  have I2 : Inv X pins σ (upd H h'.objs.size (mwo h'.objs.size a)) ⟨h'.push (PySem.W.kxs_mw "ValueError.__init__" a), g, dr, tk + 1, os⟩ :=
    I1.laid (t' := tk + 1) (a := h'.objs.size) (o := mwo h'.objs.size a) (h' := h'.push (PySem.W.kxs_mw "ValueError.__init__" a)) (fun b o e => Heap.get?_push_of_some _ e) (Nat.le_refl _) (mwo_ok hq0)
  have hq := q h'.objs.size nq
  generalize h'.objs.size = qa at *
  rw [he]
  refine PySem.W.kxs_callWith (i := "ValueError.__init__") (x := a) (by show (false || (backTo pos (starEach es X.env)).any (·.1)) = false; rw [hpl]; rfl) ?_
  refine PySem.Calls.evalArgs_plain ?_
  have hrun := ha.run pos pins _ σ _ _ I2 hq
  rw [he] at hrun
  refine thn hrun fun us s1 ⟨ws, H1, I3, r1, hlen, hqm, hqa, hsp⟩ => ?_
  have hmo := mwo_at I3.hok hqm
  refine ⟨hmo, ?_⟩
  obtain ⟨t3, hget3⟩ := exo_at I3.hok hqa
  have hus : us.length ≤ sizeLine := by
    rw [← Paired.length r1, sizeLine_eq]
    omega
  obtain ⟨hp3, g3, dr3, tk3, os3⟩ := s1
  refine call_mwE I3.kIn SA.oex hmo hget3 hus fun h4 t4 k4 e4 => ?_
  have J := I3.write (t' := tk3) (x := a) (e := a) (o := exo a C none) (by rw [hqa]; exact True.intro) (.inl rfl) k4 ⟨_, e4⟩ (exo_ok e4)
  have eu : upd H1 a (exo a C none) = H1 := by
    funext b
    by_cases hb : b = a
    · rw [hb, upd_same, hqa]
    · rw [upd_ne hb]
  rw [eu] at J
  exact ⟨σ, H1, J, hsp⟩
end
/-! ### several except clauses, each with a name -/
abbrev endA (i : Nat) (D : Ends) : Ends := { nx := fun τ G => D.nx (τ.set i none) G, rt := D.rt, bk := fun τ G => D.bk (τ.set i none) G, ct := fun τ G => D.ct (τ.set i none) G }
abbrev ClA : Type := Value × Nat × (Addr → Value → Option Addr → TS)
def wManyA (K : PySem.W.Frag) (Wo : WX) (D : Ends) : List ClA → WX
  | [] => Wo
  | (c, i, ts) :: r => fun cls d τ G => ∃ hit, PySem.W.exmOne K cls c = some hit ∧ (hit = true → ∀ a, G a = none → ts a cls d (endA i D) (τ.set i (some (.ref a))) G) ∧ (hit = false → wManyA K Wo D r cls d τ G)
inductive HdsA (X : Cx) : List ExceptHandler → List ClA → Prop
  | nil : HdsA X [] []
  | cons {x n : Str} {c : Value} {i : Nat} {ts : Addr → Value → Option Addr → TS} {b0 : Stmt} {sts : List Stmt} {np ps : Pos} {hds : List ExceptHandler} {l : List ClA} (hi : X.N[i]? = some n) (hln : X.env.kindOf n = some .local) (hc : Names X x c)
      (hsu : ∀ (a : Addr) (oe : Obj) (cls : Value) (d : Option Addr) (pn : List (Addr × Obj)), Zc cls d oe → (∃ vs, oe.data = .fields vs) → PSs (X.suite a ((a, oe) :: pn)) (b0 :: sts) (ts a cls d)) (r : HdsA X hds l) :
      HdsA X (.ExceptHandler (some (.Name x np)) (some n) (b0 :: sts) ps :: hds) ((c, i, ts) :: l)
section
variable {X : Cx} {body : List Stmt} {h0 : ExceptHandler} {hds : List ExceptHandler} {l : List ClA} {pos : Pos} {tb : WX → TS} {Wo : WX}
theorem ps_try_manyA (est : X.stack = X.env :: X.outer) (efr : X.env.frame = some X.env.locals) (hN : X.N.Nodup) (tk : Takes X Wo)
    (hbd : ∀ (W : WX) (pn : List (Addr × Obj)) (xe : Value → Shared → Prop), Takes (X.tr pn xe) W → PassesOwn (model X.prog X.w) X.A X.env xe → PSs (X.tr pn xe) body (tb W))
    (hh : HdsA X (h0 :: hds) l) : PS X (.Try body (h0 :: hds) [] [] pos) (fun D σ H => tb (wManyA X.K Wo D l) D σ H) := by
  refine ⟨fun pins s0 σ H D I h => ?_⟩
  have okX := I.ok
  have frX : X.A.frames = some (X.env :: X.outer) := by rw [okX.frames, est]
  refine wpAny_Try_except ?_
  refine wpAny_mono ((hbd (wManyA X.K Wo D l) (X.pn ++ pins) (fun e s₁ => wpAny (model X.prog X.w) X.A (noteFrame e X.env) (fun _ s₂ => wpAny (model X.prog X.w) X.A (setFlight e none) (fun _ s₃ =>
    wpAny (model X.prog X.w) X.A (handleBy e X.env (h0 :: hds)) (SP X pins D) X.xe s₃) X.xe s₂) X.xe s₁) (fun u sE xx => ?_) PassesOwn.looking).run [] s0 σ H D (I.toTry _) h) (fun f s1 spf => ?_) (fun e s1 q => q)
  · obtain ⟨a, B, sJ, pin2, τ, G, cls, d, rfl, JT, nb, up, sky, na, os, ag, w⟩ := xx
    have J : Inv X pins τ G sJ := JT.ofTry okX
    have skyX : Sky B (X.env :: X.outer) a (Zc cls d) X.env.locals sE.heap := by rw [← est]; exact sky
    show wpAny (model X.prog X.w) X.A (noteFrame (.ref a) X.env) _ _ _
    refine Sky.land Zc.steady frX efr skyX fun h3 w3 up3 => ?_
    have J3 : Inv X pins τ G { sE with heap := h3 } := J.landed nb w3.1 (up.trans up3) os ag
    obtain ⟨o3, vs3, ge3, gz3, gd3⟩ := w3.there
    have far : ∀ {h : Heap} {o : Obj} {vs : Array Value}, h.FunFrames B (X.env :: X.outer) → h.get? a = some o → o.data = .fields vs → a ∉ frs (X.env :: X.outer) := fun {h o vs} ff e dd hm => by
      obtain ⟨_, o2, e2, hne⟩ := ff.mem hm
      rw [e] at e2; cases e2; exact hne _ dd
    have nfX := far w3.2.2.1 ge3 gd3
    have nLX : a ≠ X.env.locals := fun z => nfX (List.mem_filterMap.mpr ⟨X.env, List.mem_cons_self, by rw [efr, z]⟩)
    have nFX : a ∉ X.fs := fun hm => by
      obtain ⟨e, hem, q⟩ := List.mem_filterMap.mp hm
      exact nfX (List.mem_filterMap.mpr ⟨e, List.mem_cons_of_mem _ hem, q⟩)
    have S3 := J3.suite ge3 gd3 na nLX nFX
    have go : ∀ {hs : List ExceptHandler} {cl : List ClA}, HdsA X hs cl → wManyA X.K Wo D cl cls d τ G → wpAny (model X.prog X.w) X.A (handleBy (.ref a) X.env hs) (SP X pins D) X.xe { sE with heap := h3 } := by
      intro hs cl hk
      induction hk with
      | nil =>
        intro w
        refine wpAny_handleBy_nil ?_
        obtain ⟨k1, k2, k3, oe, vs, TT, oT, tsT, heT, hzT, hdT, h1T, hrT⟩ := id w3
        unfold PySem.passOn
        refine wpAny_bind (wpAny_field heT hdT h1T ?_)
        rw [if_neg (show ¬ ((Value.ref TT == Value.none) = true) from by simp)]
        have thrown : wpAny (model X.prog X.w) X.A (setFlight (.ref a) X.env.frame) (fun _ s4 => wpAny (model X.prog X.w) X.A (throw (.ref a) : Sem Flow) (SP X pins D) X.xe s4) X.xe { sE with heap := h3 } := by
          rw [efr]
          refine HandSPX.setFlight_upZ w3 fun h4 hh4 up4 => wpAny_throw (tk _ _ ?_)
          exact ⟨a, B, sJ, pins, τ, G, cls, d, rfl, J, nb, (up.trans up3).trans up4, .inr (.inr (by rw [est]; exact hh4)), na, os, ag, w⟩
        first | exact wpAny_bind (wpAny_pure (wpAny_bind thrown)) | exact wpAny_bind thrown
      | @cons x n c i ts b0 sts np ps hds2 l2 hi hln hc hsu r ih =>
        intro w
        obtain ⟨hit, hb1, hyes, hno⟩ := w
        refine wpAny_handleBy_cons (codeAny_handlers_test ?_) (by intro q; cases q)
        have LT : PySem.W.Looks (model X.prog X.w) h3 (typeOf (.ref a)) cls := fun A Q E s k q => wpAny_typeOf_ref (k _ _ ge3) (by rw [gz3.1]; exact q)
        have LM := PySem.W.exm_one (M := model X.prog X.w) (J3.kIn) LT hb1
        have tst : ∀ {Q : Value → Shared → Prop} {E : Value → Shared → Prop}, Q c { sE with heap := h3 } → wpAny (model X.prog X.w) (X.A.mark (some (.ref a))) (eval (.Name x np) X.env) Q E { sE with heap := h3 } := fun {Q E} q => by
          obtain ⟨hg, hdbg, hm | ⟨hm, hv, hnn⟩⟩ := hc
          · exact ld_glob (X := X.suite a ((a, o3) :: (X.pn ++ pins))) S3 hg hm q hdbg
          · exact ld_blt (X := X.suite a ((a, o3) :: (X.pn ++ pins))) S3 hg hm hv q hnn hdbg
        refine tst (LM.here ?_)
        cases hit with
        | false =>
          show wpAny (model X.prog X.w) X.A (handleBy (.ref a) X.env hds2) _ _ _
          exact ih (hno rfl)
        | true =>
          refine codeAny_handlers_suite_as ?_
          refine HandSPX.lands_againZ w3 fun h4 w4 up4 => ?_
          have J4 : Inv X pins τ G { sE with heap := h4 } := J.landed nb w4.1 ((up.trans up3).trans up4) os ag
          obtain ⟨o4, vs4, ge4, gz4, gd4⟩ := w4.there
          have S4 := J4.suite ge4 gd4 na nLX nFX
          refine store_ok (X := X.suite a ((a, o4) :: (X.pn ++ pins))) (v := .ref a) S4 hN hi (.inl hln) rfl (fun s5 S5 => ?_) (.inr hln)
          refine wpAny_mono ((hsu a o4 cls d (X.pn ++ pins) gz4 ⟨_, gd4⟩).run [] s5 _ G _ S5 (hyes rfl a na)) (fun f s6 sp6 => ?_) (fun _ _ z => False.elim z)
          have fin : ∀ {σ6 : L2.St} {H6 : Hp} {Q : Shared → Prop}, Inv (X.suite a ((a, o4) :: (X.pn ++ pins))) [] σ6 H6 s6 → (∀ s7, Inv X pins (σ6.set i none) H6 s7 → Q s7) →
              wpAny (model X.prog X.w) X.A (do bindName X.env n .none; unbindBehindTheSuite X.env n ps) (fun _ s7 => Q s7) X.xe s6 := fun {σ6 H6 Q} S6 hq => gone_ok (S6.unsuite okX) hN hi hln hq
          cases f with
          | ret u =>
            obtain ⟨v6, σ6, H6, S6, r6, q6⟩ := sp6
            exact fin S6 fun s7 J7 => ⟨_, _, _, J7, r6, q6⟩
          | next => obtain ⟨σ6, H6, S6, q6⟩ := sp6; exact fin S6 fun s7 J7 => ⟨_, _, J7, q6⟩
          | brk => obtain ⟨σ6, H6, S6, q6⟩ := sp6; exact fin S6 fun s7 J7 => ⟨_, _, J7, q6⟩
          | cont => obtain ⟨σ6, H6, S6, q6⟩ := sp6; exact fin S6 fun s7 J7 => ⟨_, _, J7, q6⟩
    exact go hh w
  · cases f with
    | ret u =>
      obtain ⟨v, τ, G, JT, r, q⟩ := spf
      exact ⟨v, τ, G, JT.ofTry okX, r, q⟩
    | next => obtain ⟨τ, G, JT, q⟩ := spf; exact wpAny_execs_nil ⟨τ, G, JT.ofTry okX, q⟩
    | brk => obtain ⟨τ, G, JT, q⟩ := spf; exact ⟨τ, G, JT.ofTry okX, q⟩
    | cont => obtain ⟨τ, G, JT, q⟩ := spf; exact ⟨τ, G, JT.ofTry okX, q⟩
end
/-! ### keywords alone; wishes at the caller's slots -/
section
variable {X : Cx} {CX : CXT} {k : Nat} {f : Addr} {fd : FuncData} {ps ks : List Str} {sp : Sp} {E : L2.St → XK} {x : Str} {p pos : Pos} {kws : List Keyword} {tk : TA}
def tCallKS (sp : Sp) (gV : List V → List V → List V) (E : L2.St → XK) (tk : TA) : TE := fun σ H Q => tk σ H fun zs H2 => sp (gV [] zs) H2 Q (E σ)
theorem pe_callKS {g : List Value → List Value → List Value} {gV : List V → List V → List V} (Fn : FnOk X.prog X.w X.K X.mg X.base CX k f fd ps sp) (hr : Room k X.A) (hg : Gl X x) (hm : X.mg x = some (.ref f)) (hk : PySem.W.keepIn X.K (.ref f) = true) (hb : KBinds X.K fd ps ks g gV) (hx : ∀ σ, PassesAt CX X σ (E σ))
    (hkw : PK X kws tk) (hall : (backToKw pos (keywordEach kws X.env)).all (·.1.isSome) = true := by rfl) (hks : (backToKw pos (keywordEach kws X.env)).filterMap (·.1) = ks := by rfl) (hdb : (x == ("__debug__" : Str)) = false := by decide)
    (hpl : ((backTo pos (starEach [] X.env)).any (·.1) || (backToKw pos (keywordEach kws X.env)).any (·.1.isNone)) = false := by rfl) : PE X (.Call (.Name x p) [] kws pos) (tCallKS sp gV E tk) := by
  refine ⟨fun pins s σ H Q I h => ?_⟩
  refine wpAny_Call_Name_kw (ld_glob I hg hm ?_ hdb)
  refine PySem.W.callWith_KW0 (h₀ := X.base) I.ok.mod.kin hk hall ?_ hpl
  refine thn (hkw.run pos pins s σ H _ I h) fun ws s2 ⟨zs, H2, I2, rz, q2⟩ => ⟨I2.kIn, ?_⟩
  rw [hks]
  have r2 := hb.rel (vs := []) (us := []) .nil rz
  have hl : (g [] ws).length = ps.length := by rw [← r2.length]; exact Fn.len _ _ _ _ q2
  refine wpAny_call (codeAny_mono (Fn.run X.A X.stack s2 H2 ⟨[], ks.zip ws⟩ (g [] ws) (gV [] zs) Q (E σ) hr I2.env0 (hb.to s2 [] ws I2.kIn hl) r2 q2) fun r s' q3 => ?_)
  cases r with
  | ok fl => cases fl with
    | ret u => exact I2.after q3
    | next => exact False.elim q3
    | brk => exact False.elim q3
    | cont => exact False.elim q3
  | error e => exact hx σ pins H2 s2 e s' I2 q3
theorem pass0At {X : Cx} {E : L2.St → XK} : ∀ σ, PassesAt CX0 X σ (E σ) := fun _ _ _ _ _ _ _ h => h.elim
theorem k_callKS {gV : List V → List V → List V} {σ : L2.St} {H : Hp} {Q : VK} (h : tk σ H fun zs H2 => sp (gV [] zs) H2 Q (E σ)) : tCallKS sp gV E tk σ H Q := h
end
theorem exm_selfE {K : PySem.W.Frag} {S D : Addr} {hit : Bool} (h1 : PySem.W.subIn K (.ref D) (.type "BaseException") = some true) (h2 : PySem.W.isClsIn K D = true) (h3 : PySem.W.typeIn K (.ref D) = some (.type "type")) (h4 : PySem.W.subIn K (.ref S) (.ref D) = some hit) : PySem.W.exmOne K (.ref S) (.ref D) = some hit := by
  have a1 : (PySem.W.subIn K (.ref D) (.type "BaseException") == some true) = true := by rw [h1] <;> rfl
  have a2 : ((PySem.W.clsIn K D).isSome && PySem.W.typeIn K (.ref D) == some (.type "type")) = true := by
    have b2 : (PySem.W.clsIn K D).isSome = true := h2
    rw [b2, h3] <;> rfl
  show (if (PySem.W.subIn K (.ref D) (.type "BaseException") == some true) = true then (if ((PySem.W.clsIn K D).isSome && PySem.W.typeIn K (.ref D) == some (.type "type")) = true then PySem.W.subIn K (.ref S) (.ref D) else none) else none) = some hit
  rw [if_pos a1, if_pos a2]
  exact h4
/-! ### readings -/
section
variable {σ : L2.St} {H : Hp} {D : Ends} {K : PySem.W.Frag}
theorem k_supE {D0 a C : Addr} {ta : TA} {B : Ends} (h0 : σ[0]? = some (some (V.ref a))) (h1 : H a = some (exo a C none)) (h2 : SupAtE K C D0) (k : ∀ q, H q = none → ta σ (upd H q (mwo q a)) fun vs H1 => vs.length ≤ 1000 ∧ H1 q = some (mwo q a) ∧ H1 a = some (exo a C none) ∧ B.nx σ H1) : tSupE K D0 ta B σ H := ⟨a, C, h0, h1, h2, k⟩
theorem k_ost {f : Str} {to te : TE} (h : te σ H fun y H1 => to σ H1 fun x H2 => ∃ a C : Addr, x = .ref a ∧ OexC K C ∧ PySem.W.findIn K (.ref C) f = some none ∧
  ((H2 a = some (exo a C none) ∧ ∀ dx, H2 dx = none → dx ≠ a → D.nx σ (upd (upd H2 dx (exd dx [(f, y)])) a (exo a C (some dx)))) ∨
    ∃ (dx : Addr) (fs : List (Str × V)), H2 a = some (exo a C (some dx)) ∧ H2 dx = some (exd dx fs) ∧ fs.length ≤ 900 ∧ D.nx σ (upd H2 dx (exd dx ((f, y) :: fs))))) : tOst K f to te D σ H := h
theorem k_callS {sp : Sp} {E : L2.St → XK} {t : TA} {Q : VK} (h : t σ H fun vs H1 => sp vs H1 Q (E σ)) : tCallS sp E t σ H Q := h
end
end Kit

namespace Law
open PySem PySem.Spec PyProof.Rows L2 Kit
local macro_rules | `(tactic| walk_at "kb") => `(tactic| first | exact kb_int_int | exact kb_int_bool | exact kb_int_str | exact kb_int_list | exact kb_int_tuple | exact kb_int_dict | exact kb_bool_int | exact kb_bool_bool | exact kb_bool_str | exact kb_bool_list | exact kb_bool_tuple | exact kb_bool_dict | exact kb_str_int | exact kb_str_bool | exact kb_str_str | exact kb_str_list | exact kb_str_tuple | exact kb_str_dict | exact kb_NoneType_int | exact kb_NoneType_bool | exact kb_NoneType_str | exact kb_NoneType_list | exact kb_NoneType_tuple | exact kb_NoneType_dict | exact kb_list_int | exact kb_list_bool | exact kb_list_str | exact kb_list_list | exact kb_list_tuple | exact kb_list_dict | exact kb_tuple_int | exact kb_tuple_bool | exact kb_tuple_str | exact kb_tuple_list | exact kb_tuple_tuple | exact kb_tuple_dict | exact kb_dict_int | exact kb_dict_bool | exact kb_dict_str | exact kb_dict_list | exact kb_dict_tuple | exact kb_dict_dict)
local macro_rules | `(tactic| walk_at "size") => `(tactic| first | assumption | (show (_ : Nat) ≤ sizeLine; exact small_size (by first | decide | omega | (simp; omega))) | (show (_ : Nat) < sizeLine; exact small_lt (by first | decide | omega | (simp; omega))))
local macro_rules | `(tactic| walk_at "here") => `(tactic| first | assumption | exact upd_same | (refine up_get (by assumption) ?_; walk_at "here") | (refine Eq.trans (upd_ne (by assumption)) ?_; walk_at "here"))
local macro_rules | `(tactic| walk_at "same") => `(tactic| first | assumption | exact Same.refl _ | exact same_new (by assumption) | (refine Same.trans ?_ (same_new (by assumption)); walk_at "same") | (refine Same.trans ?_ (by assumption); walk_at "same"))
local macro_rules | `(tactic| walk_at "none") => `(tactic| first | assumption | (refine Eq.trans (upd_ne ?_) ?_ <;> first | assumption | walk_at "none"))
local macro_rules | `(tactic| walk_at "ty") => `(tactic| first | exact TyX.base (.int _) | exact TyX.base (.str _) | exact TyX.base .non | exact TyX.base (.bl _) | exact TyX.base (.tup (by walk_at "here")) | exact TyX.base (.lst (by walk_at "here")) | exact TyX.base (.dK (by walk_at "here")))
local macro_rules | `(tactic| walk_at "s") => `(tactic| first
  | (with_reducible refine k_seq ?_) | (with_reducible refine k_op ?_)
  | ((with_reducible show tVar _ _ _ _); refine k_var rfl ?_)
  | (with_reducible refine k_c ?_) | (with_reducible refine k_cons ?_) | (with_reducible refine k_nil ?_)
  | (with_reducible refine k_asg ?_) | (with_reducible refine k_gName ?_) | (with_reducible refine k_drop ?_) | (with_reducible refine k_ret ?_)
  | (with_reducible refine k_ifS ?_) | (with_reducible refine k_test ?_) | (with_reducible refine k_bl ?_) | (with_reducible refine k_CB ?_) | (with_reducible refine k_call ?_)
  | (with_reducible refine k_addI ?_) | (with_reducible refine k_I0 ?_) | (with_reducible refine k_eqI ?_) | (with_reducible refine k_neI ?_)
  | ((with_reducible show rI _ _ _ _ _ _); (refine k_I ?c ?_; (case c => first | decide | omega | (show (0 : Int) < _ ∧ _; omega) | (show (0 : Int) ≤ _ ∧ _; omega) | (show (_ ∧ _) ∨ _; omega) | assumption)))
  | (with_reducible refine k_U ?_) | (with_reducible refine k_int1 ?_) | (with_reducible refine k_max2 ?_) | (with_reducible refine k_min2 ?_)
  | (with_reducible refine k_t ?_) | (with_reducible refine k_t' ?_) | (with_reducible refine k_f' ?_) | (with_reducible refine k_o1 ?_) | (with_reducible refine k_o2 ?_) | (with_reducible refine k_o3 ?_) | (with_reducible refine k_o4 ?_) | (with_reducible refine k_o5 ?_) | (with_reducible refine k_o6 ?_) | (with_reducible refine k_chain ?_) | (with_reducible refine k_f ?_)
  | (with_reducible refine k_and ?_) | (with_reducible refine k_or ?_) | (with_reducible refine k_not ?_) | (with_reducible refine k_if ?_) | (with_reducible refine k_B ?_)
  | (with_reducible refine k_andV ?_) | (with_reducible refine k_orV ?_) | (with_reducible refine k_notV ?_) | (with_reducible refine k_un ?_)
  | (with_reducible refine k_gSub ?_) | (with_reducible refine k_par ?_) | (with_reducible refine k_pair ?_) | (with_reducible refine k_sl ?_) | (with_reducible refine k_noPart ?_) | (with_reducible refine k_part ?_) | (with_reducible refine k_int ?_)
  | (with_reducible refine k_fld ?_) | (with_reducible refine k_putF ?_) | ((with_reducible show (_ ≤ sizeLine) ∧ _); refine k_disp (Nat.le_of_ble_eq_true rfl) ?_) | (with_reducible refine k_jsCons ?_) | (with_reducible refine k_jsNil ?_) | (with_reducible refine k_fmt ?_) | (with_reducible refine k_gCons ?_) | (with_reducible refine k_gNil ?_) | (with_reducible refine k_iEnum ?_) | (with_reducible refine k_joinC ?_) | ((with_reducible show gTup _ _ _ (V.ref _) _ _ _); refine' k_gTup (SqT.of ?h) ?hl ?_; (case h => walk_at "here"); (case hl => rfl)) | (with_reducible refine k_for ?_) | (with_reducible refine k_iList ?_) | (with_reducible refine k_iTup ?_) | (with_reducible refine k_rng1 ?_) | (with_reducible refine k_rng2 ?_) | (with_reducible refine k_lc ?_) | (with_reducible refine k_yes ?_) | (with_reducible refine k_next ?_) | (with_reducible refine k_break ?_) | (with_reducible refine k_cont ?_) | (with_reducible refine k_retN ?_)
  | ((with_reducible show tTup _ _ _ _); refine k_tup ?_) | ((with_reducible show tLst _ _ _ _); refine k_lst ?_)
  | ((with_reducible show rLenU _ [V.ref _] _ _); (first | (refine' k_lenL (SqL.of ?h) ?_; (case h => walk_at "here")) | (refine' k_lenL ?h ?_; (case h => assumption)) | (refine' k_lenT (SqT.of ?h) ?_; (case h => walk_at "here"))))
  | ((with_reducible show rIsi _ [_, V.ty _] _ _); (refine' k_isi ?t ?h ?_; (case t => walk_at "ty"); (case h => walk_at "kb")))
  | ((with_reducible show rIsiT _ [_, V.ref _] _ _); (refine' k_isiT ?p ?t ?h1 ?h2 ?_; (case p => walk_at "here"); (case t => walk_at "ty"); (case h1 => walk_at "kb"); (case h2 => walk_at "kb")))
  | ((with_reducible show rIx _ (V.ref _) (V.int _) _ _); (first | (refine' k_ixL (SqL.of ?h) ?a ?_; (case h => walk_at "here"); (case a => first | rfl | assumption)) | (refine' k_ixT (SqT.of ?h) ?a ?_; (case h => walk_at "here"); (case a => first | rfl | assumption))))
  | ((with_reducible show rSetL (V.ref _) (V.int _) _ (upd _ _ (HO.lst _)) _); (refine' k_setLu ?e ?ey ?_; (case e => rfl); (case ey => rfl)))
  | ((with_reducible show rSetL (V.ref _) (V.int _) _ _ _); (refine' k_setL ?h ?e ?_; (case h => walk_at "here"); (case e => first | rfl | assumption))))
local macro_rules | `(tactic| walk_at "ss") => `(tactic| (repeat walk_at "s"))
/-! ### a lambda handed to a def that calls it within a try, wishes at the slots of that call -/
section
open LamX
variable {X : Cx} {σ : L2.St} {H : Hp} {s : Shared} {pins : List (Addr × Obj)}
theorem pe_actA {Wc : CXT} {Ec : XK} {Nc : List Str} {qc : Str} {sc : Scope} {gc lf lc : Addr} {cdc pmv ctx : Value} {prm : Arguments} {bod : Expr} {lsc : Scope} {lev j : Nat} {nm : Str} {pns : List (Addr × Obj)} {xw : Value → Shared → Prop} {W : WX} {tb : XK → TE} {r1 r2 : Pos}
    (J : Inv X pins σ H s) (LS : LamS X.env.scope lsc) (atf : s.heap.get? lf = some (PySem.W.kla_obj "<lambda>" (X.env.qual ++ "<lambda>") prm bod lsc (cloFrom X.env.cells lsc.names []) pmv lc ctx)) (nof : H lf = none) (frf : lf ∉ frs X.stack)
    (bnd : bindArgs (PySem.W.kla_fn "<lambda>" (X.env.qual ++ "<lambda>") prm bod lsc (cloFrom X.env.cells lsc.names []) pmv (.ref lc) ctx) ⟨[], []⟩ = pure [])
    (tk : Takes ((cxOf Wc X.prog X.w X.K X.mg X.base Nc qc sc gc cdc X.A X.stack s H Ec).tr pns xw) W) (rm : Room (lev + 1) (X.A.deeper (envOfC qc sc s.heap.objs.size gc cdc)))
    (bok : ∀ (A : Around) (outer : List Env) (s' : Shared) (H' : Hp) (E : XK), Room lev (A.deeper (lamEnv X lsc s'.heap.objs.size lf lc)) → PE (lamCx X A outer s' H' E lsc lf lc) bod (tb E))
    (hN : Nc[j]? = some nm) (vis : Vis sc nm) (nd1 : (nm == ("__debug__" : Str)) = false := by decide) (nd2 : (nm == ("__classdict__" : Str)) = false := by decide) :
    PE ((cxOf Wc X.prog X.w X.K X.mg X.base Nc qc sc gc cdc X.A X.stack s H Ec).tr pns xw) (.Call (.Name nm r1) [] [] r2)
      (fun τ G Qz => τ[j]? = some (some (.ref lf)) ∧ G lc = some (CodeO lc (X.env.qual ++ "<lambda>")) ∧ tb (WE W τ) σ G Qz) := by
  refine ⟨fun pz z τ G Qz Iz hz => ?_⟩
  obtain ⟨hsl, hco, hrd⟩ := hz
  have hname := (pe_var (pos := r1) (i := j) hN vis nd1 nd2).run pz z τ G (fun v G1 => v = .ref lf ∧ G1 = G) Iz ⟨.ref lf, hsl, rfl, rfl⟩
  refine wpAny_Call_Name_kw (thn hname fun uv z1 ⟨v, G1, I1, rl, ev, eG⟩ => ?_)
  subst ev
  rw [eG] at I1
  obtain rfl : uv = Value.ref lf := rl
  have old : z1.heap.get? lf = some (PySem.W.kla_obj "<lambda>" (X.env.qual ++ "<lambda>") prm bod lsc (cloFrom X.env.cells lsc.names []) pmv lc ctx) := by
    refine I1.base.keep lf _ atf nof frf ?_
    intro zz
    exact nomatch (show lf ∈ ([] : List Addr) from zz)
  refine PySem.W.callWith_F0 ⟨_, _, _, _, old⟩ ?_
  have un : Un (frs X.stack) [] H G s.heap z1.heap := I1.base
  obtain ⟨⟨oc, fs, tkn, hoc, hdc, hvc⟩, _⟩ := I1.hok lc _ hco
  have go : codeAny (model X.prog X.w) (X.A.deeper (envOfC qc sc s.heap.objs.size gc cdc)) (.call (.ref lf) ⟨[], []⟩) (CR (L2.CX X.prog X.w) (envOfC qc sc s.heap.objs.size gc cdc :: X.stack) X.prog X.w G z1 Qz (WE W τ)) z1 := by
    refine PySem.W.kla_callFunE rm.depth old rfl LS.co LS.gen rfl ⟨lc, oc, fs, tkn, rfl, hoc, hdc, hvc⟩ ?_
    rw [bnd]
    refine wpAny_pure (wpAny_newFunctionEnv (fun y hy => (LS.own y hy).2) (fun y hy => absurd hy (by simp)) (fun h2 ns2 sb2 => ⟨I1.nolimit.fresh _ sb2, ?_⟩) LS.kind)
    show codeAny _ _ (.expr bod (lamEnv X lsc z1.heap.objs.size lf lc)) _ _
    have kept : ∀ b o, z1.heap.get? b = some o → h2.get? b = some o := by
      intro b o e
      exact sb2.extBut b o (Nat.ne_of_lt (Heap.lt_size e)) (Heap.get?_push_of_some _ e)
    have I2 : Inv (lamCx X (X.A.deeper (envOfC qc sc s.heap.objs.size gc cdc)) (envOfC qc sc s.heap.objs.size gc cdc :: X.stack) z1 G (WE W τ) lsc lf lc) [] σ G { z1 with heap := h2, toks := z1.toks + ([] : List (Str × Value)).length } :=
      lam_start2 J LS I1.env0 rm.hd un ns2 kept
    refine PySem.W.kla_codeExpr (wpAny_mono ((bok _ _ z1 G (WE W τ) (rm.deeper _)).run [] _ _ G Qz I2 hrd) (fun v s' hq => ?_) fun e s' hq => hq)
    obtain ⟨w2, G2, I3, rv, q⟩ := hq
    exact ⟨w2, G2, I3.os, I3.bare, I3.base, I3.hok, rv, q⟩
  refine wpAny_call (codeAny_mono go fun res s' hq => ?_)
  cases res with
  | error er => exact passAt tk τ pz G z1 er s' I1 hq
  | ok fl =>
    cases fl with
    | ret u => exact I1.after hq
    | next => exact False.elim hq
    | brk => exact False.elim hq
    | cont => exact False.elim hq
/-- what the def at g makes of the reading of the lambda that it is handed -/
def GivesA (X : Cx) (Nc : List Str) (x : Str) (sc : Scope) (g : Addr) (cdg : Value) (bg : List Stmt) (a q : Str) (TT : (XK → Hp → VK → Prop) → Hp → VK → Prop) : Prop :=
  ∀ (lf lc : Addr) (s : Shared) (H : Hp) (Q : VK) (tl : XK → Hp → VK → Prop),
    (∀ (W : WX) (pn : List (Addr × Obj)) (xe : Value → Shared → Prop) (r1 r2 : Pos), Takes ((cxOf CX0 X.prog X.w X.K X.mg X.base Nc x sc g cdg X.A X.stack s H E0).tr pn xe) W →
      PE ((cxOf CX0 X.prog X.w X.K X.mg X.base Nc x sc g cdg X.A X.stack s H E0).tr pn xe) (.Call (.Name a r1) [] [] r2) (fun τ G Qz => τ[0]? = some (some (.ref lf)) ∧ G lc = some (CodeO lc q) ∧ tl (WE W τ) G Qz)) →
    H lc = some (CodeO lc q) → TT tl H Q →
    ∃ t, PSs (cxOf CX0 X.prog X.w X.K X.mg X.base Nc x sc g cdg X.A X.stack s H E0).nox bg t ∧ t { nx := fun _ H' => Q .non H', rt := Q } (L2.start Nc [.ref lf]) H
/-- x(lambda: e) -/
theorem pe_lamA {T : List (Addr × Str)} {TT : (XK → Hp → VK → Prop) → Hp → VK → Prop} {x a : Str} {g c P : Addr} {k : Nat} {pg : Arguments} {bg : List Stmt} {sc : Scope} {dV kV doc pm cdv ct oc : Value} {an od : Option Addr} {osl : Array (Option Value)} {Nc : List Str}
    {prm : Arguments} {bod : Expr} {lsc : Scope} {t : XK → TE} {p lpos pos : Pos} (hg : Gl X x) (hm : X.mg x = some (.ref g)) (hk : PySem.W.keepIn X.K (.ref g) = true)
    (lk : X.K.lookup g = some ⟨oc, od, .func (PySem.W.fnOf x x pg bg sc dV kV doc pm an cdv ct), osl⟩) (hcg : PySem.W.codeIn X.K cdv x = true) (hb : L2.Binds X.K (PySem.W.fnOf x x pg bg sc dV kV doc pm an cdv ct) [a] []) (Sg : FnScope Nc [a] sc) (hNg : Nc[0]? = some a) (vis : Vis sc a)
    (hG : GivesA X Nc x sc g cdv bg a (X.env.qual ++ "<lambda>") TT) (TB : TabB X.base X.mg c P) (hcode : X.env.code = .ref c) (hmT : (P, X.env.qual ++ "<lambda>") ∈ T) (hu : ∀ p ∈ T, p.1 = P → p.2 = X.env.qual ++ "<lambda>") (hr : Room (k + 2) X.A) (LS : LamS X.env.scope lsc)
    (hbody : ∀ (A : Around) (outer : List Env) (s : Shared) (H : Hp) (E : XK) (lf lc : Addr), Room k (A.deeper (lamEnv X lsc s.heap.objs.size lf lc)) → PE (lamCx X A outer s H E lsc lf lc) bod (t E))
    (hdef : defaultsOf prm X.env = ([], []) := by rfl) (hbind : ∀ (q : Str) (cl : List (Str × Addr)) (pm cv ctv : Value), bindArgs (PySem.W.kla_fn "<lambda>" q prm bod lsc cl pm cv ctv) ⟨[], []⟩ = pure [] := by intros; rfl)
    (hdb : (x == ("__debug__" : Str)) = false := by decide) (nd1 : (a == ("__debug__" : Str)) = false := by decide) (nd2 : (a == ("__classdict__" : Str)) = false := by decide) :
    PE X (.Call (.Name x p) [.Lambda prm bod lsc lpos] [] pos) (tLam T TT t) := by
  refine ⟨fun pins s σ H Q I hh => ?_⟩
  obtain ⟨hT, hh⟩ := hh
  refine wpAny_Call_Name_kw (ld_glob I hg hm ?_ hdb)
  refine PySem.W.callWith_K (h₀ := X.base) I.ok.mod.kin hk ?_ (by rfl) (by rfl)
  show wpAny _ _ (spliced ((false, eval (.Lambda prm bod lsc lpos) X.env) :: backTo pos (starEach [] X.env))) _ _ s
  refine Calls.spliced_cons (lam_make2 I TB hcode hmT hu hT hdef (LS.has I.ok) fun lf lc pm2 ctv H1 s2 I1 eN T1 atf nof frf hco => ?_)
  refine Calls.spliced_nil ⟨I1.kIn, ?_⟩
  have go : codeAny (model X.prog X.w) X.A (.call (.ref g) ⟨[.ref lf], []⟩) (CR CX0 X.stack X.prog X.w H1 s2 Q E0) s2 := by
    refine run_ofS (N := Nc) (ps := [a]) (us := [.ref lf]) (vs := [.ref lf]) lk hcg Sg hr I1.env0 (hb s2 [.ref lf] I1.kIn rfl) (.cons rfl .nil) rfl fun hr2 => ?_
    obtain ⟨tt, ht, hq⟩ := hG lf lc s2 H1 Q (fun E G Qz => t E σ G Qz) (fun W pn xe r1 r2 tk => pe_actA (j := 0) I1 LS atf nof frf (hbind _ _ _ _ _) tk hr2 (fun A outer s3 H3 E hr3 => hbody A outer s3 H3 E lf lc hr3) hNg vis nd1 nd2) hco (hh H1 eN T1)
    exact ⟨tt, ht.nox, hq⟩
  refine wpAny_call (codeAny_mono go fun res s3 hq => ?_)
  cases res with
  | error er => exact False.elim (show False from hq)
  | ok fl =>
    cases fl with
    | ret u => exact I1.after hq
    | next => exact False.elim hq
    | brk => exact False.elim hq
    | cont => exact False.elim hq
/-- nothing is let out: the callee's own wish is empty -/
theorem passE {X : Cx} {P : Program} {w : World} : Passes (L2.CX P w) X E0 := fun _ _ _ _ _ _ _ h => by
  obtain ⟨_, _, _, _, _, _, _, _, _, _, _, _, z⟩ := h
  exact z.elim
theorem passEAt {X : Cx} {P : Program} {w : World} : ∀ σ : L2.St, PassesAt (L2.CX P w) X σ E0 := fun _ _ _ _ _ _ _ h => by
  obtain ⟨_, _, _, _, _, _, _, _, _, _, _, _, z⟩ := h
  exact z.elim
/-- a def whose code object is told (it makes a lambda) -/
structure FunL (K : PySem.W.Frag) (x qual : Str) (st : Stmt) (f : Addr) (fd : FuncData) (cda : Addr) : Prop where
  ex : ∃ (oc : Value) (od : Option Addr) (kV doc pm : Value) (an : Option Addr) (ct : Value) (osl : Array (Option Value)),
    fd = PySem.W.fnOf x qual (defArgs st) (defBody st) (defScope st) .none kV doc pm an (.ref cda) ct ∧ K.lookup f = some ⟨oc, od, .func fd, osl⟩ ∧ PySem.W.codeIn K (.ref cda) qual = true
  kp : PySem.W.keepIn K (.ref f) = true
theorem funL_mk {K : PySem.W.Frag} {x qual : Str} {st : Stmt} {f cda : Addr} {oc : Value} {od an : Option Addr} {osl : Array (Option Value)} {kV doc pm ct : Value} (l : K.lookup f = some ⟨oc, od, .func (PySem.W.fnOf x qual (defArgs st) (defBody st) (defScope st) .none kV doc pm an (.ref cda) ct), osl⟩)
    (c : PySem.W.codeIn K (.ref cda) qual = true) (k : PySem.W.keepIn K (.ref f) = true) : FunL K x qual st f (PySem.W.fnOf x qual (defArgs st) (defBody st) (defScope st) .none kV doc pm an (.ref cda) ct) cda := ⟨⟨oc, od, kV, doc, pm, an, ct, osl, rfl, l, c⟩, k⟩
theorem FunL.fn {K : PySem.W.Frag} {x qual : Str} {st : Stmt} {f cda : Addr} {fd : FuncData} (F : FunL K x qual st f fd cda) : Fun K x qual st f fd := by
  obtain ⟨⟨oc, od, kV, doc, pm, an, ct, osl, e, lk, hcd⟩, kp⟩ := F
  exact ⟨⟨oc, od, kV, doc, pm, an, .ref cda, ct, osl, e, lk, hcd⟩, kp⟩
theorem FunL.ok {P : Program} {w : World} {K : PySem.W.Frag} {mg : Str → Option Value} {base : Heap} {x qual : Str} {st : Stmt} {f cda : Addr} {fd : FuncData} {N ps : List Str} {k : Nat} {sp : Sp} (F : FunL K x qual st f fd cda) (S : FnScope N ps (defScope st)) (len : ∀ vs H Q E, sp vs H Q E → vs.length = ps.length)
    (hbody : ∀ (A : Around) (outer : List Env) (s : Shared) (H : Hp) (vs : List V) (Q : VK) (E : XK), Room k (A.deeper (envOfC qual (defScope st) s.heap.objs.size f (.ref cda))) → sp vs H Q E →
      ∃ t, PSs (cxOf CX0 P w K mg base N qual (defScope st) f (.ref cda) A outer s H E).nox (defBody st) t ∧ t { nx := fun _ H' => Q .non H', rt := Q } (L2.start N vs) H) : FnOk P w K mg base CX0 (k + 1) f fd ps sp := by
  obtain ⟨oc, od, kV, doc, pm, an, ct, osl, rfl, lk, hcd⟩ := F.ex
  refine fn_of lk hcd S len fun A outer s H vs Q E hr hsp => ?_
  obtain ⟨t, hh, q⟩ := hbody A outer s H vs Q E hr hsp
  exact ⟨t, hh.nox, q⟩
/-- the reading of x(lambda: e) -/
theorem k_lam {T : List (Addr × Str)} {TT : (XK → Hp → VK → Prop) → Hp → VK → Prop} {t : XK → TE} {σ : L2.St} {H : Hp} {Q : VK} (h0 : Tabs T H) (h : ∀ H1, ExtN H H1 → Tabs T H1 → TT (fun E H' Q' => t E σ H' Q') H1 Q) : tLam T TT t σ H Q := ⟨h0, h⟩
end
/-! ### C(k = v, ..), keywords alone -/
def tMakeKS (C : Addr) (sp : Sp) (gV : List V → List V → List V) (E : L2.St → XK) (tk : TA) : TE := fun σ H Q => tk σ H fun zs H2 => ∀ x dx, H2 x = none → H2 dx = none → dx ≠ x →
  sp (gV [.ref x] zs) (upd (upd H2 dx (.own x)) x (.ins C dx [])) (fun v H3 => v = .non ∧ Q (.ref x) H3) (E σ)
theorem pe_makeKS {X : Cx} {CX : CXT} {k : Nat} {f C : Addr} {fd : FuncData} {ps ks : List Str} {sp : Sp} {E : L2.St → XK} {x : Str} {p pos : Pos} {kws : List Keyword} {tk : TA} {g : List Value → List Value → List Value} {gV : List V → List V → List V} (M : Mk X.K C f) (Fn : FnOk X.prog X.w X.K X.mg X.base CX k f fd ps sp) (hr : Room (k + 1) X.A)
    (hg : Gl X x) (hm : X.mg x = some (.ref C)) (hb : KBinds X.K fd ps ks g gV) (hx : ∀ σ, PassesAt CX X σ (E σ)) (hkw : PK X kws tk) (hall : (backToKw pos (keywordEach kws X.env)).all (·.1.isSome) = true := by rfl)
    (hks : (backToKw pos (keywordEach kws X.env)).filterMap (·.1) = ks := by rfl) (hdb : (x == ("__debug__" : Str)) = false := by decide) (hpl : ((backTo pos (starEach [] X.env)).any (·.1) || (backToKw pos (keywordEach kws X.env)).any (·.1.isNone)) = false := by rfl) :
    PE X (.Call (.Name x p) [] kws pos) (tMakeKS C sp gV E tk) := by
  refine ⟨fun pins s σ H Q I hh => ?_⟩
  refine wpAny_Call_Name_kw (ld_glob I hg hm ?_ hdb)
  refine PySem.W.callWith_KW0 (h₀ := X.base) I.ok.mod.kin M.kp hall ?_ hpl
  refine thn (hkw.run pos pins s σ H _ I hh) fun ws s2 ⟨zs, H2, I2, rz, q2⟩ => ⟨I2.kIn, ?_⟩
  rw [hks]
  have hq := q2 (s2.heap.objs.size + 1) s2.heap.objs.size (I2.hok.fresh (Nat.le_succ _)) (I2.hok.fresh (Nat.le_refl _)) (Nat.ne_of_lt (Nat.lt_succ_self _))
  have I3 := Inv.made (C := C) I2
  have r2 := hb.rel (vs := [.ref (s2.heap.objs.size + 1)]) (us := [.ref (s2.heap.objs.size + 1)]) (.cons rfl .nil) rz
  have hl : (g [.ref (s2.heap.objs.size + 1)] ws).length = ps.length := by rw [← r2.length]; exact Fn.len _ _ _ _ hq
  refine wpAny_call (make_map (f := f) I2.kIn M.makes M.init (beq_iff_eq.mp M.fn) (codeAny_mono (Fn.run _ X.stack _ _ ⟨[Value.ref (s2.heap.objs.size + 1)], ks.zip ws⟩ (g [.ref (s2.heap.objs.size + 1)] ws) _ _ (E σ) (hr.make C [] (ks.zip ws))
    (I3.env0.make C [] (ks.zip ws)) (hb.to _ [.ref (s2.heap.objs.size + 1)] ws I3.kIn hl) r2 hq) fun res s' fin => ?_))
  cases res with
  | error er => exact hx σ pins _ _ er s' I3 fin
  | ok fl =>
    cases fl with
    | ret u =>
      obtain ⟨v, H', I4, rv, ev, q3⟩ := I3.after fin
      subst ev
      exact ⟨rv, ⟨V.ref (s2.heap.objs.size + 1), H', I4, rfl, q3⟩⟩
    | next => exact False.elim fin
    | brk => exact False.elim fin
    | cont => exact False.elim fin
theorem k_makeKS {C : Addr} {sp : Sp} {gV : List V → List V → List V} {E : L2.St → XK} {tk : TA} {σ : L2.St} {H : Hp} {Q : VK} (h : tk σ H fun zs H2 => ∀ x dx, H2 x = none → H2 dx = none → dx ≠ x → sp (gV [.ref x] zs) (upd (upd H2 dx (.own x)) x (.ins C dx [])) (fun v H3 => v = .non ∧ Q (.ref x) H3) (E σ)) : tMakeKS C sp gV E tk σ H Q := h

/-! ### str(o) and o == y by the class's own methods -/
section
open PySem.W
variable {X : Cx} {CX : CXT} {k : Nat} {C g : Addr} {fd : FuncData} {ps : List Str} {sp : Sp}
def rStrO (C : Addr) (sp : Sp) : List V → Hp → VK → Prop := fun vs H Q => ∃ (a dx : Addr) (fs : List (Str × V)), vs = [.ref a] ∧ H a = some (.ins C dx fs) ∧ sp [.ref a] H (fun v H' => ∃ z : Str, v = .str z ∧ Q (.str z) H') E0
theorem cr_strO (hs : PySem.W.findIn X.K (.ref C) "__str__" = some (some (.ref g))) (hf : PySem.W.isFn X.K (.ref g) = true) (Fn : FnOk X.prog X.w X.K X.mg X.base CX k g fd ps sp) (room : Room (k + 2) X.A) (bs : Binds X.K fd ps []) (px : Passes CX X.nox E0) : CallR X (.type "str") (rStrO C sp) := by
  intro pins st σ H xs us Q I rs hh
  obtain ⟨a, dx, fs, rfl, ea, go⟩ := hh
  rw [Vals.ref1 rs]
  obtain ⟨mA, O, _, _, _, _⟩ := ins_get I.hok ea
  obtain ⟨od, J, _⟩ := O.look
  have many : ([Value.ref a] ++ []).length = ps.length := by
    rw [← Fn.len _ _ _ _ go]
    rfl
  have r2 : Room k X.A.in1.in1 := room.in1.in1
  refine kso_call r2.units0 I.kIn J hs hf (wpAny_call ?_)
  refine codeAny_mono (Fn.run X.A.in1.in1 X.stack st H ⟨[.ref a], []⟩ [.ref a] [.ref a] _ E0 r2 I.env0.in1.in1 (bs _ [.ref a] I.kIn many) (.cons rfl .nil) go) fun r s' fin => ?_
  cases r with
  | error er => exact False.elim (px pins σ H st er s' (I.wish _) fin)
  | ok fl =>
    cases fl with
    | ret u =>
      obtain ⟨v, H2, J2, rv, z, rfl, q⟩ := I.after fin
      obtain ⟨t, rfl⟩ := (show ∃ t, u = Value.str z t from rv)
      exact ⟨.str z, H2, J2, ⟨t, rfl⟩, q⟩
    | next => exact False.elim fin
    | brk => exact False.elim fin
    | cont => exact False.elim fin
/-- y is of no class that would be asked first -/
inductive Ysd (K : PySem.W.Frag) (C : Addr) (H : Hp) : V → Prop where
  | str (z : Str) (h : PySem.W.notFirst K C (.type "str") = true) : Ysd K C H (.str z)
  | int (i : Int) (h : PySem.W.notFirst K C (.type "int") = true) : Ysd K C H (.int i)
  | ins {b D dy : Addr} {gs : List (Str × V)} (e : H b = some (.ins D dy gs)) (h : PySem.W.notFirst K C (.ref D) = true) : Ysd K C H (.ref b)
def rEqO (K : PySem.W.Frag) (C : Addr) (sp : Sp) : R2 := fun x y H Q => ∃ (a dx : Addr) (fs : List (Str × V)), x = .ref a ∧ H a = some (.ins C dx fs) ∧ Ysd K C H y ∧ sp [x, y] H Q E0
theorem back_of {Q : Value → Shared → Prop} {z : V} {v : Value} {s' : Shared} (r : RelV z v) (h : Q v s') : PySem.W.CmpBack Q v s' := by
  cases z with
  | non => cases (show v = Value.none from r); exact h
  | bl b => cases (show v = Value.bool b from r); exact h
  | int i => obtain ⟨t, rfl⟩ := (show ∃ t, v = Value.int i t from r); exact h
  | str x => obtain ⟨t, rfl⟩ := (show ∃ t, v = Value.str x t from r); exact h
  | byt b => obtain ⟨t, rfl⟩ := (show ∃ t, v = Value.bytes b t from r); exact h
  | flt b => obtain ⟨t, rfl⟩ := (show ∃ t, v = Value.float b t from r); exact h
  | ref a => cases (show v = Value.ref a from r); exact h
  | ty T => cases (show v = Value.type T from r); exact h
theorem op_eqO (hs : PySem.W.findIn X.K (.ref C) "__eq__" = some (some (.ref g))) (hf : PySem.W.isFn X.K (.ref g) = true) (Fn : FnOk X.prog X.w X.K X.mg X.base CX k g fd ps sp) (room : Room k X.A) (bs : Binds X.K fd ps []) (px : Passes CX X E0) : OpR X (compareOp .Eq) (rEqO X.K C sp) := by
  intro pins s σ H x y v u Q I rx ry hh
  obtain ⟨a, dx, fs, rfl, ea, hy, go⟩ := hh
  cases (show v = Value.ref a from rx)
  obtain ⟨mA, O, _, _, _, _⟩ := ins_get I.hok ea
  obtain ⟨od, J, _⟩ := O.look
  obtain ⟨m, hF⟩ := I.fr
  have run : wpAny (model X.prog X.w) X.A (call (.ref g) [.ref a, u]) (PySem.W.CmpBack (EP X pins σ Q)) X.xe s :=
    wpAny_mono (run_fn (us := [.ref a, u]) (vs := [.ref a, y]) (dvs := []) (ds := []) Fn room bs .nil px I (.cons rfl (.cons ry .nil)) go) (fun w s' ⟨z', H', I', rz, q⟩ => back_of rz ⟨z', H', I', rz, q⟩) fun _ _ x => x
  show wpAny _ _ (richCompare .Eq (.ref a) u) _ _ _
  cases hy with
  | str z h =>
    obtain ⟨t, rfl⟩ := (show ∃ t, u = Value.str z t from ry)
    exact PySem.W.cmp_K (op := .Eq) (tb := .type "str") room.units0 hF I.ok.mod.kin J (fun A Q E s k q => wpAny_pure q) h hs hf run
  | int i h =>
    obtain ⟨t, rfl⟩ := (show ∃ t, u = Value.int i t from ry)
    exact PySem.W.cmp_K (op := .Eq) (tb := .type "int") room.units0 hF I.ok.mod.kin J (fun A Q E s k q => wpAny_pure q) h hs hf run
  | @ins b D dy gs e h =>
    cases (show u = Value.ref b from ry)
    obtain ⟨mB, O2, _, _, _, _⟩ := ins_get I.hok e
    obtain ⟨od2, J2, _⟩ := O2.look
    exact PySem.W.cmp_K (op := .Eq) (tb := .ref D) room.units0 hF I.ok.mod.kin J J2.type h hs hf run
theorem kop_eqO (K : PySem.W.Frag) (hs : PySem.W.findIn K (.ref C) "__eq__" = some (some (.ref g))) (hf : PySem.W.isFn K (.ref g) = true) (Fn : FnOk X.prog X.w K X.mg X.base CX k g fd ps sp) (room : Room k X.A) (bs : Binds K fd ps []) (px : Passes CX X E0) (hK : X.K = K := by rfl) : OpR X (compareOp .Eq) (rEqO K C sp) := by
  subst hK
  exact op_eqO hs hf Fn room bs px
theorem kc_strO (K : PySem.W.Frag) (hs : PySem.W.findIn K (.ref C) "__str__" = some (some (.ref g))) (hf : PySem.W.isFn K (.ref g) = true) (Fn : FnOk X.prog X.w K X.mg X.base CX k g fd ps sp) (room : Room (k + 2) X.A) (bs : Binds K fd ps []) (px : Passes CX X.nox E0) (hK : X.K = K := by rfl) : CallR X (.type "str") (rStrO C sp) := by
  subst hK
  exact cr_strO hs hf Fn room bs px
end

section
open L2
variable {P : Program} {w : World} {K : PySem.W.Frag} {mg : Str → Option Value} {base : Heap}
/-- a method that closes over its class and may raise -/
theorem funS_okX {x qual : Str} {st : Stmt} {f cc cda D0 : Addr} {fd : FuncData} {N ps : List Str} {k : Nat} {sp : Sp} {cl : Value} {cld : Option Addr} {csl : Array (Option Value)} (F : FunS K x qual st f fd cc cda) (S : NdefX.NScope N ps ["__class__"] (defScope st))
    (hcell : K.lookup cc = some ⟨cl, cld, .cell (some (.ref D0)), csl⟩) (len : ∀ vs H Q E, sp vs H Q E → vs.length = ps.length)
    (hbody : ∀ (A : Around) (outer : List Env) (s : Shared) (H : Hp) (vs : List V) (Q : VK) (E : XK), Room k (A.deeper (NdefX.envF (nfS x qual st cc cda) f s.heap.objs.size)) → sp vs H Q E →
      ∃ t, PSA (NdefX.ncx (L2.CX P w) P w K mg base N (nfS x qual st cc cda) f A outer s H E) (defBody st) (defBody st) t ∧ t { nx := fun _ H' => Q .non H', rt := Q } (NdefX.startF N vs [some (.ref D0)]) H) :
    FnOk P w K mg base (L2.CX P w) (k + 1) f fd ps sp := by
  obtain ⟨oc, od, kV, doc, pm, an, ct, osl, efd, lk, hcd⟩ := F.ex
  refine ⟨len, fun A outer s H args us vs Q E hr e0 hb r hsp => ?_⟩
  have hl := len _ _ _ _ hsp
  have KB := e0.mod.kin
  have KX : K.In s.heap := KB.keeps fun b o e => (e0.bs b o e).1
  have lim : s.heap.NoLimit := e0.mod.nolimit.keeps fun b o e => (e0.bs b o e).1
  have hc1 := e0.bs _ _ (KB _ _ hcell)
  have CA : NdefX.CellsAt [("__class__", cc)] ["__class__"] [some (.ref D0)] s.heap H := by
    have key : ∀ y c, List.lookup y [(("__class__" : Str), cc)] = some c → y = "__class__" ∧ c = cc := fun y c e => by
      rw [List.lookup_cons] at e
      by_cases hy : y = "__class__"
      · subst hy
        simp at e
        exact ⟨rfl, e.symm⟩
      · have : (y == ("__class__" : Str)) = false := by simpa using hy
        rw [this] at e
        cases e
    refine ⟨rfl, fun y c e => ?_, fun x y c e1 e2 => ((key x c e1).1).trans ((key y c e2).1).symm, fun i y e => ?_⟩
    · obtain ⟨rfl, rfl⟩ := key y c e
      exact ⟨hc1.2, _, _, hc1.1, rfl⟩
    · have hi : i = 0 := by
        have := (List.getElem?_eq_some_iff.mp e).1
        simp at this
        exact this
      subst hi
      have ey : ("__class__" : Str) = y := Option.some.inj e
      subst ey
      refine ⟨cc, by simp, fun v ev => ?_⟩
      have ev' : V.ref D0 = v := Option.some.inj (Option.some.inj ev)
      subst ev'
      exact ⟨.ref D0, rfl, _, hc1.1, rfl⟩
  subst efd
  refine codeAny_call_function hr.depth (KX _ _ lk) rfl S.co S.gen rfl (PySem.W.codeRec_of KX hcd) (hb _ _ _ _ ?_)
  refine wpAny_newFunctionEnv S.nocell (fun ⟨n, _⟩ hy => S.par n (List.of_mem_zip hy).1) (fun h₁ hns hsb => ⟨lim.fresh _ hsb, ?_⟩) S.kind
  show codeAny _ _ (.func (defBody st) (NdefX.envF (nfS x qual st cc cda) f s.heap.objs.size)) _ _
  have kp : ∀ b o, s.heap.get? b = some o → h₁.get? b = some o := fun b o e => hsb.extBut b o (Nat.ne_of_lt (Heap.lt_size e)) (Heap.get?_push_of_some _ e)
  obtain ⟨t, ht, hq⟩ := hbody A outer s H vs Q E (hr.deeper _) hsp
  have I : Inv (NdefX.ncx (L2.CX P w) P w K mg base N (nfS x qual st cc cda) f A outer s H E) [] (NdefX.startF N vs [some (.ref D0)]) H { s with heap := h₁, toks := s.toks + (ps.zip us).length } :=
    NdefX.inv_startN (F := nfS x qual st cc cda) S hr.hd e0 hl r CA hns kp
  refine ks_codeAny_funcAt (ks_wpAt_mono (ht.go [] _ _ H _ I hq) (fun fl s' hs => ?_) fun e s' hs => hs)
  have fin : ∀ {σ' : L2.St} {H' : Hp} {v : V} {u : Value}, Inv (NdefX.ncx (L2.CX P w) P w K mg base N (nfS x qual st cc cda) f A outer s H E) [] σ' H' s' → L2.RelV v u → Q v H' → CE outer P w H s Q u s' :=
    fun {σ' H' v u} J rv q => ⟨v, H', J.os, J.bare, J.base, J.hok, rv, q⟩
  cases fl with
  | ret u =>
    obtain ⟨v, σ', H', J, rv, q⟩ := hs
    exact fin J rv q
  | next =>
    obtain ⟨σ', H', J, q⟩ := hs
    exact fin (v := V.non) (u := Value.none) J rfl q
  | brk =>
    obtain ⟨_, _, _, q⟩ := hs
    exact False.elim q
  | cont =>
    obtain ⟨_, _, _, q⟩ := hs
    exact False.elim q
end
/-! ### o != y by the class's own __eq__ -/
section
open PySem.W
theorem bound_b {M : Model} {A : Around} {E : Value → Shared → Prop} {st : Shared} {K : PySem.W.Frag} {a C : Addr} {oa : Obj} {od : Option Obj} {nm : Str} {id : String} {as : List Value} {Q : Option Value → Shared → Prop} (XK : K.In st.heap) (J : InstAt st.heap a oa C od)
    (hs : findIn K (.ref C) nm = some (some (.builtin id))) (hb : ∀ self, bindSpecial (.builtin id) self = pure (.builtin id, [self])) (h : wpAny M A (call (.builtin id) (.ref a :: as)) (fun v => Q (some v)) E st) : wpAny M A (callSpecialIfBound? (.ref a) nm as) Q E st := by
  simp only [callSpecialIfBound?, bindSpecialIfBound?]
  refine wpAny_holding (wpAny_bind (wpAny_bind (wpAny_bind (J.type.here ((looks_findIn XK hs).here ?_)))))
  refine wpAny_bind (wpAny_askSetting (wpAny_ite ?_))
  have last : wpAny M A (call (.builtin id) ([.ref a] ++ as) >>= fun v => pure (some v)) Q E st := wpAny_bind (wpAny_mono h (fun v z q => wpAny_pure q) fun _ _ q => q)
  split
  · exact wpAny_bind ((Looks.of_pure (hb _)).here (wpAny_pure (by exact last)))
  · exact wpAny_tryCatch (wpAny_bind ((Looks.of_pure (hb _)).here (wpAny_pure (by exact last))))
variable {X : Cx} {CX : CXT} {k : Nat} {C g : Addr} {fd : FuncData} {ps : List Str} {sp : Sp}
theorem ne_run {st : Shared} {a : Addr} {u tb : Value} {oa : Obj} {od : Option Obj} {A : Around} {E : Value → Shared → Prop} {K : PySem.W.Frag} {prog : Program} {w : World} {Q : Value → Shared → Prop} (hu : A.units + 1 < cLine) (XK : K.In st.heap) (J : InstAt st.heap a oa C od) (hb : Looks (model prog w) st.heap (typeOf u) tb) (hnf : notFirst K C tb = true)
    (hs : findIn K (.ref C) "__eq__" = some (some (.ref g))) (hf : isFn K (.ref g) = true) (hn : findIn K (.ref C) "__ne__" = some (some (.builtin "object.__ne__"))) (hm : mroIn K C (.type "object") = some true)
    (h : wpAny (model prog w) A.in1 (call (.ref g) [.ref a, u]) (fun v s' => ∃ b : Bool, v = .bool b ∧ Q (.bool (!b)) s') E st) : wpAny (model prog w) A (richCompare .NotEq (.ref a) u) Q E st := by
  have hu0 : A.units < cLine := Nat.lt_of_succ_lt hu
  have one : wpAny (model prog w) A (tryCompare (.ref a) "__ne__" u) (fun r s' => ∃ v, r = some v ∧ Q v s') E st := by
    unfold tryCompare
    refine wpAny_bind (bound_b XK J hn (id := "object.__ne__") (fun self => PySem.F.cmp_object.ne.bind self) ?_)
    refine wpAny_call (codeAny_call_builtin PySem.F.cmp_object.ne.plain F.cmpEntry_ne (check_slot (i := "object.__ne__") (owner := "object") (n := "__ne__") (by decide +kernel) (by decide +kernel) (J.type.andThen (looks_mroIn XK hm)) (F.cmpArgs_ne _ _) ?_))
    unfold Builtin.«object.__ne__»
    refine wpAny_bind (m := slotArgs "__ne__" 1 _) (wpAny_pure ?_)
    refine wpAny_bind (m := cRoomFor _ _) (wpAny_cRoomFor (by show A.units + 1 < cLine; exact hu) ?_)
    refine wpAny_bind (m := callSpecialIfBound? (.ref a) (Str.ofString "__eq__") _) (ifBound_K XK J hs hf (wpAny_mono h (fun r s' hq => ?_) fun _ _ y => y))
    obtain ⟨b, rfl, q⟩ := hq
    refine wpAny_bind (wpAny_truthy_bool ?_)
    exact wpAny_pure (wpAny_pure ⟨_, rfl, q⟩)
  unfold richCompare
  simp only [oneThing_ref]
  refine wpAny_holding (wpAny_bind (wpAny_cRoomFor hu0 ?_))
  refine wpAny_bind (J.type.here (wpAny_bind (hb.here ?_)))
  split
  · rename_i q
    have e : subIn K tb (.ref C) = some false := by
      rcases Bool.or_eq_true_iff.mp hnf with e | e
      · rw [beq_iff_eq.mp e] at q; simp at q
      · exact beq_iff_eq.mp e
    refine wpAny_bind ((looks_subIn XK e).here ?_)
    simp only [Bool.false_eq_true, if_false]
    refine wpAny_bind (wpAny_mono one (fun r s' z => ?_) fun _ _ e => e)
    obtain ⟨v, rfl, q2⟩ := z
    exact wpAny_pure q2
  · refine wpAny_bind (wpAny_pure ?_)
    simp only [Bool.false_eq_true, if_false]
    refine wpAny_bind (wpAny_mono one (fun r s' z => ?_) fun _ _ e => e)
    obtain ⟨v, rfl, q2⟩ := z
    exact wpAny_pure q2

/-- y is of no class that would be asked first -/
inductive Yw (K : PySem.W.Frag) (C : Addr) (H : Hp) : V → Prop where
  | str (z : Str) (h : notFirst K C (.type "str") = true) : Yw K C H (.str z)
  | int (i : Int) (h : notFirst K C (.type "int") = true) : Yw K C H (.int i)
  | bl (b : Bool) (h : notFirst K C (.type "bool") = true) : Yw K C H (.bl b)
  | non (h : notFirst K C (.type "NoneType") = true) : Yw K C H .non
  | lst {b : Addr} {xs : List V} (e : H b = some (.lst xs)) (h : notFirst K C (.type "list") = true) : Yw K C H (.ref b)
  | tup {b : Addr} {xs : List V} (e : H b = some (.tup xs)) (h : notFirst K C (.type "tuple") = true) : Yw K C H (.ref b)
  | ins {b D dy : Addr} {gs : List (Str × V)} (e : H b = some (.ins D dy gs)) (h : notFirst K C (.ref D) = true) : Yw K C H (.ref b)
theorem Yw.look {pins : List (Addr × Obj)} {s : Shared} {σ : L2.St} {H : Hp} {y : V} {u : Value} (hy : Yw X.K C H y) (I : Inv X pins σ H s) (ry : RelV y u) : ∃ tb, Looks (model X.prog X.w) s.heap (typeOf u) tb ∧ notFirst X.K C tb = true := by
  cases hy with
  | str z h =>
    obtain ⟨t, rfl⟩ := (show ∃ t, u = Value.str z t from ry)
    exact ⟨_, fun A Q E s k q => wpAny_pure q, h⟩
  | int i h =>
    obtain ⟨t, rfl⟩ := (show ∃ t, u = Value.int i t from ry)
    exact ⟨_, fun A Q E s k q => wpAny_pure q, h⟩
  | bl b h =>
    cases (show u = Value.bool b from ry)
    exact ⟨_, fun A Q E s k q => wpAny_pure q, h⟩
  | non h =>
    cases (show u = Value.none from ry)
    exact ⟨_, fun A Q E s k q => wpAny_pure q, h⟩
  | @lst b xs e h =>
    cases (show u = Value.ref b from ry)
    obtain ⟨_, _, n, _, h1⟩ := (show ObjOk X.prog X.w H s.heap b (.lst xs) from I.hok b _ e)
    exact ⟨.type "list", (Looks.ld h1).andThen .now, h⟩
  | @tup b xs e h =>
    cases (show u = Value.ref b from ry)
    obtain ⟨_, _, _, o, h1, h2, _⟩ := (show ObjOk X.prog X.w H s.heap b (.tup xs) from I.hok b _ e)
    exact ⟨.type "tuple", h2 ▸ (Looks.ld h1).andThen .now, h⟩
  | @ins b D dy gs e h =>
    cases (show u = Value.ref b from ry)
    obtain ⟨mB, O2, _, _, _, _⟩ := ins_get I.hok e
    obtain ⟨od2, J2, _⟩ := O2.look
    exact ⟨_, J2.type, h⟩
/-- o == y, o != y: the class's own __eq__ is asked -/
def rEqW (K : PySem.W.Frag) (C : Addr) (sp : Sp) : R2 := fun x y H Q => ∃ (a dx : Addr) (fs : List (Str × V)), x = .ref a ∧ H a = some (.ins C dx fs) ∧ Yw K C H y ∧ sp [x, y] H Q E0
def rNeW (K : PySem.W.Frag) (C : Addr) (sp : Sp) : R2 := fun x y H Q => ∃ (a dx : Addr) (fs : List (Str × V)), x = .ref a ∧ H a = some (.ins C dx fs) ∧ Yw K C H y ∧ sp [x, y] H (fun v H' => ∃ b : Bool, v = .bl b ∧ Q (.bl (!b)) H') E0
theorem op_eqW (hs : PySem.W.findIn X.K (.ref C) "__eq__" = some (some (.ref g))) (hf : PySem.W.isFn X.K (.ref g) = true) (Fn : FnOk X.prog X.w X.K X.mg X.base CX k g fd ps sp) (room : Room k X.A) (bs : Binds X.K fd ps []) (px : Passes CX X E0) : OpR X (compareOp .Eq) (rEqW X.K C sp) := by
  intro pins s σ H x y v u Q I rx ry hh
  obtain ⟨a, dx, fs, rfl, ea, hy, go⟩ := hh
  obtain ⟨tb, lk, nf⟩ := hy.look I ry
  cases (show v = Value.ref a from rx)
  obtain ⟨mA, O, _, _, _, _⟩ := ins_get I.hok ea
  obtain ⟨od, J, _⟩ := O.look
  obtain ⟨m, hF⟩ := I.fr
  have run : wpAny (model X.prog X.w) X.A (call (.ref g) [.ref a, u]) (PySem.W.CmpBack (EP X pins σ Q)) X.xe s :=
    wpAny_mono (run_fn (us := [.ref a, u]) (vs := [.ref a, y]) (dvs := []) (ds := []) Fn room bs .nil px I (.cons rfl (.cons ry .nil)) go) (fun w s' ⟨z', H', I', rz, q⟩ => back_of rz ⟨z', H', I', rz, q⟩) fun _ _ x => x
  show wpAny _ _ (richCompare .Eq (.ref a) u) _ _ _
  exact PySem.W.cmp_K (op := .Eq) (tb := tb) room.units0 hF I.ok.mod.kin J lk nf hs hf run
theorem op_neW (hs : PySem.W.findIn X.K (.ref C) "__eq__" = some (some (.ref g))) (hf : PySem.W.isFn X.K (.ref g) = true) (hn : findIn X.K (.ref C) "__ne__" = some (some (.builtin "object.__ne__"))) (hm : mroIn X.K C (.type "object") = some true)
    (Fn : FnOk X.prog X.w X.K X.mg X.base CX k g fd ps sp) (room : Room (k + 1) X.A) (bs : Binds X.K fd ps []) (px : Passes CX X E0) : OpR X (compareOp .NotEq) (rNeW X.K C sp) := by
  intro pins s σ H x y v u Q I rx ry hh
  obtain ⟨a, dx, fs, rfl, ea, hy, go⟩ := hh
  obtain ⟨tb, lk, nf⟩ := hy.look I ry
  cases (show v = Value.ref a from rx)
  obtain ⟨mA, O, _, _, _, _⟩ := ins_get I.hok ea
  obtain ⟨od, J, _⟩ := O.look
  have many : ([Value.ref a, u] ++ []).length = ps.length := by
    rw [← Fn.len _ _ _ _ go]
    rfl
  have r2 : Room k X.A.in1 := room.in1
  show wpAny _ _ (richCompare .NotEq (.ref a) u) _ _ _
  refine ne_run r2.units0 I.kIn J lk nf hs hf hn hm (wpAny_call ?_)
  refine codeAny_mono (Fn.run X.A.in1 X.stack s H ⟨[.ref a, u], []⟩ [.ref a, u] [.ref a, y] _ E0 r2 I.env0.in1 (bs _ [.ref a, u] I.kIn many) (.cons rfl (.cons ry .nil)) go) fun r s' fin => ?_
  cases r with
  | error er => exact px pins σ H s er s' I fin
  | ok fl =>
    cases fl with
    | ret z =>
      obtain ⟨v, H2, J2, rv, b, rfl, q⟩ := I.after fin
      exact ⟨b, rv, .bl (!b), H2, J2, rfl, q⟩
    | next => exact False.elim fin
    | brk => exact False.elim fin
    | cont => exact False.elim fin
/-- repr(o) by the class's own __repr__ -/
theorem cr_reprO (hs : PySem.W.findIn X.K (.ref C) "__repr__" = some (some (.ref g))) (hf : PySem.W.isFn X.K (.ref g) = true) (Fn : FnOk X.prog X.w X.K X.mg X.base CX k g fd ps sp) (room : Room (k + 1) X.A) (bs : Binds X.K fd ps []) (px : Passes CX X.nox E0) : CallR X (.builtin "repr") (rStrO C sp) := by
  intro pins st σ H xs us Q I rs hh
  obtain ⟨a, dx, fs, rfl, ea, go⟩ := hh
  rw [Vals.ref1 rs]
  obtain ⟨mA, O, _, _, _, _⟩ := ins_get I.hok ea
  obtain ⟨od, J, _⟩ := O.look
  obtain ⟨m, hF⟩ := I.fr
  have many : ([Value.ref a] ++ []).length = ps.length := by
    rw [← Fn.len _ _ _ _ go]
    rfl
  have r2 : Room k X.A.in1 := room.in1
  refine PySem.W.repr_K r2.units0 hF I.ok.mod.kin J hs hf (wpAny_call ?_)
  refine codeAny_mono (Fn.run X.A.in1 X.stack st H ⟨[.ref a], []⟩ [.ref a] [.ref a] _ E0 r2 I.env0.in1 (bs _ [.ref a] I.kIn many) (.cons rfl .nil) go) fun r s' fin => ?_
  cases r with
  | error er => exact False.elim (px pins σ H st er s' (I.wish _) fin)
  | ok fl =>
    cases fl with
    | ret u =>
      obtain ⟨v, H2, J2, rv, z, rfl, q⟩ := I.after fin
      obtain ⟨t, rfl⟩ := (show ∃ t, u = Value.str z t from rv)
      exact ⟨.str z, H2, J2, ⟨t, rfl⟩, q⟩
    | next => exact False.elim fin
    | brk => exact False.elim fin
    | cont => exact False.elim fin
end

/-! ### for i, x in enumerate(a tuple) -/
section
theorem enumB_meets {vz : Value} {oz : Obj} {Hb : Heap → Prop} (Bz : Begins vz oz Hb) :
    Meets (Builtin.«enumerate.__new__» ⟨[.type "enumerate", vz], []⟩) (fun _ R st => Hb st.heap ∧ R (.ok (.ret (.ref (st.heap.push oz).objs.size))) { st with heap := (st.heap.push oz).push { cls := .type "enumerate", data := .fields #[.none, .bool false, .ref st.heap.objs.size, rawInt 0, .none, .none] } }) :=
  .of_wp fun prog w A R st hh => by
    obtain ⟨hp, g, d, tk, os⟩ := st
    obtain ⟨hb, fin⟩ := hh
    have hsub := sub_enumerate
    have it1 : ∀ {Ay : Around} {Ey : Value → Shared → Prop} {Qy : Value → Shared → Prop}, Qy (.ref hp.objs.size) ⟨hp.push oz, g, d, tk, os⟩ → wpAny (model prog w) Ay (pyIter vz) Qy Ey ⟨hp, g, d, tk, os⟩ := fun q => Bz.iter prog w _ _ ⟨hp, g, d, tk, os⟩ _ hb q
    wp_walk using it1
    refine wpAny_stack_any fun sk => wpAny_pure ?_
    split
    · rename_i c _ _ _ _ _
      cases (c == Value.type "enumerate") <;> (wp_walk using it1; exact ⟨_, rfl, fin⟩)
    · wp_walk using it1
      exact ⟨_, rfl, fin⟩
theorem enumB_call {prog : Program} {w : World} {A : Around} {Ez : Value → Shared → Prop} {st : Shared} {vz : Value} {oz : Obj} {Hb : Heap → Prop} {Qz : Value → Shared → Prop} (Bz : Begins vz oz Hb) (hb : Hb st.heap)
    (k : ∀ h', IsEnum h' (st.heap.objs.size + 1) st.heap.objs.size 0 .none → h'.get? st.heap.objs.size = some oz → (∀ b o, st.heap.get? b = some o → h'.get? b = some o) → Qz (.ref (st.heap.objs.size + 1)) { st with heap := h' }) :
    wpAny (model prog w) A (call (.type "enumerate") [vz]) Qz Ez st := by
  refine callType_new F.called_enumerate (by decide) (F.typeCall_enumerate_1 _) (F.newCall_enumerate_1 _) (fun ob => F.args_object_init_2 ob _) F.entry_enumerate_new (enumB_meets Bz) ⟨hb, ?_⟩
  have sz : (st.heap.push oz).objs.size = st.heap.objs.size + 1 := Heap.size_push ..
  show _ ∧ _
  rw [sz]
  have e1 := Heap.get?_push_size (st.heap.push oz) (o := { cls := .type "enumerate", data := .fields #[.none, .bool false, .ref st.heap.objs.size, rawInt 0, .none, .none] }) rfl
  rw [sz] at e1
  exact ⟨⟨_, e1, rfl⟩, k _ e1 (Heap.get?_push_of_some _ (Heap.get?_push_size _ Bz.free)) fun b o x => Heap.get?_push_of_some _ (Heap.get?_push_of_some _ x)⟩
def Itet (K : PySem.W.Frag) (a : Addr) : It :=
  ⟨fun i H => ∃ (xs : List V) (x : V), SqT K H a xs ∧ xs[i]? = some x, fun i H v H' => ∃ tp x, v = .ref tp ∧ H tp = none ∧ H' = upd H tp (.tup [.int (i : Nat), x]) ∧ ∀ xs, SqT K H a xs → xs[i]? = some x, fun i H => ∃ xs : List V, SqT K H a xs ∧ xs.length ≤ i⟩
theorem turn_enumT {P : Program} {w : World} {K : PySem.W.Frag} {elts : List Expr} {kk : Nat} {tpos : Pos} (a e it : Addr) (hai : a ≠ it) (hae : a ≠ e) (hne : e ≠ it) :
    Turn P w K (.Tuple elts kk tpos) (Itet K a) [e, it] e (fun i h => (∃ old, IsEnum h e it ((i : Nat) : Int) old) ∧ h.IsTupleIter it a i) where
  mem := by simp
  obj := fun i h st b hb => by
    obtain ⟨⟨old, he⟩, ⟨o, ho, hc, hd⟩⟩ := st
    have cs : b = e ∨ b = it := by simpa using hb
    rcases cs with z | z
    · rw [z]
      exact ⟨_, he, fun v q => nomatch q⟩
    · rw [z]
      refine ⟨o, ho, fun v q => ?_⟩
      rw [hd] at q
      cases q
  keep := fun i h h' ⟨⟨old, he⟩, hi⟩ k => ⟨⟨old, k e (by simp) _ he⟩, hi.at fun o q => k it (by simp) o q⟩
  item := by
    intro X hP hw hK hc i pins s σ H E I hf st hg
    subst hP hw hK
    obtain ⟨⟨old, he⟩, hit⟩ := st
    obtain ⟨xs, x, hq, hx⟩ := hg
    obtain ⟨its, rv, pt, hz⟩ := I.tuple hq
    obtain ⟨u, hu, ru⟩ := rv.get hx
    have hil : i < its.toArray.size := by rw [List.size_toArray]; exact (List.getElem?_eq_some_iff.mp hu).1
    have le : e < s.heap.objs.size := Heap.lt_size he
    have li : it < s.heap.objs.size := by obtain ⟨_, q, _⟩ := hit; exact Heap.lt_size q
    have D := Draws.tuple (prog := X.prog) (w := X.w) (A := X.A.in1) (I.ok.hd hc) it a hai its.toArray
    refine wpAny_pyNext_enum_itemD D he ⟨hit, pt⟩ hil hne (by simp [hne, Ne.symm hae]) fun x2 h' tk hx2 ho hst' hT hsz hk => ?_
    have ex : x2 = u := by
      have h1 : its[i]? = some x2 := by simpa using hx2
      rw [hu] at h1
      exact (Option.some.inj h1).symm
    subst ex
    refine ⟨_, rfl, wpAny_letOwnedTupleGo_enum (s := { s with heap := h', toks := tk + 1 }) ho fun h2 he2 sb => ?_⟩
    have hT2 : h2.get? s.heap.objs.size = some { cls := .type "tuple", data := .seq #[.int i tk, x2] } := (sb.2 _ (Nat.ne_of_gt le)).trans hT
    have made : ObjOk X.prog X.w (upd H s.heap.objs.size (.tup [.int (i : Nat), x])) h2 s.heap.objs.size (.tup [.int (i : Nat), x]) :=
      ⟨by show 2 ≤ sizeLine; decide, [.int i tk, x2], .cons ⟨_, rfl⟩ (.cons ru .nil), ⟨_, hT2, rfl, _, rfl⟩⟩
    have I1 : Inv X pins σ (upd H s.heap.objs.size (.tup [.int (i : Nat), x])) { s with heap := h2, toks := tk + 1 } :=
      I.turnedNew (ch := [e, it]) (fun b ob hb q => (sb.2 b (fun z => hb (by simp [z]))).trans (hk b ob (fun z => hb (by simp [z])) (fun z => hb (by simp [z])) q)) hf (Nat.le_refl _) made
    refine ⟨.ref s.heap.objs.size, _, I1, rfl, ⟨_, x, rfl, I.hok.fresh (Nat.le_refl _), rfl, fun ys hy => by rw [I.tuple_inj hy hq]; exact hx⟩, ⟨⟨x2, ?_⟩, hst'.1.at fun o q => (sb.2 it (Ne.symm hne)).trans q⟩, fun b hb => ?_⟩
    · rw [show ((i + 1 : Nat) : Int) = (i : Int) + 1 by omega]
      exact he2
    · have lb : b < s.heap.objs.size := by
        have cs : b = e ∨ b = it := by simpa using hb
        rcases cs with z | z <;> rw [z] <;> assumption
      rw [upd_ne (Nat.ne_of_lt lb)]
      exact (hf b hb).1
  done := by
    intro X hP hw hK hc i pins s σ H E I hf st hg
    subst hP hw hK
    obtain ⟨⟨old, he⟩, hit⟩ := st
    obtain ⟨xs, hq, hx⟩ := hg
    obtain ⟨its, rv, pt, hz⟩ := I.tuple hq
    obtain ⟨f0, f1, f2, f3, f4, f5⟩ := hf it (by simp)
    have hl := rv.length
    unfold pyNext
    have hT : s.TypeIs (.ref e) "enumerate" := ⟨_, he, rfl⟩
    refine wpAny_bind (wpAny_attempt (wpAny_callSpecial?_slot (name := Str.ofString "__next__") hT F.slot_enumerate_next (wpAny_call_entry F.slot_enumerate_next hT F.entry_enumerate_next ?_ (F.args_enumerate_next_1 _))))
    show wpAny _ _ (field (.ref e) 2 >>= _) _ _ _
    refine wpAny_bind (wpAny_field he rfl (x := .ref it) rfl ?_)
    refine wpAny_bind (wpAny_nextOf_tuple_end (I.ok.hd hc) hit pt (by simp; omega) fun h' x2 eb hx2 => ?_)
    obtain ⟨o2, ho2, hc2⟩ := hx2
    refine wpAny_bind (wpAny_isInstance (T := "StopIteration") (b := true) ⟨o2, ho2, hc2⟩ isSubtype_stop ?_)
    exact wpAny_pure ⟨rfl, I.turned (t' := s.toks) (fun b o hb q => eb b o hb q) f0 f1 f3 f4 f5⟩
  self := fun A i s Q E st h => let ⟨⟨_, he⟩, _⟩ := st; wpAny_pyIter_enum he h
def iEnumT (K : PySem.W.Frag) (ta : TA) : TI := fun σ H R => ta σ H fun vs H1 => ∃ a xs, vs = [.ref a] ∧ SqT K H1 a xs ∧ R (Itet K a) H1
theorem pi_enumT {X : Cx} (K : PySem.W.Frag) {e : Expr} {ta : TA} {p pos tpos : Pos} {elts : List Expr} {kk : Nat} (hg : Gl X "enumerate") (hm : X.mg "enumerate" = none) (ha : PA X [e] ta) (hK : X.K = K := by rfl) (hs : starEach [e] X.env = [(false, eval e X.env)] := by rfl) :
    PI X (.Tuple elts kk tpos) (.Call (.Name "enumerate" p) [e] [] pos) (iEnumT K ta) := by
  subst hK
  refine ⟨fun pins s σ H R I h => ?_⟩
  refine Call_ (ld_blt I hg hm boot_enumerate (PyProof.Rows.callWith_type1 (thn (ha.run pos pins s σ H _ I h) fun us s1 ⟨vs, H1, I1, r1, a, xs, ex, hq, q⟩ => ?_) hs rfl))
  subst ex
  rw [Vals.ref1 r1]
  obtain ⟨its, rv, pt, hz⟩ := I1.tuple hq
  have la : a < s1.heap.objs.size := by obtain ⟨o, ho, _⟩ := pt; exact Heap.lt_size ho
  refine enumB_call (begins_tuple a its.toArray) pt fun h' he hit hk => wpAny_pyIter_enum he ?_
  have I2 : Inv X pins σ H1 { s1 with heap := h' } := I1.kept (t' := s1.toks) hk
  refine ⟨s1.heap.objs.size + 1, [s1.heap.objs.size + 1, s1.heap.objs.size], _, _, H1, rfl, I2, turn_enumT a (s1.heap.objs.size + 1) s1.heap.objs.size (Nat.ne_of_lt la) (Nat.ne_of_lt (Nat.lt_succ_of_lt la)) (Nat.succ_ne_self _), ⟨⟨.none, he⟩, ⟨_, hit, rfl, rfl⟩⟩, fun b hb => ?_, q⟩
  have cs : b = s1.heap.objs.size + 1 ∨ b = s1.heap.objs.size := by simpa using hb
  have hle : s1.heap.objs.size ≤ b := by rcases cs with z | z <;> rw [z] <;> omega
  exact I1.fpOk hle (I1.hok.fresh hle)
theorem walk_enumT {K : PySem.W.Frag} {a : Addr} {xs : List V} : Walk (Itet K a) xs.length (fun H => SqT K H a xs) (YPair (fun i => some (.int (i : Nat))) (fun i => xs[i]?)) := by
  refine ⟨fun i _ hi q => ⟨xs, xs[i], q, by simp [hi]⟩, fun _ q => ⟨xs, q, Nat.le_refl _⟩, fun i H v H' _ q y => ?_⟩
  obtain ⟨tp, x, e1, e2, e3, e4⟩ := y
  exact ⟨tp, .int (i : Nat), x, e1, e2, e3, rfl, e4 xs q⟩
end

/-! ### a list or a tuple, whichever it is -/
section
variable {X : Cx} {σ : L2.St} {H : Hp}
/-- the list or the tuple at a -/
def SqAt (H : Hp) (a : Addr) (xs : List V) : Prop := H a = some (.lst xs) ∨ H a = some (.tup xs)
theorem SqAt.up {H' : Hp} {a : Addr} {xs : List V} (h : SqAt H a xs) (e : Same H H') : SqAt H' a xs := h.imp (fun h => e _ _ h) (fun h => e _ _ h)
theorem SqAt.ext {H' : Hp} {a : Addr} {xs : List V} (h : SqAt H a xs) (e : LamX.ExtN H H') : SqAt H' a xs := h.imp (fun h => e _ _ h (fun ps z => by cases z)) (fun h => e _ _ h (fun ps z => by cases z))
theorem SqAt.stay {H' : Hp} {a : Addr} {xs : List V} (h : SqAt H a xs) (e : Same H H') : H' a = H a := by
  rcases h with h | h <;> rw [h, e _ _ h]
theorem SqAt.inj {a : Addr} {xs ys : List V} (h : SqAt H a xs) (g : SqAt H a ys) : xs = ys := by
  rcases h with h | h <;> rcases g with g | g <;> (rw [h] at g; cases g; try rfl)
def iLT (K : PySem.W.Frag) (tl : TE) : TI := fun σ H R => iList K tl σ H R ∨ iTup K tl σ H R
theorem pi_LT (K : PySem.W.Frag) {tg l : Expr} {tl : TE} (hl : PE X l tl) (hK : X.K = K := by rfl) : PI X tg l (iLT K tl) := by
  subst hK
  exact ⟨fun pins s σ H R I h => h.elim (fun h => (pi_list hl).run pins s σ H R I h) fun h => (pi_tup hl).run pins s σ H R I h⟩
theorem k_LT {K : PySem.W.Frag} {tl : TE} {R : It → Hp → Prop} {a : Addr} {xs : List V} (h : SqAt H a xs) (hv : ∀ Q : VK, Q (.ref a) H → tl σ H Q)
    (k : ∀ (J : It) (G : Hp → Prop), Walk J xs.length G (YAt xs) → (∀ H', H' a = H a → G H') → R J H) : iLT K tl σ H R := by
  rcases h with h | h
  · exact .inl (hv _ ⟨a, rfl, ⟨xs, SqL.of h⟩, k _ _ walk_list fun H' e => SqL.of (e.trans h)⟩)
  · exact .inr (hv _ ⟨a, rfl, ⟨xs, SqT.of h⟩, k _ _ walk_tup fun H' e => SqT.of (e.trans h)⟩)
def iELT (K : PySem.W.Frag) (ta : TA) : TI := fun σ H R => iEnum K ta σ H R ∨ iEnumT K ta σ H R
theorem pi_ELT (K : PySem.W.Frag) {e : Expr} {ta : TA} {p pos tpos : Pos} {elts : List Expr} {kk : Nat} (hg : Gl X "enumerate") (hm : X.mg "enumerate" = none) (ha : PA X [e] ta) (hK : X.K = K := by rfl) (hs : starEach [e] X.env = [(false, eval e X.env)] := by rfl) :
    PI X (.Tuple elts kk tpos) (.Call (.Name "enumerate" p) [e] [] pos) (iELT K ta) := by
  subst hK
  exact ⟨fun pins s σ H R I h => h.elim (fun h => (pi_enum hg hm ha hs).run pins s σ H R I h) fun h => (pi_enumT X.K hg hm ha rfl hs).run pins s σ H R I h⟩
theorem k_ELT {K : PySem.W.Frag} {ta : TA} {R : It → Hp → Prop} {a : Addr} {xs : List V} (h : SqAt H a xs) (hv : ∀ Q : List V → Hp → Prop, Q [.ref a] H → ta σ H Q)
    (k : ∀ (J : It) (G : Hp → Prop), Walk J xs.length G (YPair (fun i => some (.int (i : Nat))) (fun i => xs[i]?)) → (∀ H', H' a = H a → G H') → R J H) : iELT K ta σ H R := by
  rcases h with h | h
  · exact .inl (hv _ ⟨a, xs, rfl, SqL.of h, k _ _ walk_enum fun H' e => SqL.of (e.trans h)⟩)
  · exact .inr (hv _ ⟨a, xs, rfl, SqT.of h, k _ _ walk_enumT fun H' e => SqT.of (e.trans h)⟩)
theorem k_lenLT {K : PySem.W.Frag} {a : Addr} {xs : List V} {Q : VK} (h : SqAt H a xs) (k : Q (.int (xs.length : Nat)) H) : rLenU K [.ref a] H Q := by
  rcases h with h | h
  · exact k_lenL (SqL.of h) k
  · exact k_lenT (SqT.of h) k
theorem k_listLT {K : PySem.W.Frag} {a : Addr} {xs : List V} {Q : VK} (h : SqAt H a xs) (k : ∀ l, H l = none → Q (.ref l) (upd H l (.lst xs))) : rListU K [.ref a] H Q := by
  rcases h with h | h
  · exact ⟨a, xs, rfl, .inl (SqL.of h), k⟩
  · exact ⟨a, xs, rfl, .inr (SqT.of h), k⟩
theorem k_ixLT {K : PySem.W.Frag} {a : Addr} {xs : List V} {i : Int} {v : V} {Q : VK} (h : SqAt H a xs) (e : atI xs i = some v) (k : Q v H) : rIx K (.ref a) (.int i) H Q := by
  rcases h with h | h
  · exact k_ixL (SqL.of h) e k
  · exact k_ixT (SqT.of h) e k
end

/-! ### defs with defaults and keyword-only defaults -/
section
variable {K : PySem.W.Frag} {x qual : Str} {params : Arguments} {body : List Stmt} {scope : Scope} {dvs : List V} {kws : List (Str × V)} {f : Addr}
theorem funD_mkK {oc : Value} {od an : Option Addr} {osl : Array (Option Value)} {doc pm cdv ct : Value} {T D : Addr} {us : List Value} {dc : Value} {dd : Option Addr} {n : Nat} {ds : Array (Option Value)}
    (l : K.lookup f = some ⟨oc, od, .func (PySem.W.fnOf x qual params body scope (.ref T) (.ref D) doc pm an cdv ct), osl⟩) (c : PySem.W.codeIn K cdv qual = true) (k : PySem.W.keepIn K (.ref f) = true) (lt : K.lookup T = some ⟨dc, dd, .seq us.toArray n, ds⟩) (r : Vals dvs us) (ne : dvs ≠ [])
    (hk : ∀ q ∈ kws, ∃ u, PySem.W.nsIn K D q.1 = some (some u) ∧ RelV q.2 u) : L2.FunD K x qual params body scope dvs kws f (PySem.W.fnOf x qual params body scope (.ref T) (.ref D) doc pm an cdv ct) :=
  ⟨⟨oc, od, .ref T, .ref D, doc, pm, an, cdv, ct, osl, rfl, l, c, .inr ⟨ne, T, _, us, n, rfl, lt, rfl, r⟩, .inr ⟨D, rfl, hk⟩⟩, k⟩
end

/-! ### len of an own object -/
section
variable {X : Cx}
/-- len(o), the class's own __len__ -/
def rLenO (C : Addr) (sp : Sp) : List V → Hp → VK → Prop := fun vs H Q => ∃ (a dx : Addr) (fs : List (Str × V)), vs = [.ref a] ∧ H a = some (.ins C dx fs) ∧ sp [.ref a] H (fun v H' => ∃ n : Nat, v = .int n ∧ n < 1000000 ∧ Q (.int n) H') E0
theorem cr_lenO {CX : CXT} {k : Nat} {C g : Addr} {fd : FuncData} {ps : List Str} {sp : Sp} (hs : PySem.W.findIn X.K (.ref C) "__len__" = some (some (.ref g))) (hf : PySem.W.typeIn X.K (.ref g) = some (.type "function"))
    (Fn : FnOk X.prog X.w X.K X.mg X.base CX k g fd ps sp) (room : Room (k + 1) X.A) (bs : Binds X.K fd ps []) (px : Passes CX X.nox E0) : CallR X (.builtin "len") (rLenO C sp) := by
  intro pins st σ H xs us Q I rs hh
  obtain ⟨a, dx, fs, rfl, ea, go⟩ := hh
  rw [Vals.ref1 rs]
  obtain ⟨mA, O, _, _, _, _⟩ := ins_get I.hok ea
  obtain ⟨od, J, _⟩ := O.look
  have many : ([Value.ref a] ++ []).length = ps.length := by
    rw [← Fn.len _ _ _ _ go]
    rfl
  refine Calls.call_function_entry kind_len plain_len entry_len (args_len1 _) ?_
  unfold Builtin.«len»
  refine wpAny_bind (m := oneArg "len" _) (wpAny_pure ?_)
  refine wpAny_bind (m := callSpecial? (.ref a) (Str.ofString "__len__")) (PySem.W.special_fn I.kIn J hs hf (wpAny_call ?_))
  refine codeAny_mono (Fn.run X.A.in1 X.stack st H ⟨[.ref a], []⟩ [.ref a] [.ref a] _ E0 room.in1 I.env0.in1 (bs _ [.ref a] I.kIn many) (.cons rfl .nil) go) fun r s' fin => ?_
  cases r with
  | error er => exact False.elim (px pins σ H st er s' (I.wish _) fin)
  | ok fl =>
    cases fl with
    | ret u =>
      obtain ⟨v, H2, J2, rv, n, rfl, hn, q⟩ := I.after fin
      obtain ⟨t, rfl⟩ := rv
      refine wpAny_bind (wpAny_holding (wpAny_pure ?_))
      refine wpAny_bind (wpAny_letGo ?_)
      show wpAny _ _ (if (n : Int) < 0 then _ else _) _ _ _
      rw [if_neg (by omega)]
      show wpAny _ _ (if (n : Int) ≥ 2 ^ 63 then _ else _) _ _ _
      rw [if_neg (by omega)]
      exact wpAny_bind (wpAny_mkInt (wpAny_pure ⟨_, rfl, ⟨.int n, H2, J2.tok _, ⟨_, rfl⟩, q⟩⟩))
    | next => exact False.elim fin
    | brk => exact False.elim fin
    | cont => exact False.elim fin
end

def P : Program := PySem.Challenge.pw_surelet_k12_whole_trees_refused
def top (i : Nat) : Stmt := PySem.Challenge.pw_surelet_k12_whole_trees_refused.main.body.getD i (.Pass ⟨0, 0, 0, 0⟩)
abbrev s_InvalidName_init : Stmt := (inClass (top 4) 0)
abbrev N_InvalidName_init : List Str := ["self", "value", "__class__"]
abbrev P_InvalidName_init : List Str := ["self", "value"]
theorem sc_InvalidName_init : NdefX.NScope N_InvalidName_init P_InvalidName_init ["__class__"] (defScope s_InvalidName_init) := NdefX.nscope_by (by decide +kernel)
abbrev s_InvalidRule_init : Stmt := (inClass (top 6) 0)
abbrev N_InvalidRule_init : List Str := ["self", "value", "__class__"]
abbrev P_InvalidRule_init : List Str := ["self", "value"]
theorem sc_InvalidRule_init : NdefX.NScope N_InvalidRule_init P_InvalidRule_init ["__class__"] (defScope s_InvalidRule_init) := NdefX.nscope_by (by decide +kernel)
abbrev s_InvalidPlace_init : Stmt := (inClass (top 7) 0)
abbrev N_InvalidPlace_init : List Str := ["self", "at", "__class__"]
abbrev P_InvalidPlace_init : List Str := ["self", "at"]
theorem sc_InvalidPlace_init : NdefX.NScope N_InvalidPlace_init P_InvalidPlace_init ["__class__"] (defScope s_InvalidPlace_init) := NdefX.nscope_by (by decide +kernel)
abbrev s_BadTree_init : Stmt := (inClass (top 8) 0)
abbrev N_BadTree_init : List Str := ["self", "place", "__class__"]
abbrev P_BadTree_init : List Str := ["self", "place"]
theorem sc_BadTree_init : NdefX.NScope N_BadTree_init P_BadTree_init ["__class__"] (defScope s_BadTree_init) := NdefX.nscope_by (by decide +kernel)
abbrev s_TooMany_init : Stmt := (inClass (top 9) 0)
abbrev N_TooMany_init : List Str := ["self", "what", "count", "__class__"]
abbrev P_TooMany_init : List Str := ["self", "what", "count"]
theorem sc_TooMany_init : NdefX.NScope N_TooMany_init P_TooMany_init ["__class__"] (defScope s_TooMany_init) := NdefX.nscope_by (by decide +kernel)
abbrev s_is_number : Stmt := (top 13)
abbrev N_is_number : List Str := ["value", "least", "most"]
abbrev P_is_number : List Str := ["value", "least", "most"]
theorem sc_is_number : FnScope N_is_number P_is_number (defScope s_is_number) := ⟨rfl, rfl, rfl, by decide +kernel, rfl, by decide +kernel, by decide +kernel⟩
abbrev s_is_name : Stmt := (top 14)
abbrev N_is_name : List Str := ["value", "sign"]
abbrev P_is_name : List Str := ["value"]
theorem sc_is_name : FnScope N_is_name P_is_name (defScope s_is_name) := ⟨rfl, rfl, rfl, by decide +kernel, rfl, by decide +kernel, by decide +kernel⟩
abbrev s_Rest_init : Stmt := (inClass (top 16) 0)
abbrev N_Rest_init : List Str := ["self", "text", "forms", "period", "bend"]
abbrev P_Rest_init : List Str := ["self", "text", "forms", "period", "bend"]
theorem sc_Rest_init : FnScope N_Rest_init P_Rest_init (defScope s_Rest_init) := ⟨rfl, rfl, rfl, by decide +kernel, rfl, by decide +kernel, by decide +kernel⟩
abbrev s_Rest_eq : Stmt := (inClass (top 16) 11)
abbrev N_Rest_eq : List Str := ["self", "other"]
abbrev P_Rest_eq : List Str := ["self", "other"]
theorem sc_Rest_eq : FnScope N_Rest_eq P_Rest_eq (defScope s_Rest_eq) := ⟨rfl, rfl, rfl, by decide +kernel, rfl, by decide +kernel, by decide +kernel⟩
abbrev s_Window_init : Stmt := (inClass (top 17) 0)
abbrev N_Window_init : List Str := ["self", "width", "__class__"]
abbrev P_Window_init : List Str := ["self", "width"]
theorem sc_Window_init : NdefX.NScope N_Window_init P_Window_init ["__class__"] (defScope s_Window_init) := NdefX.nscope_by (by decide +kernel)
abbrev s_Rule_init : Stmt := (inClass (top 19) 0)
abbrev N_Rule_init : List Str := ["self", "name", "chips", "rest"]
abbrev P_Rule_init : List Str := ["self", "name", "chips", "rest"]
theorem sc_Rule_init : FnScope N_Rule_init P_Rule_init (defScope s_Rule_init) := ⟨rfl, rfl, rfl, by decide +kernel, rfl, by decide +kernel, by decide +kernel⟩
abbrev s_Place_init : Stmt := (inClass (top 22) 0)
abbrev N_Place_init : List Str := ["self", "name", "server", "elder", "memory", "customer", "value"]
abbrev P_Place_init : List Str := ["self", "name", "server", "elder", "memory", "customer"]
theorem sc_Place_init : FnScope N_Place_init P_Place_init (defScope s_Place_init) := ⟨rfl, rfl, rfl, by decide +kernel, rfl, by decide +kernel, by decide +kernel⟩
abbrev s_Place_eq : Stmt := (inClass (top 22) 1)
abbrev N_Place_eq : List Str := ["self", "other"]
abbrev P_Place_eq : List Str := ["self", "other"]
theorem sc_Place_eq : FnScope N_Place_eq P_Place_eq (defScope s_Place_eq) := ⟨rfl, rfl, rfl, by decide +kernel, rfl, by decide +kernel, by decide +kernel⟩
abbrev s_Tree_init : Stmt := (inClass (top 23) 0)
abbrev N_Tree_init : List Str := ["self", "rule", "places", "at", "place"]
abbrev P_Tree_init : List Str := ["self", "rule", "places"]
theorem sc_Tree_init : FnScope N_Tree_init P_Tree_init (defScope s_Tree_init) := ⟨rfl, rfl, rfl, by decide +kernel, rfl, by decide +kernel, by decide +kernel⟩
abbrev s_Tree_fits : Stmt := (inClass (top 23) 1)
abbrev N_Tree_fits : List Str := ["self", "place", "elder"]
abbrev P_Tree_fits : List Str := ["self", "place"]
theorem sc_Tree_fits : FnScope N_Tree_fits P_Tree_fits (defScope s_Tree_fits) := ⟨rfl, rfl, rfl, by decide +kernel, rfl, by decide +kernel, by decide +kernel⟩
abbrev s_Tree_places : Stmt := (inClass (top 23) 2)
abbrev N_Tree_places : List Str := ["self"]
abbrev P_Tree_places : List Str := ["self"]
theorem sc_Tree_places : FnScope N_Tree_places P_Tree_places (defScope s_Tree_places) := ⟨rfl, rfl, rfl, by decide +kernel, rfl, by decide +kernel, by decide +kernel⟩
abbrev s_Tree_len : Stmt := (inClass (top 23) 10)
abbrev N_Tree_len : List Str := ["self"]
abbrev P_Tree_len : List Str := ["self"]
theorem sc_Tree_len : FnScope N_Tree_len P_Tree_len (defScope s_Tree_len) := ⟨rfl, rfl, rfl, by decide +kernel, rfl, by decide +kernel, by decide +kernel⟩
abbrev s_bag : Stmt := (top 25)
abbrev N_bag : List Str := ["_law_script", "_law_seed", "_law_item"]
abbrev P_bag : List Str := ["_law_script"]
theorem sc_bag : FnScope N_bag P_bag (defScope s_bag) := ⟨rfl, rfl, rfl, by decide +kernel, rfl, by decide +kernel, by decide +kernel⟩
abbrev s_draw : Stmt := (top 26)
abbrev N_draw : List Str := ["_law_bag_here", "_law_limit", "_law_item", "_law_digit"]
abbrev P_draw : List Str := ["_law_bag_here", "_law_limit"]
theorem sc_draw : FnScope N_draw P_draw (defScope s_draw) := ⟨rfl, rfl, rfl, by decide +kernel, rfl, by decide +kernel, by decide +kernel⟩
abbrev s_of : Stmt := (top 27)
abbrev N_of : List Str := ["_law_bag_here", "_law_things"]
abbrev P_of : List Str := ["_law_bag_here", "_law_things"]
theorem sc_of : FnScope N_of P_of (defScope s_of) := ⟨rfl, rfl, rfl, by decide +kernel, rfl, by decide +kernel, by decide +kernel⟩
abbrev s_like : Stmt := (top 28)
abbrev N_like : List Str := ["_law_told", "_law_due_here", "_law_a", "_law_b"]
abbrev P_like : List Str := ["_law_told", "_law_due_here"]
theorem sc_like : FnScope N_like P_like (defScope s_like) := ⟨rfl, rfl, rfl, by decide +kernel, rfl, by decide +kernel, by decide +kernel⟩
abbrev cs_like_1 : Scope := { kind := .function, names := [(".0", .local), ("_law_a", .local), ("_law_b", .local), ("_law_like", .globalImplicit)], isGenerator := false, isCoroutine := false, more := [] }
abbrev s_odd : Stmt := (top 29)
abbrev N_odd : List Str := ["_law_bag_here", "_law_pick", "_law_k"]
abbrev P_odd : List Str := ["_law_bag_here"]
theorem sc_odd : FnScope N_odd P_odd (defScope s_odd) := ⟨rfl, rfl, rfl, by decide +kernel, rfl, by decide +kernel, by decide +kernel⟩
abbrev cs_odd_1 : Scope := { kind := .function, names := [(".0", .local), ("_law_k", .local), ("_law_of", .globalImplicit), ("_law_bag_here", .free)], isGenerator := false, isCoroutine := false, more := [] }
abbrev cs_odd_2 : Scope := { kind := .function, names := [(".0", .local), ("_law_k", .local), ("_law_of", .globalImplicit), ("_law_bag_here", .free)], isGenerator := false, isCoroutine := false, more := [] }
abbrev s_name : Stmt := (top 30)
abbrev N_name : List Str := ["_law_bag_here", "_law_taken", "_law_k", "_law_word"]
abbrev P_name : List Str := ["_law_bag_here", "_law_taken"]
theorem sc_name : FnScope N_name P_name (defScope s_name) := ⟨rfl, rfl, rfl, by decide +kernel, rfl, by decide +kernel, by decide +kernel⟩
abbrev cs_name_1 : Scope := { kind := .function, names := [(".0", .local), ("_law_k", .local), ("_law_of", .globalImplicit), ("_law_bag_here", .free)], isGenerator := false, isCoroutine := false, more := [] }
abbrev s_names : Stmt := (top 31)
abbrev N_names : List Str := ["_law_bag_here", "_law_many", "_law_some", "_law_k"]
abbrev P_names : List Str := ["_law_bag_here", "_law_many"]
theorem sc_names : FnScope N_names P_names (defScope s_names) := ⟨rfl, rfl, rfl, by decide +kernel, rfl, by decide +kernel, by decide +kernel⟩
abbrev s_places : Stmt := (top 32)
abbrev N_places : List Str := ["_law_bag_here", "_law_many", "_law_hosts", "_law_owners", "_law_some", "_law_used", "_law_k", "_law_label", "_law_place_here", "_law_above", "_law_host", "_law_free", "_law_soft", "_law_row_here", "_law_one"]
abbrev P_places : List Str := ["_law_bag_here", "_law_many", "_law_hosts", "_law_owners"]
theorem sc_places : FnScope N_places P_places (defScope s_places) := ⟨rfl, rfl, rfl, by decide +kernel, rfl, by decide +kernel, by decide +kernel⟩
abbrev cs_places_1 : Scope := { kind := .function, names := [(".0", .local), ("_law_one", .local), ("_law_used", .free)], isGenerator := false, isCoroutine := false, more := [] }
abbrev cs_places_2 : Scope := { kind := .function, names := [(".0", .local), ("_law_row_here", .local)], isGenerator := false, isCoroutine := false, more := [] }
abbrev cs_places_3 : Scope := { kind := .function, names := [(".0", .local), ("_law_row_here", .local)], isGenerator := false, isCoroutine := false, more := [] }
abbrev s_place : Stmt := (top 33)
abbrev N_place : List Str := ["_law_bag_here", "_law_row_here", "_law_pick"]
abbrev P_place : List Str := ["_law_bag_here", "_law_row_here"]
theorem sc_place : FnScope N_place P_place (defScope s_place) := ⟨rfl, rfl, rfl, by decide +kernel, rfl, by decide +kernel, by decide +kernel⟩
abbrev s_tree : Stmt := (top 34)
abbrev N_tree : List Str := ["_law_rule", "_law_p"]
abbrev P_tree : List Str := ["_law_rule", "_law_p"]
theorem sc_tree : FnScope N_tree P_tree (defScope s_tree) := ⟨rfl, rfl, rfl, by decide +kernel, rfl, by decide +kernel, by decide +kernel⟩
abbrev s_row : Stmt := (top 35)
abbrev N_row : List Str := ["_law_place_here"]
abbrev P_row : List Str := ["_law_place_here"]
theorem sc_row : FnScope N_row P_row (defScope s_row) := ⟨rfl, rfl, rfl, by decide +kernel, rfl, by decide +kernel, by decide +kernel⟩
abbrev s_ask : Stmt := (top 36)
abbrev N_ask : List Str := ["_law_deed", "_law_told", "_law_fault", "error"]
abbrev P_ask : List Str := ["_law_deed"]
theorem sc_ask : FnScope N_ask P_ask (defScope s_ask) := ⟨rfl, rfl, rfl, by decide +kernel, rfl, by decide +kernel, by decide +kernel⟩
abbrev s_bent : Stmt := (top 37)
abbrev N_bent : List Str := ["_law_bag_here", "_law_rows", "_law_hosts", "_law_some", "_law_j", "_law_row_here", "_law_other", "_law_pick", "_law_k", "_law_first"]
abbrev P_bent : List Str := ["_law_bag_here", "_law_rows", "_law_hosts"]
theorem sc_bent : FnScope N_bent P_bent (defScope s_bent) := ⟨rfl, rfl, rfl, by decide +kernel, rfl, by decide +kernel, by decide +kernel⟩
abbrev s_at_fault : Stmt := (top 38)
abbrev N_at_fault : List Str := ["_law_rows", "_law_j", "_law_row_here", "_law_ahead", "_law_above", "_law_one"]
abbrev P_at_fault : List Str := ["_law_rows", "_law_j"]
theorem sc_at_fault : FnScope N_at_fault P_at_fault (defScope s_at_fault) := ⟨rfl, rfl, rfl, by decide +kernel, rfl, by decide +kernel, by decide +kernel⟩
abbrev cs_at_fault_1 : Scope := { kind := .function, names := [(".0", .local), ("_law_one", .local)], isGenerator := false, isCoroutine := false, more := [] }
abbrev cs_at_fault_2 : Scope := { kind := .function, names := [(".0", .local), ("_law_one", .local), ("_law_row_here", .free)], isGenerator := false, isCoroutine := false, more := [] }
abbrev cs_at_fault_3 : Scope := { kind := .function, names := [(".0", .local), ("_law_one", .local)], isGenerator := false, isCoroutine := false, more := [] }
abbrev s_due : Stmt := (top 39)
abbrev N_due : List Str := ["_law_rows", "_law_j"]
abbrev P_due : List Str := ["_law_rows"]
theorem sc_due : FnScope N_due P_due (defScope s_due) := ⟨rfl, rfl, rfl, by decide +kernel, rfl, by decide +kernel, by decide +kernel⟩
abbrev s_size : Stmt := (top 40)
abbrev N_size : List Str := ["_law_bag_here", "_law_rows", "_law_hosts", "_law_some", "_law_k", "_law_more"]
abbrev P_size : List Str := ["_law_bag_here", "_law_rows", "_law_hosts"]
theorem sc_size : FnScope N_size P_size (defScope s_size) := ⟨rfl, rfl, rfl, by decide +kernel, rfl, by decide +kernel, by decide +kernel⟩
abbrev cs_size_1 : Scope := { kind := .function, names := [(".0", .local), ("_law_k", .local), ("_law_rows", .free)], isGenerator := false, isCoroutine := false, more := [] }
abbrev s_so : Stmt := (top 41)
abbrev N_so : List Str := ["_law_bag_here", "_law_rows", "_law_hosts", "_law_some", "_law_due_here", "_law_at", "_law_k", "_law_told", "_law_fault", "_law_right", "_law_rule", "_law_things", "_law_row_here", "_law_place_here"]
abbrev P_so : List Str := ["_law_bag_here", "_law_rows", "_law_hosts"]
theorem sc_so : FnScope N_so P_so (defScope s_so) := ⟨rfl, rfl, rfl, by decide +kernel, rfl, by decide +kernel, by decide +kernel⟩
abbrev cs_so_1 : Scope := { kind := .function, names := [(".0", .local), ("_law_place_here", .local), ("_law_row", .globalImplicit)], isGenerator := false, isCoroutine := false, more := [] }
abbrev cs_so_2 : Scope := { kind := .function, names := [(".0", .local), ("_law_place_here", .local), ("_law_row", .globalImplicit)], isGenerator := false, isCoroutine := false, more := [] }
abbrev cs_so_3 : Scope := { kind := .function, names := [(".0", .local), ("_law_row_here", .local), ("_law_place", .globalImplicit), ("_law_bag_here", .free)], isGenerator := false, isCoroutine := false, more := [] }
abbrev cs_so_4 : Scope := { kind := .function, names := [(".0", .local), ("_law_k", .local), ("isinstance", .globalImplicit), ("Place", .globalImplicit), ("_law_things", .free)], isGenerator := false, isCoroutine := false, more := [] }
abbrev cs_so_5 : Scope := { kind := .function, names := [(".0", .local), ("_law_row_here", .local), ("_law_place", .globalImplicit), ("_law_bag_here", .free)], isGenerator := false, isCoroutine := false, more := [] }
abbrev ls_so_1 : Scope := { kind := .function, names := [("_law_rule", .free), ("_law_things", .free), ("_law_tree", .globalImplicit)], isGenerator := false, isCoroutine := false, more := [] }
abbrev s_named : Stmt := (top 42)
abbrev N_named : List Str := ["_law_thing", "_law_sign"]
abbrev P_named : List Str := ["_law_thing"]
theorem sc_named : FnScope N_named P_named (defScope s_named) := ⟨rfl, rfl, rfl, by decide +kernel, rfl, by decide +kernel, by decide +kernel⟩
abbrev cs_named_1 : Scope := { kind := .function, names := [(".0", .local), ("_law_sign", .local)], isGenerator := false, isCoroutine := false, more := [] }
abbrev s_place_so : Stmt := (top 43)
abbrev N_place_so : List Str := ["_law_bag_here", "_law_k", "_law_wrong", "_law_told", "_law_fault", "_law_some"]
abbrev P_place_so : List Str := ["_law_bag_here"]
theorem sc_place_so : FnScope N_place_so P_place_so (defScope s_place_so) := ⟨rfl, rfl, rfl, by decide +kernel, rfl, by decide +kernel, by decide +kernel⟩
abbrev cs_place_so_1 : Scope := { kind := .function, names := [(".0", .local), ("_law_k", .local), ("_law_named", .globalImplicit), ("_law_some", .free)], isGenerator := false, isCoroutine := false, more := [] }
abbrev ls_place_so_1 : Scope := { kind := .function, names := [("_law_bag_here", .free), ("_law_some", .free), ("_law_place", .globalImplicit)], isGenerator := false, isCoroutine := false, more := [] }
abbrev s_law : Stmt := (top 44)
abbrev N_law : List Str := ["_law_script", "_law_bag_here", "_law_k", "_law_hosts", "_law_many", "_law_rows"]
abbrev P_law : List Str := ["_law_script"]
theorem sc_law : FnScope N_law P_law (defScope s_law) := ⟨rfl, rfl, rfl, by decide +kernel, rfl, by decide +kernel, by decide +kernel⟩
theorem c_at_fault_law_row_here : celB (defScope s_at_fault) "_law_row_here" = true := by decide +kernel
theorem c_place_so_law_some : celB (defScope s_place_so) "_law_some" = true := by decide +kernel
theorem c_places_law_used : celB (defScope s_places) "_law_used" = true := by decide +kernel
theorem c_so_law_rule : celB (defScope s_so) "_law_rule" = true := by decide +kernel
theorem c_so_law_things : celB (defScope s_so) "_law_things" = true := by decide +kernel
theorem fr_BadTree_init : (defScope s_BadTree_init).names.lookup ("__class__" : Str) = some NameKind.free := by decide +kernel
theorem fr_InvalidName_init : (defScope s_InvalidName_init).names.lookup ("__class__" : Str) = some NameKind.free := by decide +kernel
theorem fr_InvalidPlace_init : (defScope s_InvalidPlace_init).names.lookup ("__class__" : Str) = some NameKind.free := by decide +kernel
theorem fr_InvalidRule_init : (defScope s_InvalidRule_init).names.lookup ("__class__" : Str) = some NameKind.free := by decide +kernel
theorem fr_TooMany_init : (defScope s_TooMany_init).names.lookup ("__class__" : Str) = some NameKind.free := by decide +kernel
theorem fr_Window_init : (defScope s_Window_init).names.lookup ("__class__" : Str) = some NameKind.free := by decide +kernel
theorem g_BadTree_init_super : (defScope s_BadTree_init).names.lookup ("super" : Str) = some NameKind.globalImplicit := by decide +kernel
theorem g_InvalidName_init_super : (defScope s_InvalidName_init).names.lookup ("super" : Str) = some NameKind.globalImplicit := by decide +kernel
theorem g_InvalidPlace_init_super : (defScope s_InvalidPlace_init).names.lookup ("super" : Str) = some NameKind.globalImplicit := by decide +kernel
theorem g_InvalidRule_init_super : (defScope s_InvalidRule_init).names.lookup ("super" : Str) = some NameKind.globalImplicit := by decide +kernel
theorem g_Place_eq_Place : (defScope s_Place_eq).names.lookup ("Place" : Str) = some NameKind.globalImplicit := by decide +kernel
theorem g_Place_eq_isinstance : (defScope s_Place_eq).names.lookup ("isinstance" : Str) = some NameKind.globalImplicit := by decide +kernel
theorem g_Place_init_InvalidName : (defScope s_Place_init).names.lookup ("InvalidName" : Str) = some NameKind.globalImplicit := by decide +kernel
theorem g_Place_init_is_name : (defScope s_Place_init).names.lookup ("is_name" : Str) = some NameKind.globalImplicit := by decide +kernel
theorem g_Rest_eq_Rest : (defScope s_Rest_eq).names.lookup ("Rest" : Str) = some NameKind.globalImplicit := by decide +kernel
theorem g_Rest_eq_isinstance : (defScope s_Rest_eq).names.lookup ("isinstance" : Str) = some NameKind.globalImplicit := by decide +kernel
theorem g_Rule_init_Rest : (defScope s_Rule_init).names.lookup ("Rest" : Str) = some NameKind.globalImplicit := by decide +kernel
theorem g_Rule_init_is_name : (defScope s_Rule_init).names.lookup ("is_name" : Str) = some NameKind.globalImplicit := by decide +kernel
theorem g_Rule_init_is_number : (defScope s_Rule_init).names.lookup ("is_number" : Str) = some NameKind.globalImplicit := by decide +kernel
theorem g_Rule_init_isinstance : (defScope s_Rule_init).names.lookup ("isinstance" : Str) = some NameKind.globalImplicit := by decide +kernel
theorem g_TooMany_init_super : (defScope s_TooMany_init).names.lookup ("super" : Str) = some NameKind.globalImplicit := by decide +kernel
theorem g_Tree_fits_len : (defScope s_Tree_fits).names.lookup ("len" : Str) = some NameKind.globalImplicit := by decide +kernel
theorem g_Tree_init_BadTree : (defScope s_Tree_init).names.lookup ("BadTree" : Str) = some NameKind.globalImplicit := by decide +kernel
theorem g_Tree_init_InvalidPlace : (defScope s_Tree_init).names.lookup ("InvalidPlace" : Str) = some NameKind.globalImplicit := by decide +kernel
theorem g_Tree_init_InvalidRule : (defScope s_Tree_init).names.lookup ("InvalidRule" : Str) = some NameKind.globalImplicit := by decide +kernel
theorem g_Tree_init_PLACES : (defScope s_Tree_init).names.lookup ("PLACES" : Str) = some NameKind.globalImplicit := by decide +kernel
theorem g_Tree_init_Place : (defScope s_Tree_init).names.lookup ("Place" : Str) = some NameKind.globalImplicit := by decide +kernel
theorem g_Tree_init_Rule : (defScope s_Tree_init).names.lookup ("Rule" : Str) = some NameKind.globalImplicit := by decide +kernel
theorem g_Tree_init_TooMany : (defScope s_Tree_init).names.lookup ("TooMany" : Str) = some NameKind.globalImplicit := by decide +kernel
theorem g_Tree_init_enumerate : (defScope s_Tree_init).names.lookup ("enumerate" : Str) = some NameKind.globalImplicit := by decide +kernel
theorem g_Tree_init_isinstance : (defScope s_Tree_init).names.lookup ("isinstance" : Str) = some NameKind.globalImplicit := by decide +kernel
theorem g_Tree_init_len : (defScope s_Tree_init).names.lookup ("len" : Str) = some NameKind.globalImplicit := by decide +kernel
theorem g_Tree_init_list : (defScope s_Tree_init).names.lookup ("list" : Str) = some NameKind.globalImplicit := by decide +kernel
theorem g_Tree_len_len : (defScope s_Tree_len).names.lookup ("len" : Str) = some NameKind.globalImplicit := by decide +kernel
theorem g_Tree_places_list : (defScope s_Tree_places).names.lookup ("list" : Str) = some NameKind.globalImplicit := by decide +kernel
theorem g_Window_init_is_number : (defScope s_Window_init).names.lookup ("is_number" : Str) = some NameKind.globalImplicit := by decide +kernel
theorem g_Window_init_super : (defScope s_Window_init).names.lookup ("super" : Str) = some NameKind.globalImplicit := by decide +kernel
theorem g_ask_BadTree : (defScope s_ask).names.lookup ("BadTree" : Str) = some NameKind.globalImplicit := by decide +kernel
theorem g_ask_InvalidName : (defScope s_ask).names.lookup ("InvalidName" : Str) = some NameKind.globalImplicit := by decide +kernel
theorem g_ask_InvalidPlace : (defScope s_ask).names.lookup ("InvalidPlace" : Str) = some NameKind.globalImplicit := by decide +kernel
theorem g_ask_InvalidRule : (defScope s_ask).names.lookup ("InvalidRule" : Str) = some NameKind.globalImplicit := by decide +kernel
theorem g_ask_SureletError : (defScope s_ask).names.lookup ("SureletError" : Str) = some NameKind.globalImplicit := by decide +kernel
theorem g_ask_TooMany : (defScope s_ask).names.lookup ("TooMany" : Str) = some NameKind.globalImplicit := by decide +kernel
theorem g_bag_int : (defScope s_bag).names.lookup ("int" : Str) = some NameKind.globalImplicit := by decide +kernel
theorem g_bag_list : (defScope s_bag).names.lookup ("list" : Str) = some NameKind.globalImplicit := by decide +kernel
theorem g_bent_law_draw : (defScope s_bent).names.lookup ("_law_draw" : Str) = some NameKind.globalImplicit := by decide +kernel
theorem g_bent_law_of : (defScope s_bent).names.lookup ("_law_of" : Str) = some NameKind.globalImplicit := by decide +kernel
theorem g_bent_len : (defScope s_bent).names.lookup ("len" : Str) = some NameKind.globalImplicit := by decide +kernel
theorem g_bent_list : (defScope s_bent).names.lookup ("list" : Str) = some NameKind.globalImplicit := by decide +kernel
theorem g_draw_int : (defScope s_draw).names.lookup ("int" : Str) = some NameKind.globalImplicit := by decide +kernel
theorem g_draw_len : (defScope s_draw).names.lookup ("len" : Str) = some NameKind.globalImplicit := by decide +kernel
theorem g_due_law_at_fault : (defScope s_due).names.lookup ("_law_at_fault" : Str) = some NameKind.globalImplicit := by decide +kernel
theorem g_due_len : (defScope s_due).names.lookup ("len" : Str) = some NameKind.globalImplicit := by decide +kernel
theorem g_due_range : (defScope s_due).names.lookup ("range" : Str) = some NameKind.globalImplicit := by decide +kernel
theorem g_is_name_DIGITS : (defScope s_is_name).names.lookup ("DIGITS" : Str) = some NameKind.globalImplicit := by decide +kernel
theorem g_is_name_LETTERS : (defScope s_is_name).names.lookup ("LETTERS" : Str) = some NameKind.globalImplicit := by decide +kernel
theorem g_is_name_isinstance : (defScope s_is_name).names.lookup ("isinstance" : Str) = some NameKind.globalImplicit := by decide +kernel
theorem g_is_name_len : (defScope s_is_name).names.lookup ("len" : Str) = some NameKind.globalImplicit := by decide +kernel
theorem g_is_name_str : (defScope s_is_name).names.lookup ("str" : Str) = some NameKind.globalImplicit := by decide +kernel
theorem g_is_number_bool : (defScope s_is_number).names.lookup ("bool" : Str) = some NameKind.globalImplicit := by decide +kernel
theorem g_is_number_int : (defScope s_is_number).names.lookup ("int" : Str) = some NameKind.globalImplicit := by decide +kernel
theorem g_is_number_isinstance : (defScope s_is_number).names.lookup ("isinstance" : Str) = some NameKind.globalImplicit := by decide +kernel
theorem g_law_law_bag : (defScope s_law).names.lookup ("_law_bag" : Str) = some NameKind.globalImplicit := by decide +kernel
theorem g_law_law_names : (defScope s_law).names.lookup ("_law_names" : Str) = some NameKind.globalImplicit := by decide +kernel
theorem g_law_law_of : (defScope s_law).names.lookup ("_law_of" : Str) = some NameKind.globalImplicit := by decide +kernel
theorem g_law_law_place_so : (defScope s_law).names.lookup ("_law_place_so" : Str) = some NameKind.globalImplicit := by decide +kernel
theorem g_law_law_places : (defScope s_law).names.lookup ("_law_places" : Str) = some NameKind.globalImplicit := by decide +kernel
theorem g_law_law_so : (defScope s_law).names.lookup ("_law_so" : Str) = some NameKind.globalImplicit := by decide +kernel
theorem g_law_range : (defScope s_law).names.lookup ("range" : Str) = some NameKind.globalImplicit := by decide +kernel
theorem g_like_1_law_like : (relS cs_like_1 (defScope s_like)).names.lookup ("_law_like" : Str) = some NameKind.globalImplicit := by decide +kernel
theorem g_like_all : (defScope s_like).names.lookup ("all" : Str) = some NameKind.globalImplicit := by decide +kernel
theorem g_like_bool : (defScope s_like).names.lookup ("bool" : Str) = some NameKind.globalImplicit := by decide +kernel
theorem g_like_dict : (defScope s_like).names.lookup ("dict" : Str) = some NameKind.globalImplicit := by decide +kernel
theorem g_like_int : (defScope s_like).names.lookup ("int" : Str) = some NameKind.globalImplicit := by decide +kernel
theorem g_like_isinstance : (defScope s_like).names.lookup ("isinstance" : Str) = some NameKind.globalImplicit := by decide +kernel
theorem g_like_len : (defScope s_like).names.lookup ("len" : Str) = some NameKind.globalImplicit := by decide +kernel
theorem g_like_list : (defScope s_like).names.lookup ("list" : Str) = some NameKind.globalImplicit := by decide +kernel
theorem g_like_str : (defScope s_like).names.lookup ("str" : Str) = some NameKind.globalImplicit := by decide +kernel
theorem g_like_tuple : (defScope s_like).names.lookup ("tuple" : Str) = some NameKind.globalImplicit := by decide +kernel
theorem g_like_zip : (defScope s_like).names.lookup ("zip" : Str) = some NameKind.globalImplicit := by decide +kernel
theorem g_name_1_law_of : (relS cs_name_1 (defScope s_name)).names.lookup ("_law_of" : Str) = some NameKind.globalImplicit := by decide +kernel
theorem g_name_law_of : (defScope s_name).names.lookup ("_law_of" : Str) = some NameKind.globalImplicit := by decide +kernel
theorem g_name_range : (defScope s_name).names.lookup ("range" : Str) = some NameKind.globalImplicit := by decide +kernel
theorem g_named_all : (defScope s_named).names.lookup ("all" : Str) = some NameKind.globalImplicit := by decide +kernel
theorem g_named_isinstance : (defScope s_named).names.lookup ("isinstance" : Str) = some NameKind.globalImplicit := by decide +kernel
theorem g_named_len : (defScope s_named).names.lookup ("len" : Str) = some NameKind.globalImplicit := by decide +kernel
theorem g_named_str : (defScope s_named).names.lookup ("str" : Str) = some NameKind.globalImplicit := by decide +kernel
theorem g_names_law_name : (defScope s_names).names.lookup ("_law_name" : Str) = some NameKind.globalImplicit := by decide +kernel
theorem g_names_range : (defScope s_names).names.lookup ("range" : Str) = some NameKind.globalImplicit := by decide +kernel
theorem g_odd_1_law_of : (relS cs_odd_1 (defScope s_odd)).names.lookup ("_law_of" : Str) = some NameKind.globalImplicit := by decide +kernel
theorem g_odd_2_law_of : (relS cs_odd_2 (defScope s_odd)).names.lookup ("_law_of" : Str) = some NameKind.globalImplicit := by decide +kernel
theorem g_odd_law_draw : (defScope s_odd).names.lookup ("_law_draw" : Str) = some NameKind.globalImplicit := by decide +kernel
theorem g_odd_law_of : (defScope s_odd).names.lookup ("_law_of" : Str) = some NameKind.globalImplicit := by decide +kernel
theorem g_odd_range : (defScope s_odd).names.lookup ("range" : Str) = some NameKind.globalImplicit := by decide +kernel
theorem g_odd_tuple : (defScope s_odd).names.lookup ("tuple" : Str) = some NameKind.globalImplicit := by decide +kernel
theorem g_of_law_draw : (defScope s_of).names.lookup ("_law_draw" : Str) = some NameKind.globalImplicit := by decide +kernel
theorem g_of_len : (defScope s_of).names.lookup ("len" : Str) = some NameKind.globalImplicit := by decide +kernel
theorem g_place_Place : (defScope s_place).names.lookup ("Place" : Str) = some NameKind.globalImplicit := by decide +kernel
theorem g_place_law_draw : (defScope s_place).names.lookup ("_law_draw" : Str) = some NameKind.globalImplicit := by decide +kernel
theorem g_place_so_1_law_named : (relS cs_place_so_1 (defScope s_place_so)).names.lookup ("_law_named" : Str) = some NameKind.globalImplicit := by decide +kernel
theorem g_place_so_L1_law_place : ls_place_so_1.names.lookup ("_law_place" : Str) = some NameKind.globalImplicit := by decide +kernel
theorem g_place_so_Window : (defScope s_place_so).names.lookup ("Window" : Str) = some NameKind.globalImplicit := by decide +kernel
theorem g_place_so_law_ask : (defScope s_place_so).names.lookup ("_law_ask" : Str) = some NameKind.globalImplicit := by decide +kernel
theorem g_place_so_law_like : (defScope s_place_so).names.lookup ("_law_like" : Str) = some NameKind.globalImplicit := by decide +kernel
theorem g_place_so_law_odd : (defScope s_place_so).names.lookup ("_law_odd" : Str) = some NameKind.globalImplicit := by decide +kernel
theorem g_place_so_law_of : (defScope s_place_so).names.lookup ("_law_of" : Str) = some NameKind.globalImplicit := by decide +kernel
theorem g_place_so_law_row : (defScope s_place_so).names.lookup ("_law_row" : Str) = some NameKind.globalImplicit := by decide +kernel
theorem g_place_so_range : (defScope s_place_so).names.lookup ("range" : Str) = some NameKind.globalImplicit := by decide +kernel
theorem g_places_law_draw : (defScope s_places).names.lookup ("_law_draw" : Str) = some NameKind.globalImplicit := by decide +kernel
theorem g_places_law_name : (defScope s_places).names.lookup ("_law_name" : Str) = some NameKind.globalImplicit := by decide +kernel
theorem g_places_law_of : (defScope s_places).names.lookup ("_law_of" : Str) = some NameKind.globalImplicit := by decide +kernel
theorem g_places_range : (defScope s_places).names.lookup ("range" : Str) = some NameKind.globalImplicit := by decide +kernel
theorem g_size_law_bent : (defScope s_size).names.lookup ("_law_bent" : Str) = some NameKind.globalImplicit := by decide +kernel
theorem g_size_law_of : (defScope s_size).names.lookup ("_law_of" : Str) = some NameKind.globalImplicit := by decide +kernel
theorem g_size_len : (defScope s_size).names.lookup ("len" : Str) = some NameKind.globalImplicit := by decide +kernel
theorem g_size_range : (defScope s_size).names.lookup ("range" : Str) = some NameKind.globalImplicit := by decide +kernel
theorem g_so_1_law_row : (relS cs_so_1 (defScope s_so)).names.lookup ("_law_row" : Str) = some NameKind.globalImplicit := by decide +kernel
theorem g_so_2_law_row : (relS cs_so_2 (defScope s_so)).names.lookup ("_law_row" : Str) = some NameKind.globalImplicit := by decide +kernel
theorem g_so_3_law_place : (relS cs_so_3 (defScope s_so)).names.lookup ("_law_place" : Str) = some NameKind.globalImplicit := by decide +kernel
theorem g_so_4_Place : (relS cs_so_4 (defScope s_so)).names.lookup ("Place" : Str) = some NameKind.globalImplicit := by decide +kernel
theorem g_so_4_isinstance : (relS cs_so_4 (defScope s_so)).names.lookup ("isinstance" : Str) = some NameKind.globalImplicit := by decide +kernel
theorem g_so_5_law_place : (relS cs_so_5 (defScope s_so)).names.lookup ("_law_place" : Str) = some NameKind.globalImplicit := by decide +kernel
theorem g_so_L1_law_tree : ls_so_1.names.lookup ("_law_tree" : Str) = some NameKind.globalImplicit := by decide +kernel
theorem g_so_Rule : (defScope s_so).names.lookup ("Rule" : Str) = some NameKind.globalImplicit := by decide +kernel
theorem g_so_Window : (defScope s_so).names.lookup ("Window" : Str) = some NameKind.globalImplicit := by decide +kernel
theorem g_so_isinstance : (defScope s_so).names.lookup ("isinstance" : Str) = some NameKind.globalImplicit := by decide +kernel
theorem g_so_law_ask : (defScope s_so).names.lookup ("_law_ask" : Str) = some NameKind.globalImplicit := by decide +kernel
theorem g_so_law_draw : (defScope s_so).names.lookup ("_law_draw" : Str) = some NameKind.globalImplicit := by decide +kernel
theorem g_so_law_due : (defScope s_so).names.lookup ("_law_due" : Str) = some NameKind.globalImplicit := by decide +kernel
theorem g_so_law_like : (defScope s_so).names.lookup ("_law_like" : Str) = some NameKind.globalImplicit := by decide +kernel
theorem g_so_law_odd : (defScope s_so).names.lookup ("_law_odd" : Str) = some NameKind.globalImplicit := by decide +kernel
theorem g_so_law_of : (defScope s_so).names.lookup ("_law_of" : Str) = some NameKind.globalImplicit := by decide +kernel
theorem g_so_law_size : (defScope s_so).names.lookup ("_law_size" : Str) = some NameKind.globalImplicit := by decide +kernel
theorem g_so_law_tree : (defScope s_so).names.lookup ("_law_tree" : Str) = some NameKind.globalImplicit := by decide +kernel
theorem g_so_len : (defScope s_so).names.lookup ("len" : Str) = some NameKind.globalImplicit := by decide +kernel
theorem g_so_min : (defScope s_so).names.lookup ("min" : Str) = some NameKind.globalImplicit := by decide +kernel
theorem g_so_range : (defScope s_so).names.lookup ("range" : Str) = some NameKind.globalImplicit := by decide +kernel
theorem g_tree_Tree : (defScope s_tree).names.lookup ("Tree" : Str) = some NameKind.globalImplicit := by decide +kernel
theorem g_tree_len : (defScope s_tree).names.lookup ("len" : Str) = some NameKind.globalImplicit := by decide +kernel
theorem l_BadTree_init_self : locB (defScope s_BadTree_init) "self" = true := by decide +kernel
theorem l_InvalidName_init_self : locB (defScope s_InvalidName_init) "self" = true := by decide +kernel
theorem l_InvalidPlace_init_self : locB (defScope s_InvalidPlace_init) "self" = true := by decide +kernel
theorem l_InvalidRule_init_self : locB (defScope s_InvalidRule_init) "self" = true := by decide +kernel
theorem l_Place_init_value : locB (defScope s_Place_init) "value" = true := by decide +kernel
theorem l_TooMany_init_self : locB (defScope s_TooMany_init) "self" = true := by decide +kernel
theorem l_Tree_fits_elder : locB (defScope s_Tree_fits) "elder" = true := by decide +kernel
theorem l_Tree_init_at : locB (defScope s_Tree_init) "at" = true := by decide +kernel
theorem l_Tree_init_place : locB (defScope s_Tree_init) "place" = true := by decide +kernel
theorem l_Window_init_self : locB (defScope s_Window_init) "self" = true := by decide +kernel
theorem l_ask_error : locB (defScope s_ask) "error" = true := by decide +kernel
theorem l_ask_law_fault : locB (defScope s_ask) "_law_fault" = true := by decide +kernel
theorem l_ask_law_told : locB (defScope s_ask) "_law_told" = true := by decide +kernel
theorem l_at_fault_1_law_one : locB (relS cs_at_fault_1 (defScope s_at_fault)) "_law_one" = true := by decide +kernel
theorem l_at_fault_2_law_one : locB (relS cs_at_fault_2 (defScope s_at_fault)) "_law_one" = true := by decide +kernel
theorem l_at_fault_3_law_one : locB (relS cs_at_fault_3 (defScope s_at_fault)) "_law_one" = true := by decide +kernel
theorem l_at_fault_law_above : locB (defScope s_at_fault) "_law_above" = true := by decide +kernel
theorem l_at_fault_law_ahead : locB (defScope s_at_fault) "_law_ahead" = true := by decide +kernel
theorem l_bag_law_item : locB (defScope s_bag) "_law_item" = true := by decide +kernel
theorem l_bag_law_seed : locB (defScope s_bag) "_law_seed" = true := by decide +kernel
theorem l_bent_law_first : locB (defScope s_bent) "_law_first" = true := by decide +kernel
theorem l_bent_law_j : locB (defScope s_bent) "_law_j" = true := by decide +kernel
theorem l_bent_law_k : locB (defScope s_bent) "_law_k" = true := by decide +kernel
theorem l_bent_law_other : locB (defScope s_bent) "_law_other" = true := by decide +kernel
theorem l_bent_law_pick : locB (defScope s_bent) "_law_pick" = true := by decide +kernel
theorem l_bent_law_row_here : locB (defScope s_bent) "_law_row_here" = true := by decide +kernel
theorem l_bent_law_some : locB (defScope s_bent) "_law_some" = true := by decide +kernel
theorem l_draw_law_digit : locB (defScope s_draw) "_law_digit" = true := by decide +kernel
theorem l_draw_law_item : locB (defScope s_draw) "_law_item" = true := by decide +kernel
theorem l_due_law_j : locB (defScope s_due) "_law_j" = true := by decide +kernel
theorem l_is_name_sign : locB (defScope s_is_name) "sign" = true := by decide +kernel
theorem l_law_law_bag_here : locB (defScope s_law) "_law_bag_here" = true := by decide +kernel
theorem l_law_law_hosts : locB (defScope s_law) "_law_hosts" = true := by decide +kernel
theorem l_law_law_k : locB (defScope s_law) "_law_k" = true := by decide +kernel
theorem l_law_law_many : locB (defScope s_law) "_law_many" = true := by decide +kernel
theorem l_law_law_rows : locB (defScope s_law) "_law_rows" = true := by decide +kernel
theorem l_like_1_law_a : locB (relS cs_like_1 (defScope s_like)) "_law_a" = true := by decide +kernel
theorem l_like_1_law_b : locB (relS cs_like_1 (defScope s_like)) "_law_b" = true := by decide +kernel
theorem l_name_1_law_k : locB (relS cs_name_1 (defScope s_name)) "_law_k" = true := by decide +kernel
theorem l_name_law_k : locB (defScope s_name) "_law_k" = true := by decide +kernel
theorem l_name_law_word : locB (defScope s_name) "_law_word" = true := by decide +kernel
theorem l_named_1_law_sign : locB (relS cs_named_1 (defScope s_named)) "_law_sign" = true := by decide +kernel
theorem l_names_law_k : locB (defScope s_names) "_law_k" = true := by decide +kernel
theorem l_names_law_some : locB (defScope s_names) "_law_some" = true := by decide +kernel
theorem l_odd_1_law_k : locB (relS cs_odd_1 (defScope s_odd)) "_law_k" = true := by decide +kernel
theorem l_odd_2_law_k : locB (relS cs_odd_2 (defScope s_odd)) "_law_k" = true := by decide +kernel
theorem l_odd_law_pick : locB (defScope s_odd) "_law_pick" = true := by decide +kernel
theorem l_place_law_pick : locB (defScope s_place) "_law_pick" = true := by decide +kernel
theorem l_place_so_1_law_k : locB (relS cs_place_so_1 (defScope s_place_so)) "_law_k" = true := by decide +kernel
theorem l_place_so_law_fault : locB (defScope s_place_so) "_law_fault" = true := by decide +kernel
theorem l_place_so_law_k : locB (defScope s_place_so) "_law_k" = true := by decide +kernel
theorem l_place_so_law_told : locB (defScope s_place_so) "_law_told" = true := by decide +kernel
theorem l_place_so_law_wrong : locB (defScope s_place_so) "_law_wrong" = true := by decide +kernel
theorem l_places_1_law_one : locB (relS cs_places_1 (defScope s_places)) "_law_one" = true := by decide +kernel
theorem l_places_2_law_row_here : locB (relS cs_places_2 (defScope s_places)) "_law_row_here" = true := by decide +kernel
theorem l_places_3_law_row_here : locB (relS cs_places_3 (defScope s_places)) "_law_row_here" = true := by decide +kernel
theorem l_places_law_above : locB (defScope s_places) "_law_above" = true := by decide +kernel
theorem l_places_law_free : locB (defScope s_places) "_law_free" = true := by decide +kernel
theorem l_places_law_host : locB (defScope s_places) "_law_host" = true := by decide +kernel
theorem l_places_law_k : locB (defScope s_places) "_law_k" = true := by decide +kernel
theorem l_places_law_label : locB (defScope s_places) "_law_label" = true := by decide +kernel
theorem l_places_law_place_here : locB (defScope s_places) "_law_place_here" = true := by decide +kernel
theorem l_places_law_soft : locB (defScope s_places) "_law_soft" = true := by decide +kernel
theorem l_places_law_some : locB (defScope s_places) "_law_some" = true := by decide +kernel
theorem l_size_1_law_k : locB (relS cs_size_1 (defScope s_size)) "_law_k" = true := by decide +kernel
theorem l_size_law_k : locB (defScope s_size) "_law_k" = true := by decide +kernel
theorem l_size_law_more : locB (defScope s_size) "_law_more" = true := by decide +kernel
theorem l_size_law_some : locB (defScope s_size) "_law_some" = true := by decide +kernel
theorem l_so_1_law_place_here : locB (relS cs_so_1 (defScope s_so)) "_law_place_here" = true := by decide +kernel
theorem l_so_2_law_place_here : locB (relS cs_so_2 (defScope s_so)) "_law_place_here" = true := by decide +kernel
theorem l_so_3_law_row_here : locB (relS cs_so_3 (defScope s_so)) "_law_row_here" = true := by decide +kernel
theorem l_so_4_law_k : locB (relS cs_so_4 (defScope s_so)) "_law_k" = true := by decide +kernel
theorem l_so_5_law_row_here : locB (relS cs_so_5 (defScope s_so)) "_law_row_here" = true := by decide +kernel
theorem l_so_law_at : locB (defScope s_so) "_law_at" = true := by decide +kernel
theorem l_so_law_due_here : locB (defScope s_so) "_law_due_here" = true := by decide +kernel
theorem l_so_law_fault : locB (defScope s_so) "_law_fault" = true := by decide +kernel
theorem l_so_law_k : locB (defScope s_so) "_law_k" = true := by decide +kernel
theorem l_so_law_right : locB (defScope s_so) "_law_right" = true := by decide +kernel
theorem l_so_law_some : locB (defScope s_so) "_law_some" = true := by decide +kernel
theorem l_so_law_told : locB (defScope s_so) "_law_told" = true := by decide +kernel
theorem lam_place_so_ls_place_so_1 : LamX.lamSB (defScope s_place_so) ls_place_so_1 = true := by decide +kernel
theorem lam_so_ls_so_1 : LamX.lamSB (defScope s_so) ls_so_1 = true := by decide +kernel
theorem ok_cs_at_fault_1 : BlkOk N_at_fault (defScope s_at_fault) cs_at_fault_1 [("_law_one", 5)] := blkOk_by (by decide +kernel)
theorem ok_cs_at_fault_2 : BlkOk N_at_fault (defScope s_at_fault) cs_at_fault_2 [("_law_one", 5)] := blkOk_by (by decide +kernel)
theorem ok_cs_at_fault_3 : BlkOk N_at_fault (defScope s_at_fault) cs_at_fault_3 [("_law_one", 5)] := blkOk_by (by decide +kernel)
theorem ok_cs_like_1 : BlkOk N_like (defScope s_like) cs_like_1 [("_law_a", 2), ("_law_b", 3)] := blkOk_by (by decide +kernel)
theorem ok_cs_name_1 : BlkOk N_name (defScope s_name) cs_name_1 [("_law_k", 2)] := blkOk_by (by decide +kernel)
theorem ok_cs_named_1 : BlkOk N_named (defScope s_named) cs_named_1 [("_law_sign", 1)] := blkOk_by (by decide +kernel)
theorem ok_cs_odd_1 : BlkOk N_odd (defScope s_odd) cs_odd_1 [("_law_k", 2)] := blkOk_by (by decide +kernel)
theorem ok_cs_odd_2 : BlkOk N_odd (defScope s_odd) cs_odd_2 [("_law_k", 2)] := blkOk_by (by decide +kernel)
theorem ok_cs_place_so_1 : BlkOk N_place_so (defScope s_place_so) cs_place_so_1 [("_law_k", 1)] := blkOk_by (by decide +kernel)
theorem ok_cs_places_1 : BlkOk N_places (defScope s_places) cs_places_1 [("_law_one", 14)] := blkOk_by (by decide +kernel)
theorem ok_cs_places_2 : BlkOk N_places (defScope s_places) cs_places_2 [("_law_row_here", 13)] := blkOk_by (by decide +kernel)
theorem ok_cs_places_3 : BlkOk N_places (defScope s_places) cs_places_3 [("_law_row_here", 13)] := blkOk_by (by decide +kernel)
theorem ok_cs_size_1 : BlkOk N_size (defScope s_size) cs_size_1 [("_law_k", 4)] := blkOk_by (by decide +kernel)
theorem ok_cs_so_1 : BlkOk N_so (defScope s_so) cs_so_1 [("_law_place_here", 13)] := blkOk_by (by decide +kernel)
theorem ok_cs_so_2 : BlkOk N_so (defScope s_so) cs_so_2 [("_law_place_here", 13)] := blkOk_by (by decide +kernel)
theorem ok_cs_so_3 : BlkOk N_so (defScope s_so) cs_so_3 [("_law_row_here", 12)] := blkOk_by (by decide +kernel)
theorem ok_cs_so_4 : BlkOk N_so (defScope s_so) cs_so_4 [("_law_k", 6)] := blkOk_by (by decide +kernel)
theorem ok_cs_so_5 : BlkOk N_so (defScope s_so) cs_so_5 [("_law_row_here", 12)] := blkOk_by (by decide +kernel)
theorem v_BadTree_init_place : visB (defScope s_BadTree_init) "place" = true := by decide +kernel
theorem v_BadTree_init_self : visB (defScope s_BadTree_init) "self" = true := by decide +kernel
theorem v_InvalidName_init_self : visB (defScope s_InvalidName_init) "self" = true := by decide +kernel
theorem v_InvalidName_init_value : visB (defScope s_InvalidName_init) "value" = true := by decide +kernel
theorem v_InvalidPlace_init_at : visB (defScope s_InvalidPlace_init) "at" = true := by decide +kernel
theorem v_InvalidPlace_init_self : visB (defScope s_InvalidPlace_init) "self" = true := by decide +kernel
theorem v_InvalidRule_init_self : visB (defScope s_InvalidRule_init) "self" = true := by decide +kernel
theorem v_InvalidRule_init_value : visB (defScope s_InvalidRule_init) "value" = true := by decide +kernel
theorem v_Place_eq_other : visB (defScope s_Place_eq) "other" = true := by decide +kernel
theorem v_Place_eq_self : visB (defScope s_Place_eq) "self" = true := by decide +kernel
theorem v_Place_init_customer : visB (defScope s_Place_init) "customer" = true := by decide +kernel
theorem v_Place_init_elder : visB (defScope s_Place_init) "elder" = true := by decide +kernel
theorem v_Place_init_memory : visB (defScope s_Place_init) "memory" = true := by decide +kernel
theorem v_Place_init_name : visB (defScope s_Place_init) "name" = true := by decide +kernel
theorem v_Place_init_self : visB (defScope s_Place_init) "self" = true := by decide +kernel
theorem v_Place_init_server : visB (defScope s_Place_init) "server" = true := by decide +kernel
theorem v_Place_init_value : visB (defScope s_Place_init) "value" = true := by decide +kernel
theorem v_Rest_eq_other : visB (defScope s_Rest_eq) "other" = true := by decide +kernel
theorem v_Rest_eq_self : visB (defScope s_Rest_eq) "self" = true := by decide +kernel
theorem v_Rest_init_bend : visB (defScope s_Rest_init) "bend" = true := by decide +kernel
theorem v_Rest_init_forms : visB (defScope s_Rest_init) "forms" = true := by decide +kernel
theorem v_Rest_init_period : visB (defScope s_Rest_init) "period" = true := by decide +kernel
theorem v_Rest_init_self : visB (defScope s_Rest_init) "self" = true := by decide +kernel
theorem v_Rest_init_text : visB (defScope s_Rest_init) "text" = true := by decide +kernel
theorem v_Rule_init_chips : visB (defScope s_Rule_init) "chips" = true := by decide +kernel
theorem v_Rule_init_name : visB (defScope s_Rule_init) "name" = true := by decide +kernel
theorem v_Rule_init_rest : visB (defScope s_Rule_init) "rest" = true := by decide +kernel
theorem v_Rule_init_self : visB (defScope s_Rule_init) "self" = true := by decide +kernel
theorem v_TooMany_init_count : visB (defScope s_TooMany_init) "count" = true := by decide +kernel
theorem v_TooMany_init_self : visB (defScope s_TooMany_init) "self" = true := by decide +kernel
theorem v_TooMany_init_what : visB (defScope s_TooMany_init) "what" = true := by decide +kernel
theorem v_Tree_fits_elder : visB (defScope s_Tree_fits) "elder" = true := by decide +kernel
theorem v_Tree_fits_place : visB (defScope s_Tree_fits) "place" = true := by decide +kernel
theorem v_Tree_fits_self : visB (defScope s_Tree_fits) "self" = true := by decide +kernel
theorem v_Tree_init_at : visB (defScope s_Tree_init) "at" = true := by decide +kernel
theorem v_Tree_init_place : visB (defScope s_Tree_init) "place" = true := by decide +kernel
theorem v_Tree_init_places : visB (defScope s_Tree_init) "places" = true := by decide +kernel
theorem v_Tree_init_rule : visB (defScope s_Tree_init) "rule" = true := by decide +kernel
theorem v_Tree_init_self : visB (defScope s_Tree_init) "self" = true := by decide +kernel
theorem v_Tree_len_self : visB (defScope s_Tree_len) "self" = true := by decide +kernel
theorem v_Tree_places_self : visB (defScope s_Tree_places) "self" = true := by decide +kernel
theorem v_Window_init_self : visB (defScope s_Window_init) "self" = true := by decide +kernel
theorem v_Window_init_width : visB (defScope s_Window_init) "width" = true := by decide +kernel
theorem v_ask_error : visB (defScope s_ask) "error" = true := by decide +kernel
theorem v_ask_law_fault : visB (defScope s_ask) "_law_fault" = true := by decide +kernel
theorem v_ask_law_told : visB (defScope s_ask) "_law_told" = true := by decide +kernel
theorem v_at_fault_1_law_one : visB (relS cs_at_fault_1 (defScope s_at_fault)) "_law_one" = true := by decide +kernel
theorem v_at_fault_2_law_one : visB (relS cs_at_fault_2 (defScope s_at_fault)) "_law_one" = true := by decide +kernel
theorem v_at_fault_2_law_row_here : visB (relS cs_at_fault_2 (defScope s_at_fault)) "_law_row_here" = true := by decide +kernel
theorem v_at_fault_3_law_one : visB (relS cs_at_fault_3 (defScope s_at_fault)) "_law_one" = true := by decide +kernel
theorem v_at_fault_law_above : visB (defScope s_at_fault) "_law_above" = true := by decide +kernel
theorem v_at_fault_law_ahead : visB (defScope s_at_fault) "_law_ahead" = true := by decide +kernel
theorem v_at_fault_law_j : visB (defScope s_at_fault) "_law_j" = true := by decide +kernel
theorem v_at_fault_law_row_here : visB (defScope s_at_fault) "_law_row_here" = true := by decide +kernel
theorem v_at_fault_law_rows : visB (defScope s_at_fault) "_law_rows" = true := by decide +kernel
theorem v_bag_law_item : visB (defScope s_bag) "_law_item" = true := by decide +kernel
theorem v_bag_law_script : visB (defScope s_bag) "_law_script" = true := by decide +kernel
theorem v_bag_law_seed : visB (defScope s_bag) "_law_seed" = true := by decide +kernel
theorem v_bent_law_bag_here : visB (defScope s_bent) "_law_bag_here" = true := by decide +kernel
theorem v_bent_law_first : visB (defScope s_bent) "_law_first" = true := by decide +kernel
theorem v_bent_law_hosts : visB (defScope s_bent) "_law_hosts" = true := by decide +kernel
theorem v_bent_law_j : visB (defScope s_bent) "_law_j" = true := by decide +kernel
theorem v_bent_law_k : visB (defScope s_bent) "_law_k" = true := by decide +kernel
theorem v_bent_law_other : visB (defScope s_bent) "_law_other" = true := by decide +kernel
theorem v_bent_law_pick : visB (defScope s_bent) "_law_pick" = true := by decide +kernel
theorem v_bent_law_row_here : visB (defScope s_bent) "_law_row_here" = true := by decide +kernel
theorem v_bent_law_rows : visB (defScope s_bent) "_law_rows" = true := by decide +kernel
theorem v_bent_law_some : visB (defScope s_bent) "_law_some" = true := by decide +kernel
theorem v_draw_law_bag_here : visB (defScope s_draw) "_law_bag_here" = true := by decide +kernel
theorem v_draw_law_digit : visB (defScope s_draw) "_law_digit" = true := by decide +kernel
theorem v_draw_law_item : visB (defScope s_draw) "_law_item" = true := by decide +kernel
theorem v_draw_law_limit : visB (defScope s_draw) "_law_limit" = true := by decide +kernel
theorem v_due_law_j : visB (defScope s_due) "_law_j" = true := by decide +kernel
theorem v_due_law_rows : visB (defScope s_due) "_law_rows" = true := by decide +kernel
theorem v_is_name_sign : visB (defScope s_is_name) "sign" = true := by decide +kernel
theorem v_is_name_value : visB (defScope s_is_name) "value" = true := by decide +kernel
theorem v_is_number_least : visB (defScope s_is_number) "least" = true := by decide +kernel
theorem v_is_number_most : visB (defScope s_is_number) "most" = true := by decide +kernel
theorem v_is_number_value : visB (defScope s_is_number) "value" = true := by decide +kernel
theorem v_law_law_bag_here : visB (defScope s_law) "_law_bag_here" = true := by decide +kernel
theorem v_law_law_hosts : visB (defScope s_law) "_law_hosts" = true := by decide +kernel
theorem v_law_law_many : visB (defScope s_law) "_law_many" = true := by decide +kernel
theorem v_law_law_rows : visB (defScope s_law) "_law_rows" = true := by decide +kernel
theorem v_law_law_script : visB (defScope s_law) "_law_script" = true := by decide +kernel
theorem v_like_1_law_a : visB (relS cs_like_1 (defScope s_like)) "_law_a" = true := by decide +kernel
theorem v_like_1_law_b : visB (relS cs_like_1 (defScope s_like)) "_law_b" = true := by decide +kernel
theorem v_like_law_due_here : visB (defScope s_like) "_law_due_here" = true := by decide +kernel
theorem v_like_law_told : visB (defScope s_like) "_law_told" = true := by decide +kernel
theorem v_name_1_law_bag_here : visB (relS cs_name_1 (defScope s_name)) "_law_bag_here" = true := by decide +kernel
theorem v_name_law_bag_here : visB (defScope s_name) "_law_bag_here" = true := by decide +kernel
theorem v_name_law_k : visB (defScope s_name) "_law_k" = true := by decide +kernel
theorem v_name_law_taken : visB (defScope s_name) "_law_taken" = true := by decide +kernel
theorem v_name_law_word : visB (defScope s_name) "_law_word" = true := by decide +kernel
theorem v_named_1_law_sign : visB (relS cs_named_1 (defScope s_named)) "_law_sign" = true := by decide +kernel
theorem v_named_law_thing : visB (defScope s_named) "_law_thing" = true := by decide +kernel
theorem v_names_law_bag_here : visB (defScope s_names) "_law_bag_here" = true := by decide +kernel
theorem v_names_law_many : visB (defScope s_names) "_law_many" = true := by decide +kernel
theorem v_names_law_some : visB (defScope s_names) "_law_some" = true := by decide +kernel
theorem v_odd_1_law_bag_here : visB (relS cs_odd_1 (defScope s_odd)) "_law_bag_here" = true := by decide +kernel
theorem v_odd_2_law_bag_here : visB (relS cs_odd_2 (defScope s_odd)) "_law_bag_here" = true := by decide +kernel
theorem v_odd_law_bag_here : visB (defScope s_odd) "_law_bag_here" = true := by decide +kernel
theorem v_odd_law_pick : visB (defScope s_odd) "_law_pick" = true := by decide +kernel
theorem v_of_law_bag_here : visB (defScope s_of) "_law_bag_here" = true := by decide +kernel
theorem v_of_law_things : visB (defScope s_of) "_law_things" = true := by decide +kernel
theorem v_place_law_bag_here : visB (defScope s_place) "_law_bag_here" = true := by decide +kernel
theorem v_place_law_pick : visB (defScope s_place) "_law_pick" = true := by decide +kernel
theorem v_place_law_row_here : visB (defScope s_place) "_law_row_here" = true := by decide +kernel
theorem v_place_so_1_law_k : visB (relS cs_place_so_1 (defScope s_place_so)) "_law_k" = true := by decide +kernel
theorem v_place_so_1_law_some : visB (relS cs_place_so_1 (defScope s_place_so)) "_law_some" = true := by decide +kernel
theorem v_place_so_L1_law_bag_here : visB ls_place_so_1 "_law_bag_here" = true := by decide +kernel
theorem v_place_so_L1_law_some : visB ls_place_so_1 "_law_some" = true := by decide +kernel
theorem v_place_so_law_bag_here : visB (defScope s_place_so) "_law_bag_here" = true := by decide +kernel
theorem v_place_so_law_fault : visB (defScope s_place_so) "_law_fault" = true := by decide +kernel
theorem v_place_so_law_some : visB (defScope s_place_so) "_law_some" = true := by decide +kernel
theorem v_place_so_law_told : visB (defScope s_place_so) "_law_told" = true := by decide +kernel
theorem v_place_so_law_wrong : visB (defScope s_place_so) "_law_wrong" = true := by decide +kernel
theorem v_places_1_law_one : visB (relS cs_places_1 (defScope s_places)) "_law_one" = true := by decide +kernel
theorem v_places_1_law_used : visB (relS cs_places_1 (defScope s_places)) "_law_used" = true := by decide +kernel
theorem v_places_2_law_row_here : visB (relS cs_places_2 (defScope s_places)) "_law_row_here" = true := by decide +kernel
theorem v_places_3_law_row_here : visB (relS cs_places_3 (defScope s_places)) "_law_row_here" = true := by decide +kernel
theorem v_places_law_above : visB (defScope s_places) "_law_above" = true := by decide +kernel
theorem v_places_law_bag_here : visB (defScope s_places) "_law_bag_here" = true := by decide +kernel
theorem v_places_law_free : visB (defScope s_places) "_law_free" = true := by decide +kernel
theorem v_places_law_host : visB (defScope s_places) "_law_host" = true := by decide +kernel
theorem v_places_law_hosts : visB (defScope s_places) "_law_hosts" = true := by decide +kernel
theorem v_places_law_k : visB (defScope s_places) "_law_k" = true := by decide +kernel
theorem v_places_law_label : visB (defScope s_places) "_law_label" = true := by decide +kernel
theorem v_places_law_many : visB (defScope s_places) "_law_many" = true := by decide +kernel
theorem v_places_law_owners : visB (defScope s_places) "_law_owners" = true := by decide +kernel
theorem v_places_law_place_here : visB (defScope s_places) "_law_place_here" = true := by decide +kernel
theorem v_places_law_soft : visB (defScope s_places) "_law_soft" = true := by decide +kernel
theorem v_places_law_some : visB (defScope s_places) "_law_some" = true := by decide +kernel
theorem v_places_law_used : visB (defScope s_places) "_law_used" = true := by decide +kernel
theorem v_row_law_place_here : visB (defScope s_row) "_law_place_here" = true := by decide +kernel
theorem v_size_1_law_k : visB (relS cs_size_1 (defScope s_size)) "_law_k" = true := by decide +kernel
theorem v_size_1_law_rows : visB (relS cs_size_1 (defScope s_size)) "_law_rows" = true := by decide +kernel
theorem v_size_law_bag_here : visB (defScope s_size) "_law_bag_here" = true := by decide +kernel
theorem v_size_law_hosts : visB (defScope s_size) "_law_hosts" = true := by decide +kernel
theorem v_size_law_more : visB (defScope s_size) "_law_more" = true := by decide +kernel
theorem v_size_law_rows : visB (defScope s_size) "_law_rows" = true := by decide +kernel
theorem v_size_law_some : visB (defScope s_size) "_law_some" = true := by decide +kernel
theorem v_so_1_law_place_here : visB (relS cs_so_1 (defScope s_so)) "_law_place_here" = true := by decide +kernel
theorem v_so_2_law_place_here : visB (relS cs_so_2 (defScope s_so)) "_law_place_here" = true := by decide +kernel
theorem v_so_3_law_bag_here : visB (relS cs_so_3 (defScope s_so)) "_law_bag_here" = true := by decide +kernel
theorem v_so_3_law_row_here : visB (relS cs_so_3 (defScope s_so)) "_law_row_here" = true := by decide +kernel
theorem v_so_4_law_k : visB (relS cs_so_4 (defScope s_so)) "_law_k" = true := by decide +kernel
theorem v_so_4_law_things : visB (relS cs_so_4 (defScope s_so)) "_law_things" = true := by decide +kernel
theorem v_so_5_law_bag_here : visB (relS cs_so_5 (defScope s_so)) "_law_bag_here" = true := by decide +kernel
theorem v_so_5_law_row_here : visB (relS cs_so_5 (defScope s_so)) "_law_row_here" = true := by decide +kernel
theorem v_so_L1_law_rule : visB ls_so_1 "_law_rule" = true := by decide +kernel
theorem v_so_L1_law_things : visB ls_so_1 "_law_things" = true := by decide +kernel
theorem v_so_law_at : visB (defScope s_so) "_law_at" = true := by decide +kernel
theorem v_so_law_bag_here : visB (defScope s_so) "_law_bag_here" = true := by decide +kernel
theorem v_so_law_due_here : visB (defScope s_so) "_law_due_here" = true := by decide +kernel
theorem v_so_law_fault : visB (defScope s_so) "_law_fault" = true := by decide +kernel
theorem v_so_law_hosts : visB (defScope s_so) "_law_hosts" = true := by decide +kernel
theorem v_so_law_right : visB (defScope s_so) "_law_right" = true := by decide +kernel
theorem v_so_law_rows : visB (defScope s_so) "_law_rows" = true := by decide +kernel
theorem v_so_law_rule : visB (defScope s_so) "_law_rule" = true := by decide +kernel
theorem v_so_law_some : visB (defScope s_so) "_law_some" = true := by decide +kernel
theorem v_so_law_things : visB (defScope s_so) "_law_things" = true := by decide +kernel
theorem v_so_law_told : visB (defScope s_so) "_law_told" = true := by decide +kernel
theorem v_tree_law_p : visB (defScope s_tree) "_law_p" = true := by decide +kernel
theorem v_tree_law_rule : visB (defScope s_tree) "_law_rule" = true := by decide +kernel
theorem vl_ask : Vis (defScope s_ask) "_law_deed" := (visB_ok (by decide +kernel)).1
structure Tx (K : PySem.W.Frag) (mg : Str → Option Value) where
  C_SureletError : Addr
  m_SureletError : mg "SureletError" = some (.ref C_SureletError)
  C_InvalidName : Addr
  m_InvalidName : mg "InvalidName" = some (.ref C_InvalidName)
  C_InvalidRule : Addr
  m_InvalidRule : mg "InvalidRule" = some (.ref C_InvalidRule)
  C_InvalidPlace : Addr
  m_InvalidPlace : mg "InvalidPlace" = some (.ref C_InvalidPlace)
  C_BadTree : Addr
  m_BadTree : mg "BadTree" = some (.ref C_BadTree)
  C_TooMany : Addr
  m_TooMany : mg "TooMany" = some (.ref C_TooMany)
  C_Place : Addr
  m_Place : mg "Place" = some (.ref C_Place)
  C_Tree : Addr
  m_Tree : mg "Tree" = some (.ref C_Tree)
  C_Rest : Addr
  m_Rest : mg "Rest" = some (.ref C_Rest)
  C_Window : Addr
  m_Window : mg "Window" = some (.ref C_Window)
  C_Rule : Addr
  m_Rule : mg "Rule" = some (.ref C_Rule)
  a_InvalidName_init : Addr
  cc_InvalidName_init : Addr
  cda_InvalidName_init : Addr
  fd_InvalidName_init : FuncData
  F_InvalidName_init : FunS K "__init__" "InvalidName.__init__" s_InvalidName_init a_InvalidName_init fd_InvalidName_init cc_InvalidName_init cda_InvalidName_init
  b_InvalidName_init : Binds K fd_InvalidName_init P_InvalidName_init []
  ce_InvalidName_init : ∃ cl cld csl, K.lookup cc_InvalidName_init = some ⟨cl, cld, .cell (some (.ref C_InvalidName)), csl⟩
  sd_InvalidName_init : SupDef P K mg a_InvalidName_init C_InvalidName cc_InvalidName_init cda_InvalidName_init "self"
  k_InvalidName_init : PySem.W.keepIn K (.ref a_InvalidName_init) = true
  a_InvalidRule_init : Addr
  cc_InvalidRule_init : Addr
  cda_InvalidRule_init : Addr
  fd_InvalidRule_init : FuncData
  F_InvalidRule_init : FunS K "__init__" "InvalidRule.__init__" s_InvalidRule_init a_InvalidRule_init fd_InvalidRule_init cc_InvalidRule_init cda_InvalidRule_init
  b_InvalidRule_init : Binds K fd_InvalidRule_init P_InvalidRule_init []
  ce_InvalidRule_init : ∃ cl cld csl, K.lookup cc_InvalidRule_init = some ⟨cl, cld, .cell (some (.ref C_InvalidRule)), csl⟩
  sd_InvalidRule_init : SupDef P K mg a_InvalidRule_init C_InvalidRule cc_InvalidRule_init cda_InvalidRule_init "self"
  k_InvalidRule_init : PySem.W.keepIn K (.ref a_InvalidRule_init) = true
  a_InvalidPlace_init : Addr
  cc_InvalidPlace_init : Addr
  cda_InvalidPlace_init : Addr
  fd_InvalidPlace_init : FuncData
  F_InvalidPlace_init : FunS K "__init__" "InvalidPlace.__init__" s_InvalidPlace_init a_InvalidPlace_init fd_InvalidPlace_init cc_InvalidPlace_init cda_InvalidPlace_init
  b_InvalidPlace_init : Binds K fd_InvalidPlace_init P_InvalidPlace_init []
  ce_InvalidPlace_init : ∃ cl cld csl, K.lookup cc_InvalidPlace_init = some ⟨cl, cld, .cell (some (.ref C_InvalidPlace)), csl⟩
  sd_InvalidPlace_init : SupDef P K mg a_InvalidPlace_init C_InvalidPlace cc_InvalidPlace_init cda_InvalidPlace_init "self"
  k_InvalidPlace_init : PySem.W.keepIn K (.ref a_InvalidPlace_init) = true
  a_BadTree_init : Addr
  cc_BadTree_init : Addr
  cda_BadTree_init : Addr
  fd_BadTree_init : FuncData
  F_BadTree_init : FunS K "__init__" "BadTree.__init__" s_BadTree_init a_BadTree_init fd_BadTree_init cc_BadTree_init cda_BadTree_init
  b_BadTree_init : Binds K fd_BadTree_init P_BadTree_init []
  ce_BadTree_init : ∃ cl cld csl, K.lookup cc_BadTree_init = some ⟨cl, cld, .cell (some (.ref C_BadTree)), csl⟩
  sd_BadTree_init : SupDef P K mg a_BadTree_init C_BadTree cc_BadTree_init cda_BadTree_init "self"
  k_BadTree_init : PySem.W.keepIn K (.ref a_BadTree_init) = true
  a_TooMany_init : Addr
  cc_TooMany_init : Addr
  cda_TooMany_init : Addr
  fd_TooMany_init : FuncData
  F_TooMany_init : FunS K "__init__" "TooMany.__init__" s_TooMany_init a_TooMany_init fd_TooMany_init cc_TooMany_init cda_TooMany_init
  b_TooMany_init : Binds K fd_TooMany_init P_TooMany_init []
  ce_TooMany_init : ∃ cl cld csl, K.lookup cc_TooMany_init = some ⟨cl, cld, .cell (some (.ref C_TooMany)), csl⟩
  sd_TooMany_init : SupDef P K mg a_TooMany_init C_TooMany cc_TooMany_init cda_TooMany_init "self"
  k_TooMany_init : PySem.W.keepIn K (.ref a_TooMany_init) = true
  a_is_number : Addr
  fd_is_number : FuncData
  F_is_number : Fun K "is_number" "is_number" s_is_number a_is_number fd_is_number
  b_is_number : Binds K fd_is_number P_is_number []
  k_is_number : PySem.W.keepIn K (.ref a_is_number) = true
  m_is_number : mg "is_number" = some (.ref a_is_number)
  a_is_name : Addr
  fd_is_name : FuncData
  F_is_name : Fun K "is_name" "is_name" s_is_name a_is_name fd_is_name
  b_is_name : Binds K fd_is_name P_is_name []
  k_is_name : PySem.W.keepIn K (.ref a_is_name) = true
  m_is_name : mg "is_name" = some (.ref a_is_name)
  a_Rest_init : Addr
  fd_Rest_init : FuncData
  F_Rest_init : Fun K "__init__" "Rest.__init__" s_Rest_init a_Rest_init fd_Rest_init
  b_Rest_init : Binds K fd_Rest_init P_Rest_init []
  k_Rest_init : PySem.W.keepIn K (.ref a_Rest_init) = true
  a_Rest_eq : Addr
  fd_Rest_eq : FuncData
  F_Rest_eq : Fun K "__eq__" "Rest.__eq__" s_Rest_eq a_Rest_eq fd_Rest_eq
  b_Rest_eq : Binds K fd_Rest_eq P_Rest_eq []
  k_Rest_eq : PySem.W.keepIn K (.ref a_Rest_eq) = true
  a_Window_init : Addr
  cc_Window_init : Addr
  cda_Window_init : Addr
  fd_Window_init : FuncData
  F_Window_init : FunS K "__init__" "Window.__init__" s_Window_init a_Window_init fd_Window_init cc_Window_init cda_Window_init
  b_Window_init : Binds K fd_Window_init P_Window_init []
  ce_Window_init : ∃ cl cld csl, K.lookup cc_Window_init = some ⟨cl, cld, .cell (some (.ref C_Window)), csl⟩
  sd_Window_init : SupDef P K mg a_Window_init C_Window cc_Window_init cda_Window_init "self"
  k_Window_init : PySem.W.keepIn K (.ref a_Window_init) = true
  a_Rule_init : Addr
  fd_Rule_init : FuncData
  F_Rule_init : Fun K "__init__" "Rule.__init__" s_Rule_init a_Rule_init fd_Rule_init
  b_Rule_init : Binds K fd_Rule_init P_Rule_init []
  k_Rule_init : PySem.W.keepIn K (.ref a_Rule_init) = true
  a_Place_init : Addr
  fd_Place_init : FuncData
  F_Place_init : L2.FunD K "__init__" "Place.__init__" (defArgs s_Place_init) (defBody s_Place_init) (defScope s_Place_init) [.non] [(("memory" : Str), .bl false), (("customer" : Str), .non)] a_Place_init fd_Place_init
  k_Place_init : PySem.W.keepIn K (.ref a_Place_init) = true
  a_Place_eq : Addr
  fd_Place_eq : FuncData
  F_Place_eq : Fun K "__eq__" "Place.__eq__" s_Place_eq a_Place_eq fd_Place_eq
  b_Place_eq : Binds K fd_Place_eq P_Place_eq []
  k_Place_eq : PySem.W.keepIn K (.ref a_Place_eq) = true
  a_Tree_init : Addr
  fd_Tree_init : FuncData
  F_Tree_init : Fun K "__init__" "Tree.__init__" s_Tree_init a_Tree_init fd_Tree_init
  bst_Tree_init : ∀ us rest : List Value, us.length = [("self" : Str), ("rule" : Str)].length → bindArgs fd_Tree_init ⟨us ++ rest, []⟩ = (newTuple rest >>= fun t => pure (List.zip [("self" : Str), ("rule" : Str)] us ++ [(("places" : Str), t)]))
  k_Tree_init : PySem.W.keepIn K (.ref a_Tree_init) = true
  a_Tree_fits : Addr
  fd_Tree_fits : FuncData
  F_Tree_fits : Fun K "_fits" "Tree._fits" s_Tree_fits a_Tree_fits fd_Tree_fits
  b_Tree_fits : Binds K fd_Tree_fits P_Tree_fits []
  k_Tree_fits : PySem.W.keepIn K (.ref a_Tree_fits) = true
  a_Tree_places : Addr
  fd_Tree_places : FuncData
  F_Tree_places : Fun K "places" "Tree.places" s_Tree_places a_Tree_places fd_Tree_places
  b_Tree_places : Binds K fd_Tree_places P_Tree_places []
  k_Tree_places : PySem.W.keepIn K (.ref a_Tree_places) = true
  a_Tree_len : Addr
  fd_Tree_len : FuncData
  F_Tree_len : Fun K "__len__" "Tree.__len__" s_Tree_len a_Tree_len fd_Tree_len
  b_Tree_len : Binds K fd_Tree_len P_Tree_len []
  k_Tree_len : PySem.W.keepIn K (.ref a_Tree_len) = true
  a_bag : Addr
  fd_bag : FuncData
  F_bag : Fun K "_law_bag" "_law_bag" s_bag a_bag fd_bag
  b_bag : Binds K fd_bag P_bag []
  k_bag : PySem.W.keepIn K (.ref a_bag) = true
  m_bag : mg "_law_bag" = some (.ref a_bag)
  a_draw : Addr
  fd_draw : FuncData
  F_draw : Fun K "_law_draw" "_law_draw" s_draw a_draw fd_draw
  b_draw : Binds K fd_draw P_draw []
  k_draw : PySem.W.keepIn K (.ref a_draw) = true
  m_draw : mg "_law_draw" = some (.ref a_draw)
  a_of : Addr
  fd_of : FuncData
  F_of : Fun K "_law_of" "_law_of" s_of a_of fd_of
  b_of : Binds K fd_of P_of []
  k_of : PySem.W.keepIn K (.ref a_of) = true
  m_of : mg "_law_of" = some (.ref a_of)
  a_like : Addr
  fd_like : FuncData
  F_like : Fun K "_law_like" "_law_like" s_like a_like fd_like
  b_like : Binds K fd_like P_like []
  k_like : PySem.W.keepIn K (.ref a_like) = true
  m_like : mg "_law_like" = some (.ref a_like)
  a_odd : Addr
  fd_odd : FuncData
  F_odd : Fun K "_law_odd" "_law_odd" s_odd a_odd fd_odd
  b_odd : Binds K fd_odd P_odd []
  k_odd : PySem.W.keepIn K (.ref a_odd) = true
  m_odd : mg "_law_odd" = some (.ref a_odd)
  a_name : Addr
  fd_name : FuncData
  F_name : Fun K "_law_name" "_law_name" s_name a_name fd_name
  b_name : Binds K fd_name P_name []
  k_name : PySem.W.keepIn K (.ref a_name) = true
  m_name : mg "_law_name" = some (.ref a_name)
  a_names : Addr
  fd_names : FuncData
  F_names : Fun K "_law_names" "_law_names" s_names a_names fd_names
  b_names : Binds K fd_names P_names []
  k_names : PySem.W.keepIn K (.ref a_names) = true
  m_names : mg "_law_names" = some (.ref a_names)
  a_places : Addr
  fd_places : FuncData
  F_places : Fun K "_law_places" "_law_places" s_places a_places fd_places
  b_places : Binds K fd_places P_places []
  k_places : PySem.W.keepIn K (.ref a_places) = true
  m_places : mg "_law_places" = some (.ref a_places)
  a_place : Addr
  fd_place : FuncData
  F_place : Fun K "_law_place" "_law_place" s_place a_place fd_place
  b_place : Binds K fd_place P_place []
  k_place : PySem.W.keepIn K (.ref a_place) = true
  m_place : mg "_law_place" = some (.ref a_place)
  a_tree : Addr
  fd_tree : FuncData
  F_tree : Fun K "_law_tree" "_law_tree" s_tree a_tree fd_tree
  b_tree : Binds K fd_tree P_tree []
  k_tree : PySem.W.keepIn K (.ref a_tree) = true
  m_tree : mg "_law_tree" = some (.ref a_tree)
  a_row : Addr
  fd_row : FuncData
  F_row : Fun K "_law_row" "_law_row" s_row a_row fd_row
  b_row : Binds K fd_row P_row []
  k_row : PySem.W.keepIn K (.ref a_row) = true
  m_row : mg "_law_row" = some (.ref a_row)
  a_ask : Addr
  fd_ask : FuncData
  F_ask : Fun K "_law_ask" "_law_ask" s_ask a_ask fd_ask
  b_ask : Binds K fd_ask P_ask []
  k_ask : PySem.W.keepIn K (.ref a_ask) = true
  m_ask : mg "_law_ask" = some (.ref a_ask)
  a_bent : Addr
  fd_bent : FuncData
  F_bent : Fun K "_law_bent" "_law_bent" s_bent a_bent fd_bent
  b_bent : Binds K fd_bent P_bent []
  k_bent : PySem.W.keepIn K (.ref a_bent) = true
  m_bent : mg "_law_bent" = some (.ref a_bent)
  a_at_fault : Addr
  fd_at_fault : FuncData
  F_at_fault : Fun K "_law_at_fault" "_law_at_fault" s_at_fault a_at_fault fd_at_fault
  b_at_fault : Binds K fd_at_fault P_at_fault []
  k_at_fault : PySem.W.keepIn K (.ref a_at_fault) = true
  m_at_fault : mg "_law_at_fault" = some (.ref a_at_fault)
  a_due : Addr
  fd_due : FuncData
  F_due : Fun K "_law_due" "_law_due" s_due a_due fd_due
  b_due : Binds K fd_due P_due []
  k_due : PySem.W.keepIn K (.ref a_due) = true
  m_due : mg "_law_due" = some (.ref a_due)
  a_size : Addr
  fd_size : FuncData
  F_size : Fun K "_law_size" "_law_size" s_size a_size fd_size
  b_size : Binds K fd_size P_size []
  k_size : PySem.W.keepIn K (.ref a_size) = true
  m_size : mg "_law_size" = some (.ref a_size)
  a_so : Addr
  fd_so : FuncData
  cda_so : Addr
  tb_so : Addr
  F_so : FunL K "_law_so" "_law_so" s_so a_so fd_so cda_so
  b_so : Binds K fd_so P_so []
  k_so : PySem.W.keepIn K (.ref a_so) = true
  m_so : mg "_law_so" = some (.ref a_so)
  a_named : Addr
  fd_named : FuncData
  F_named : Fun K "_law_named" "_law_named" s_named a_named fd_named
  b_named : Binds K fd_named P_named []
  k_named : PySem.W.keepIn K (.ref a_named) = true
  m_named : mg "_law_named" = some (.ref a_named)
  a_place_so : Addr
  fd_place_so : FuncData
  cda_place_so : Addr
  tb_place_so : Addr
  F_place_so : FunL K "_law_place_so" "_law_place_so" s_place_so a_place_so fd_place_so cda_place_so
  b_place_so : Binds K fd_place_so P_place_so []
  k_place_so : PySem.W.keepIn K (.ref a_place_so) = true
  m_place_so : mg "_law_place_so" = some (.ref a_place_so)
  a_law : Addr
  fd_law : FuncData
  F_law : Fun K "law" "law" s_law a_law fd_law
  b_law : Binds K fd_law P_law []
  k_law : PySem.W.keepIn K (.ref a_law) = true
  m_law : mg "law" = some (.ref a_law)
  tne_so_place_so : tb_so ≠ tb_place_so
  n_all : mg "all" = none
  n_bool : mg "bool" = none
  n_dict : mg "dict" = none
  n_enumerate : mg "enumerate" = none
  n_int : mg "int" = none
  n_isinstance : mg "isinstance" = none
  n_len : mg "len" = none
  n_list : mg "list" = none
  n_min : mg "min" = none
  n_range : mg "range" = none
  n_str : mg "str" = none
  n_super : mg "super" = none
  n_tuple : mg "tuple" = none
  n_zip : mg "zip" = none
  t_DIGITS : Tok
  m_DIGITS : mg "DIGITS" = some (.str "0123456789" t_DIGITS)
  r_DIGITS : RelV (.str "0123456789") (.str "0123456789" t_DIGITS)
  t_LETTERS : Tok
  m_LETTERS : mg "LETTERS" = some (.str "abcdefghijklmnopqrstuvwxyz" t_LETTERS)
  r_LETTERS : RelV (.str "abcdefghijklmnopqrstuvwxyz") (.str "abcdefghijklmnopqrstuvwxyz" t_LETTERS)
  t_PLACES : Tok
  m_PLACES : mg "PLACES" = some (.int 24 t_PLACES)
  r_PLACES : RelV (.int 24) (.int 24 t_PLACES)
  oex_InvalidName : OexC K C_InvalidName
  se_InvalidName : SupAtE K C_InvalidName C_InvalidName
  xf_InvalidName : XfC K C_InvalidName
  ii_InvalidName : PySem.W.findIn K (.ref C_InvalidName) "__init__" = some (some (.ref a_InvalidName_init))
  ti_InvalidName : PySem.W.typeIn K (.ref a_InvalidName_init) = some (.type "function")
  exm_InvalidName_InvalidName : PySem.W.exmOne K (.ref C_InvalidName) (.ref C_InvalidName) = some true
  no_InvalidName_value : NoAttr K C_InvalidName "value"
  no_InvalidName_code : NoAttr K C_InvalidName "code"
  oex_InvalidRule : OexC K C_InvalidRule
  se_InvalidRule : SupAtE K C_InvalidRule C_InvalidRule
  xf_InvalidRule : XfC K C_InvalidRule
  ii_InvalidRule : PySem.W.findIn K (.ref C_InvalidRule) "__init__" = some (some (.ref a_InvalidRule_init))
  ti_InvalidRule : PySem.W.typeIn K (.ref a_InvalidRule_init) = some (.type "function")
  exm_InvalidRule_InvalidName : PySem.W.exmOne K (.ref C_InvalidRule) (.ref C_InvalidName) = some false
  exm_InvalidRule_InvalidRule : PySem.W.exmOne K (.ref C_InvalidRule) (.ref C_InvalidRule) = some true
  no_InvalidRule_value : NoAttr K C_InvalidRule "value"
  no_InvalidRule_code : NoAttr K C_InvalidRule "code"
  oex_InvalidPlace : OexC K C_InvalidPlace
  se_InvalidPlace : SupAtE K C_InvalidPlace C_InvalidPlace
  xf_InvalidPlace : XfC K C_InvalidPlace
  ii_InvalidPlace : PySem.W.findIn K (.ref C_InvalidPlace) "__init__" = some (some (.ref a_InvalidPlace_init))
  ti_InvalidPlace : PySem.W.typeIn K (.ref a_InvalidPlace_init) = some (.type "function")
  exm_InvalidPlace_InvalidName : PySem.W.exmOne K (.ref C_InvalidPlace) (.ref C_InvalidName) = some false
  exm_InvalidPlace_InvalidRule : PySem.W.exmOne K (.ref C_InvalidPlace) (.ref C_InvalidRule) = some false
  exm_InvalidPlace_InvalidPlace : PySem.W.exmOne K (.ref C_InvalidPlace) (.ref C_InvalidPlace) = some true
  no_InvalidPlace_at : NoAttr K C_InvalidPlace "at"
  no_InvalidPlace_code : NoAttr K C_InvalidPlace "code"
  oex_BadTree : OexC K C_BadTree
  se_BadTree : SupAtE K C_BadTree C_BadTree
  xf_BadTree : XfC K C_BadTree
  ii_BadTree : PySem.W.findIn K (.ref C_BadTree) "__init__" = some (some (.ref a_BadTree_init))
  ti_BadTree : PySem.W.typeIn K (.ref a_BadTree_init) = some (.type "function")
  exm_BadTree_InvalidName : PySem.W.exmOne K (.ref C_BadTree) (.ref C_InvalidName) = some false
  exm_BadTree_InvalidRule : PySem.W.exmOne K (.ref C_BadTree) (.ref C_InvalidRule) = some false
  exm_BadTree_InvalidPlace : PySem.W.exmOne K (.ref C_BadTree) (.ref C_InvalidPlace) = some false
  exm_BadTree_BadTree : PySem.W.exmOne K (.ref C_BadTree) (.ref C_BadTree) = some true
  no_BadTree_place : NoAttr K C_BadTree "place"
  no_BadTree_code : NoAttr K C_BadTree "code"
  oex_TooMany : OexC K C_TooMany
  se_TooMany : SupAtE K C_TooMany C_TooMany
  xf_TooMany : XfC K C_TooMany
  ii_TooMany : PySem.W.findIn K (.ref C_TooMany) "__init__" = some (some (.ref a_TooMany_init))
  ti_TooMany : PySem.W.typeIn K (.ref a_TooMany_init) = some (.type "function")
  exm_TooMany_InvalidName : PySem.W.exmOne K (.ref C_TooMany) (.ref C_InvalidName) = some false
  exm_TooMany_InvalidRule : PySem.W.exmOne K (.ref C_TooMany) (.ref C_InvalidRule) = some false
  exm_TooMany_InvalidPlace : PySem.W.exmOne K (.ref C_TooMany) (.ref C_InvalidPlace) = some false
  exm_TooMany_BadTree : PySem.W.exmOne K (.ref C_TooMany) (.ref C_BadTree) = some false
  exm_TooMany_TooMany : PySem.W.exmOne K (.ref C_TooMany) (.ref C_TooMany) = some true
  no_TooMany_what : NoAttr K C_TooMany "what"
  no_TooMany_count : NoAttr K C_TooMany "count"
  no_TooMany_code : NoAttr K C_TooMany "code"
  cl_Place : Cls K C_Place
  mk_Place : Mk K C_Place a_Place_init
  ty_Place : ClsTy K C_Place
  kt_Place_Place : PySem.W.kitOne K (.ref C_Place) (.ref C_Place) = some true
  kt_Place_Rule : PySem.W.kitOne K (.ref C_Place) (.ref C_Rule) = some false
  no_Place_name : NoAttr K C_Place "name"
  no_Place_server : NoAttr K C_Place "server"
  no_Place_elder : NoAttr K C_Place "elder"
  no_Place_memory : NoAttr K C_Place "memory"
  no_Place_customer : NoAttr K C_Place "customer"
  eqf_Place : PySem.W.findIn K (.ref C_Place) "__eq__" = some (some (.ref a_Place_eq))
  eqi_Place : PySem.W.isFn K (.ref a_Place_eq) = true
  nf_Place_str : PySem.W.notFirst K C_Place (.type "str") = true
  nf_Place_int : PySem.W.notFirst K C_Place (.type "int") = true
  nf_Place : PySem.W.notFirst K C_Place (.ref C_Place) = true
  ktt_Place_int : PySem.W.kitOne K (.ref C_Place) (.type "int") = some false
  ktt_Place_bool : PySem.W.kitOne K (.ref C_Place) (.type "bool") = some false
  ktt_Place_str : PySem.W.kitOne K (.ref C_Place) (.type "str") = some false
  ktt_Place_list : PySem.W.kitOne K (.ref C_Place) (.type "list") = some false
  ktt_Place_tuple : PySem.W.kitOne K (.ref C_Place) (.type "tuple") = some false
  ktt_Place_dict : PySem.W.kitOne K (.ref C_Place) (.type "dict") = some false
  kb_int_Place : PySem.W.kitOne K (.type "int") (.ref C_Place) = some false
  kb_bool_Place : PySem.W.kitOne K (.type "bool") (.ref C_Place) = some false
  kb_str_Place : PySem.W.kitOne K (.type "str") (.ref C_Place) = some false
  kb_NoneType_Place : PySem.W.kitOne K (.type "NoneType") (.ref C_Place) = some false
  kb_list_Place : PySem.W.kitOne K (.type "list") (.ref C_Place) = some false
  kb_tuple_Place : PySem.W.kitOne K (.type "tuple") (.ref C_Place) = some false
  kb_dict_Place : PySem.W.kitOne K (.type "dict") (.ref C_Place) = some false
  cl_Tree : Cls K C_Tree
  mk_Tree : Mk K C_Tree a_Tree_init
  ty_Tree : ClsTy K C_Tree
  kt_Tree_Tree : PySem.W.kitOne K (.ref C_Tree) (.ref C_Tree) = some true
  no_Tree_rule : NoAttr K C_Tree "rule"
  no_Tree_places : NoAttr K C_Tree "_places"
  no_Tree_by_name : NoAttr K C_Tree "_by_name"
  no_Tree_children : NoAttr K C_Tree "_children"
  no_Tree_tops : NoAttr K C_Tree "_tops"
  me_Tree_fits : Meth K C_Tree "_fits" a_Tree_fits
  me_Tree_places : Meth K C_Tree "places" a_Tree_places
  ln_Tree : PySem.W.findIn K (.ref C_Tree) "__len__" = some (some (.ref a_Tree_len))
  lt_Tree : PySem.W.typeIn K (.ref a_Tree_len) = some (.type "function")
  kb_int_Rest : PySem.W.kitOne K (.type "int") (.ref C_Rest) = some false
  kb_bool_Rest : PySem.W.kitOne K (.type "bool") (.ref C_Rest) = some false
  kb_str_Rest : PySem.W.kitOne K (.type "str") (.ref C_Rest) = some false
  kb_NoneType_Rest : PySem.W.kitOne K (.type "NoneType") (.ref C_Rest) = some false
  kb_list_Rest : PySem.W.kitOne K (.type "list") (.ref C_Rest) = some false
  kb_tuple_Rest : PySem.W.kitOne K (.type "tuple") (.ref C_Rest) = some false
  kb_dict_Rest : PySem.W.kitOne K (.type "dict") (.ref C_Rest) = some false
  cl_Window : Cls K C_Window
  mk_Window : Mk K C_Window a_Window_init
  ty_Window : ClsTy K C_Window
  kt_Window_Rest : PySem.W.kitOne K (.ref C_Window) (.ref C_Rest) = some true
  kt_Window_Window : PySem.W.kitOne K (.ref C_Window) (.ref C_Window) = some true
  kt_Window_Place : PySem.W.kitOne K (.ref C_Window) (.ref C_Place) = some false
  kt_Window_Rule : PySem.W.kitOne K (.ref C_Window) (.ref C_Rule) = some false
  su_Window : SupAt K C_Window C_Window a_Rest_init "__init__"
  no_Window_text : NoAttr K C_Window "_text"
  no_Window_forms : NoAttr K C_Window "_forms"
  no_Window_period : NoAttr K C_Window "_period"
  no_Window_bend : NoAttr K C_Window "_bend"
  no_Window_width : NoAttr K C_Window "width"
  eqf_Window : PySem.W.findIn K (.ref C_Window) "__eq__" = some (some (.ref a_Rest_eq))
  eqi_Window : PySem.W.isFn K (.ref a_Rest_eq) = true
  nf_Window_str : PySem.W.notFirst K C_Window (.type "str") = true
  nf_Window_int : PySem.W.notFirst K C_Window (.type "int") = true
  nf_Window : PySem.W.notFirst K C_Window (.ref C_Window) = true
  ktt_Window_int : PySem.W.kitOne K (.ref C_Window) (.type "int") = some false
  ktt_Window_bool : PySem.W.kitOne K (.ref C_Window) (.type "bool") = some false
  ktt_Window_str : PySem.W.kitOne K (.ref C_Window) (.type "str") = some false
  ktt_Window_list : PySem.W.kitOne K (.ref C_Window) (.type "list") = some false
  ktt_Window_tuple : PySem.W.kitOne K (.ref C_Window) (.type "tuple") = some false
  ktt_Window_dict : PySem.W.kitOne K (.ref C_Window) (.type "dict") = some false
  kb_int_Window : PySem.W.kitOne K (.type "int") (.ref C_Window) = some false
  kb_bool_Window : PySem.W.kitOne K (.type "bool") (.ref C_Window) = some false
  kb_str_Window : PySem.W.kitOne K (.type "str") (.ref C_Window) = some false
  kb_NoneType_Window : PySem.W.kitOne K (.type "NoneType") (.ref C_Window) = some false
  kb_list_Window : PySem.W.kitOne K (.type "list") (.ref C_Window) = some false
  kb_tuple_Window : PySem.W.kitOne K (.type "tuple") (.ref C_Window) = some false
  kb_dict_Window : PySem.W.kitOne K (.type "dict") (.ref C_Window) = some false
  cl_Rule : Cls K C_Rule
  mk_Rule : Mk K C_Rule a_Rule_init
  ty_Rule : ClsTy K C_Rule
  kt_Rule_Rule : PySem.W.kitOne K (.ref C_Rule) (.ref C_Rule) = some true
  kt_Rule_Place : PySem.W.kitOne K (.ref C_Rule) (.ref C_Place) = some false
  kb_int_Rule : PySem.W.kitOne K (.type "int") (.ref C_Rule) = some false
  kb_bool_Rule : PySem.W.kitOne K (.type "bool") (.ref C_Rule) = some false
  kb_str_Rule : PySem.W.kitOne K (.type "str") (.ref C_Rule) = some false
  kb_NoneType_Rule : PySem.W.kitOne K (.type "NoneType") (.ref C_Rule) = some false
  kb_list_Rule : PySem.W.kitOne K (.type "list") (.ref C_Rule) = some false
  kb_tuple_Rule : PySem.W.kitOne K (.type "tuple") (.ref C_Rule) = some false
  kb_dict_Rule : PySem.W.kitOne K (.type "dict") (.ref C_Rule) = some false
  no_Rule_name : NoAttr K C_Rule "name"
  no_Rule_chips : NoAttr K C_Rule "chips"
  no_Rule_rest : NoAttr K C_Rule "rest"

/-! ### the bag -/
/-- what stands in a law's bag, the list l behind it -/
abbrev bagL (l : Addr) (i r s c : Int) : HO := .lst [.ref l, .int i, .int r, .int s, .int c]
structure Bag (K : PySem.W.Frag) (G0 G : Hp) (b : Addr) (β : HO) : Prop where
  nb : G b = none
  sm : Same G0 G
  ex : ∃ (l : Addr) (ns : List Int) (i r s c : Int), β = bagL l i r s c ∧ SqL K G0 l (ns.map V.int) ∧ 0 ≤ i ∧ 0 ≤ r ∧ 0 ≤ s ∧ s < 2147483647
theorem Bag.up0 {K : PySem.W.Frag} {G0 G G' : Hp} {b : Addr} {β : HO} (h : Bag K G0 G b β) (e : Same G0 G') (n : G' b = none) : Bag K G0 G' b β := ⟨n, e, h.ex⟩
theorem Bag.up {K : PySem.W.Frag} {G0 G G' : Hp} {b : Addr} {β : HO} (h : Bag K G0 G b β) (e : Same G G') (n : G' b = none) : Bag K G0 G' b β := h.up0 (h.sm.trans e) n
def spDraw (K : PySem.W.Frag) : Sp := fun vs H Q _ => ∃ (G0 G : Hp) (b : Addr) (β : HO) (n : Int), vs = [.ref b, .int n] ∧ H = upd G b β ∧ Bag K G0 G b β ∧ 0 < n ∧ n < 2 ^ 30 ∧
  ∀ d β', 0 ≤ d → d < n → Bag K G0 G b β' → Q (.int d) (upd G b β')
theorem mod_bd {x m : Int} (h : 0 < m) : 0 ≤ x % m ∧ x % m < m := ⟨Int.emod_nonneg _ (by omega), Int.emod_lt_of_pos _ h⟩
theorem ix_ints {ns : List Int} {i : Int} (h0 : 0 ≤ i) (h1 : i < ((ns.map V.int).length : Nat)) : ∃ z, atI (ns.map V.int) i = some (.int z) := by
  rw [List.length_map] at h1
  obtain ⟨j, rfl⟩ := Int.eq_ofNat_of_zero_le h0
  have hj : j < ns.length := by omega
  exact ⟨ns[j], atI_nat (by rw [List.getElem?_map, List.getElem?_eq_getElem hj]; rfl)⟩
theorem at_mem {α : Type} {xs : List α} {d : Int} (h0 : 0 ≤ d) (h1 : d < (xs.length : Nat)) : ∃ v, atI xs d = some v ∧ v ∈ xs := by
  obtain ⟨j, rfl⟩ := Int.eq_ofNat_of_zero_le h0
  have hj : j < xs.length := by omega
  exact ⟨xs[j], atI_nat (List.getElem?_eq_getElem hj), List.getElem_mem hj⟩
/-- one of some things by a draw -/
def spOf (K : PySem.W.Frag) : Sp := fun vs H Q _ => ∃ (G0 G : Hp) (b : Addr) (β : HO) (x : V), vs = [.ref b, x] ∧ H = upd G b β ∧ Bag K G0 G b β ∧
  match x with
  | .ref p => ∃ xs, SqL K G p xs ∧ 0 < xs.length ∧ xs.length < 2 ^ 30 ∧ ∀ v β', v ∈ xs → Bag K G0 G b β' → Q v (upd G b β')
  | .str z => 0 < z.length ∧ z.length ≤ 1000000 ∧ ∀ c β', c ∈ z.cps.toList → Bag K G0 G b β' → Q (.str ⟨#[c]⟩) (upd G b β')
  | _ => False
theorem k_draw {K : PySem.W.Frag} {G0 G : Hp} {b : Addr} {β : HO} {n : Int} {Q : VK} {E : XK} (hb : Bag K G0 G b β) (h0 : 0 < n) (h1 : n < 2 ^ 30) (k : ∀ d β', 0 ≤ d → d < n → Bag K G0 G b β' → Q (.int d) (upd G b β')) : spDraw K [.ref b, .int n] (upd G b β) Q E :=
  ⟨G0, G, b, β, n, rfl, rfl, hb, h0, h1, k⟩
theorem k_of {K : PySem.W.Frag} {G0 G : Hp} {b p : Addr} {β : HO} {xs : List V} {Q : VK} {E : XK} (hb : Bag K G0 G b β) (hx : SqL K G p xs) (h0 : 0 < xs.length) (h1 : xs.length < 2 ^ 30) (k : ∀ v β', v ∈ xs → Bag K G0 G b β' → Q v (upd G b β')) : spOf K [.ref b, .ref p] (upd G b β) Q E :=
  ⟨G0, G, b, β, .ref p, rfl, rfl, hb, xs, hx, h0, h1, k⟩
section
variable {w : World} {K : PySem.W.Frag} {mg : Str → Option Value} {base : Heap}
theorem ok_draw (T : Tx K mg) : FnOk P w K mg base CX0 1 T.a_draw T.fd_draw P_draw (spDraw K) := by
  refine T.F_draw.ok sc_draw (fun vs H Q E h => ?_) (fun cdv A outer s H vs Q E hr h => ?_)
  · obtain ⟨G0, G, b, β, n, rfl, _⟩ := h
    rfl
  · obtain ⟨G0, G, b, β, n, rfl, rfl, ⟨nb, sm0, l, ns, i, r, sd, c, rfl, hl, hi, hr0, hs0, hs1⟩, hn0, hn1, k⟩ := h
    have nd := sc_draw.nd
    refine ⟨_, (pss_cons (ps_asg (pe_op kop_add (pe_ix (kix K) (kv (i := 0) v_draw_law_bag_here) pe_int (fun _ _ => rfl)) pe_int) (pg_sub (kv (i := 0) v_draw_law_bag_here) pe_int set_list))
      (kss_meet (ps_if (PW.pt (pw_and (pt_cmpR op_eq (pe_ix (kix K) (kv (i := 0) v_draw_law_bag_here) pe_int (fun _ _ => rfl)) pe_int (nomark _)) (pw_and1 (pt_cmpR op_lt (pe_ix (kix K) (kv (i := 0) v_draw_law_bag_here) pe_int (fun _ _ => rfl)) (kcB b_len (by decide) (by decide) (kc_len K) g_draw_len T.n_len (pa_cons (pe_ix (kix K) (kv (i := 0) v_draw_law_bag_here) pe_int (fun _ _ => rfl)) pa_nil)) (nomark _))))) (pss_cons (ks_setL (i := 2) nd l_draw_law_item (pe_ix (kix K) (pe_ix (kix K) (kv (i := 0) v_draw_law_bag_here) pe_int (fun _ _ => rfl)) (pe_ix (kix K) (kv (i := 0) v_draw_law_bag_here) pe_int (fun _ _ => rfl)) (fun _ _ => rfl)))
      (pss_cons (ps_asg (pe_op kop_add (pe_ix (kix K) (kv (i := 0) v_draw_law_bag_here) pe_int (fun _ _ => rfl)) pe_int) (pg_sub (kv (i := 0) v_draw_law_bag_here) pe_int set_list))
      (pss_one (ps_if (pt_cmpR op_ge (kv (i := 2) v_draw_law_item) (pe_op op_pow pe_int pe_int) (nomark _)) (pss_one (ps_asg (kv (i := 2) v_draw_law_item) (pg_sub (kv (i := 0) v_draw_law_bag_here) pe_int set_list))) (pss_one (ps_asg (pe_op op_mod (kcT b_int (by decide) (by decide) kc_int g_draw_int T.n_int (pa_cons (pe_op kop_add (pe_op kop_add (pe_op op_mul (pe_ix (kix K) (kv (i := 0) v_draw_law_bag_here) pe_int (fun _ _ => rfl)) pe_int) (pe_op op_mul (pe_op op_mod (kcT b_int (by decide) (by decide) kc_int g_draw_int T.n_int (pa_cons (kv (i := 2) v_draw_law_item) pa_nil)) pe_int) pe_int)) pe_int) pa_nil)) pe_int) (pg_sub (kv (i := 0) v_draw_law_bag_here) pe_int set_list))))))) pss_nil)
      (pss_cons (ps_if (pt_cmpR op_gt (pe_ix (kix K) (kv (i := 0) v_draw_law_bag_here) pe_int (fun _ _ => rfl)) pe_int (nomark _)) (pss_cons (ks_setL (i := 3) nd l_draw_law_digit (pe_op op_mod (kcT b_int (by decide) (by decide) kc_int g_draw_int T.n_int (pa_cons (pe_ix (kix K) (kv (i := 0) v_draw_law_bag_here) pe_int (fun _ _ => rfl)) pa_nil)) (kv (i := 1) v_draw_law_limit)))
      (pss_cons (ps_asg (pe_op op_fdiv (pe_ix (kix K) (kv (i := 0) v_draw_law_bag_here) pe_int (fun _ _ => rfl)) (kv (i := 1) v_draw_law_limit)) (pg_sub (kv (i := 0) v_draw_law_bag_here) pe_int set_list))
      (pss_one (ps_ret (kv (i := 3) v_draw_law_digit))))) pss_nil)
      (pss_cons (ps_asg (pe_op op_mod (kcT b_int (by decide) (by decide) kc_int g_draw_int T.n_int (pa_cons (pe_op kop_add (pe_op kop_add (pe_op op_pow (pe_ix (kix K) (kv (i := 0) v_draw_law_bag_here) pe_int (fun _ _ => rfl)) pe_int) (pe_op op_mul (pe_ix (kix K) (kv (i := 0) v_draw_law_bag_here) pe_int (fun _ _ => rfl)) pe_int)) pe_int) pa_nil)) pe_int) (pg_sub (kv (i := 0) v_draw_law_bag_here) pe_int set_list))
      (pss_one (ps_ret (pe_op op_mod (kcT b_int (by decide) (by decide) kc_int g_draw_int T.n_int (pa_cons (pe_op kop_add (pe_op op_fdiv (pe_ix (kix K) (kv (i := 0) v_draw_law_bag_here) pe_int (fun _ _ => rfl)) pe_int) (pe_op op_mul (pe_op op_mod (kcT b_int (by decide) (by decide) kc_int g_draw_int T.n_int (pa_cons (pe_ix (kix K) (kv (i := 0) v_draw_law_bag_here) pe_int (fun _ _ => rfl)) pa_nil)) pe_int) pe_int)) pa_nil)) (kv (i := 1) v_draw_law_limit)))))))), ?_⟩
    walk_at "ss"
    refine k_meet (fun σ H => ∃ i r s v, σ = [some (.ref b), some (.int n), v, none] ∧ H = upd G b (bagL l i r s (c + 1)) ∧ 0 ≤ i ∧ 0 ≤ r ∧ 0 ≤ s ∧ s < 2147483647) ?_ ?_
    · have hl' : SqL K (upd G b (bagL l i r sd (c + 1))) l (ns.map V.int) := (up_same nb).seq (sm0.seq hl)
      walk_at "ss"
      refine k_d (fun h0 => ?_) (fun h0 => ?_)
      · walk_at "ss"
        refine k_d (fun h1 => ?_) (fun h1 => ?_)
        · obtain ⟨z, hz⟩ := ix_ints hi h1
          walk_at "ss"
          refine k_ixL hl' hz ?_
          walk_at "ss"
          refine k_d (fun h2 => ?_) (fun h2 => ?_)
          · walk_at "ss"
            have e18 : (10 : Int) ^ Int.toNat 18 = 1000000000000000000 := by decide
            rw [e18] at h2
            exact ⟨i + 1, z, sd, _, rfl, rfl, by omega, by omega, hs0, hs1⟩
          · walk_at "ss"
            exact ⟨i + 1, r, _, _, rfl, rfl, by omega, by omega, (mod_bd (by decide)).1, Int.lt_trans (mod_bd (by decide)).2 (by decide)⟩
        · walk_at "ss"
          exact ⟨i, r, sd, _, rfl, rfl, hi, hr0, hs0, hs1⟩
      · walk_at "ss"
        exact ⟨i, r, sd, _, rfl, rfl, hi, hr0, hs0, hs1⟩
    · rintro σ H ⟨i, r, sd, v, rfl, rfl, hi, hr0, hs0, hs1⟩
      walk_at "ss"
      refine k_d (fun h0 => ?_) (fun h0 => ?_)
      · walk_at "ss"
        have q := mod_bd (x := r) hn0
        exact k _ _ q.1 q.2 ⟨nb, sm0, l, ns, _, _, _, _, rfl, hl, hi, Int.ediv_nonneg hr0 (by omega), hs0, hs1⟩
      · walk_at "ss"
        exact k _ _ (mod_bd hn0).1 (mod_bd hn0).2 ⟨nb, sm0, l, ns, _, _, _, _, rfl, hl, hi, hr0, (mod_bd (by decide)).1, Int.lt_trans (mod_bd (by decide)).2 (by decide)⟩
theorem ok_of (T : Tx K mg) : FnOk P w K mg base CX0 2 T.a_of T.fd_of P_of (spOf K) := by
  refine T.F_of.ok sc_of (fun vs H Q E h => ?_) (fun cdv A outer s H vs Q E hr h => ?_)
  · obtain ⟨G0, G, b, β, x, rfl, _⟩ := h
    rfl
  · obtain ⟨G0, G, b, β, x, rfl, rfl, hb, h⟩ := h
    have nd := sc_of.nd
    refine ⟨_, (pss_one (ps_ret (pe_ix (kix K) (kv (i := 1) v_of_law_things) (pe_call (ok_draw T) (hr.mono (by first | decide | omega)) g_of_law_draw T.m_draw T.k_draw T.b_draw .nil pass0 (pa_cons (kv (i := 0) v_of_law_bag_here) (pa_cons (kcB b_len (by decide) (by decide) (kc_len K) g_of_len T.n_len (pa_cons (kv (i := 1) v_of_law_things) pa_nil)) pa_nil))) (fun _ _ => rfl)))), ?_⟩
    cases x with
    | ref p =>
      obtain ⟨xs, hx, hl0, hl1, k⟩ := h
      have hx' : ∀ β', SqL K (upd G b β') p xs := fun β' => (up_same hb.nb).seq hx
      have hx1 := hx' β
      walk_at "ss"
      refine k_draw hb (by omega) (by omega) fun d β' h0 h1 hb' => ?_
      obtain ⟨v, hv, hm⟩ := at_mem h0 h1
      refine k_ixL (hx' _) hv ?_
      exact k v β' hm hb'
    | str z =>
      obtain ⟨hl0, hl1, k⟩ := h
      walk_at "ss"
      refine k_lenS (small_size hl1) ?_
      walk_at "ss"
      refine k_draw hb (by omega) (by omega) fun d β' h0 h1 hb' => ?_
      obtain ⟨c, hc, hm⟩ := at_mem (xs := z.cps.toList) h0 (by rw [Array.length_toList]; exact h1)
      refine k_ixS (small_size hl1) hc ?_
      exact k c β' hm hb'
    | _ => exact h.elim
/-- the bag of a script -/
def spBag (K : PySem.W.Frag) : Sp := fun vs H Q _ => ∃ (a : Addr) (ns : List Int), vs = [.ref a] ∧ SqL K H a (ns.map V.int) ∧ ∀ b G β, Same H G → Bag K G G b β → Q (.ref b) (upd G b β)
theorem ok_bag (T : Tx K mg) : FnOk P w K mg base CX0 1 T.a_bag T.fd_bag P_bag (spBag K) := by
  refine T.F_bag.ok sc_bag (fun vs H Q E h => ?_) (fun cdv A outer s H vs Q E hr h => ?_)
  · obtain ⟨a, ns, rfl, _⟩ := h
    rfl
  · obtain ⟨a, ns, rfl, hl, k⟩ := h
    have nd := sc_bag.nd
    refine ⟨_, (pss_cons (ks_setL (i := 1) nd l_bag_law_seed pe_int)
      (pss_cons (ps_for PassesOwn.never rfl (kpi_list K (pe_slice (ksl_list K) (kv (i := 0) v_bag_law_script) po_none (po_some pe_int))) (kgL (i := 2) nd l_bag_law_item) (pss_one (ks_setL (i := 1) nd l_bag_law_seed (pe_op op_mod (kcT b_int (by decide) (by decide) kc_int g_bag_int T.n_int (pa_cons (pe_op kop_add (pe_op kop_add (pe_op op_mul (kv (i := 1) v_bag_law_seed) pe_int) (pe_op op_mod (kcT b_int (by decide) (by decide) kc_int g_bag_int T.n_int (pa_cons (kv (i := 2) v_bag_law_item) pa_nil)) pe_int)) pe_int) pa_nil)) pe_int))))
      (pss_one (ps_ret (pe_lst (pa_cons (kcT b_list (by decide) (by decide) (kc_list K) g_bag_list T.n_list (pa_cons (pe_slice (ksl_list K) (kv (i := 0) v_bag_law_script) po_none (po_some pe_int)) pa_nil)) (pa_cons pe_int (pa_cons pe_int (pa_cons (kv (i := 1) v_bag_law_seed) (pa_cons pe_int pa_nil)))))))))), ?_⟩
    walk_at "ss"
    refine k_slL hl ?_
    intro p np
    obtain ⟨ms, hms⟩ := cut_ints (ns := ns) (lo := none) (hi := some 63)
    rw [hms]
    have e1 := same_new (o := .lst (ms.map V.int)) np
    refine k_iL (SqL.of upd_same) ?_
    refine k_forList (ms.map V.int) (fun i σ H' => ∃ sd v, σ = [some (.ref a), some (.int sd), v] ∧ H' = upd H p (.lst (ms.map V.int)) ∧ 0 ≤ sd ∧ sd < 2147483647) ⟨_, _, rfl, rfl, by decide, by decide⟩ ?_ ?_ ?_
    · rintro i σ H' _ ⟨sd, v, rfl, rfl, _⟩
      exact SqL.of upd_same
    · rintro i x σ H' hx ⟨sd, v, rfl, rfl, h0, h1⟩
      obtain ⟨z, rfl⟩ : ∃ z, x = V.int z := by
        rw [List.getElem?_map] at hx
        cases e : ms[i]? with
        | none => rw [e] at hx; cases hx
        | some u => rw [e] at hx; exact ⟨u, (Option.some.inj hx).symm⟩
      walk_at "ss"
      exact ⟨_, _, rfl, rfl, (mod_bd (by decide)).1, Int.lt_trans (mod_bd (by decide)).2 (by decide)⟩
    · rintro σ H' ⟨sd, v, rfl, rfl, h0, h1⟩
      walk_at "ss"
      refine k_slL (e1.seq hl) ?_
      rw [hms]
      intro q nq
      have e2 := same_new (o := .lst (ms.map V.int)) nq
      walk_at "ss"
      refine k_listL (SqL.of upd_same) ?_
      intro l nl
      have e3 := same_new (o := .lst (ms.map V.int)) nl
      walk_at "ss"
      intro b nb
      exact k b _ _ ((e1.trans e2).trans e3) ⟨nb, Same.refl _, l, ms, 0, 0, sd, 0, rfl, SqL.of upd_same, by decide, by decide, h0, h1⟩
end

section
variable {X : Cx}
theorem kc_sorted (K : PySem.W.Frag) (hK : X.K = K := by rfl) : CallR X (.builtin "sorted") (rSorted K) := by subst hK; exact cr_sorted
theorem kc_maxL (K : PySem.W.Frag) (hc : X.calm = true) (hK : X.K = K := by rfl) : CallR X (.builtin "max") (L2.rMax K) := by subst hK; exact cr_max hc
theorem kc_minL (K : PySem.W.Frag) (hc : X.calm = true) (hK : X.K = K := by rfl) : CallR X (.builtin "min") (L2.rMin K) := by subst hK; exact cr_min hc
def rSortDI : List V → Hp → VK → Prop := fun xs H Q => ∃ (a : Addr) (kvs : List (Key × V)) (ks : List Int), xs = [.ref a] ∧ Rd H a (.dK kvs) ∧ kvs.map (·.1) = ks.map Sum.inl ∧ ks.length < 64 ∧
    ∀ (ys : List Int) (p : Addr), ys.Perm ks → ys.Pairwise (· ≤ ·) → H p = none → Q (.ref p) (upd H p (.lst (ys.map V.int)))
theorem kc_sortedDI (hc : X.calm = true) : CallR X (.builtin "sorted") rSortDI := call_sortedDI hc
/-- a list or a tuple that is walked -/
def iSeq (K : PySem.W.Frag) (tl : TE) : TI := fun σ H R => iList K tl σ H R ∨ iTup K tl σ H R
theorem kpi_seq (K : PySem.W.Frag) {tg l : Expr} {tl : TE} (hl : PE X l tl) (hK : X.K = K := by rfl) : PI X tg l (iSeq K tl) :=
  ⟨fun pins s σ H R I h => h.elim (fun h => (kpi_list K hl hK).run pins s σ H R I h) (fun h => (kpi_tup K hl hK).run pins s σ H R I h)⟩
end
section
variable {K : PySem.W.Frag} {σ : L2.St} {H : Hp} {D : Ends} {Q : VK}
theorem walk_zipT {a b : Addr} {xs ys : List V} {n : Nat} (hn : n = min xs.length ys.length) : Walk (RZ.ItzT K a b) n (fun H => SqT K H a xs ∧ SqT K H b ys) (YPair (fun i => xs[i]?) (fun i => ys[i]?)) := by
  subst hn
  refine ⟨fun i _ hi q => ?_, fun _ q => ⟨xs, ys, q.1, q.2, by omega⟩, fun i H v H' _ q y => ?_⟩
  · have h1 : i < xs.length := by omega
    have h2 : i < ys.length := by omega
    exact ⟨xs, ys, xs[i], ys[i], q.1, q.2, by simp [h1], by simp [h2]⟩
  · obtain ⟨T, x, z, h1, h2, h3, h4, h5⟩ := y
    exact ⟨T, x, z, h1, h2, h3, h4 xs q.1, h5 ys q.2⟩
theorem walk_zipL {a b : Addr} {xs ys : List V} {n : Nat} (hn : n = min xs.length ys.length) : Walk (Itz K a b) n (fun H => SqL K H a xs ∧ SqL K H b ys) (YPair (fun i => xs[i]?) (fun i => ys[i]?)) := walk_zip hn
theorem k_iStr {te : TE} {R : It → Hp → Prop} (h : te σ H fun v H1 => ∃ x, v = .str x ∧ R (Its x) H1) : iStr te σ H R := h
theorem zL {A B : Prop} (h : A) : A ∨ B := .inl h
theorem zT {A B : Prop} (h : B) : A ∨ B := .inr h
theorem walk_L {a : Addr} {xs : List V} : Walk (Itl K a) xs.length (fun H => SqL K H a xs) (YAt xs) := walk_list
theorem walk_T {a : Addr} {xs : List V} : Walk (Itt K a) xs.length (fun H => SqT K H a xs) (YAt xs) := walk_tup
theorem k_iZipA {ta : TA} {R : It → Hp → Prop} (h : ta σ H fun vs H1 => ∃ a b xs ys, vs = [.ref a, .ref b] ∧ ((SqL K H1 a xs ∧ SqL K H1 b ys ∧ R (Itz K a b) H1) ∨ (SqT K H1 a xs ∧ SqT K H1 b ys ∧ R (RZ.ItzT K a b) H1))) : RZ.iZipA K ta σ H R := h
theorem k_seqL {tl : TE} {R : It → Hp → Prop} (h : iList K tl σ H R) : iSeq K tl σ H R := .inl h
theorem k_seqT {tl : TE} {R : It → Hp → Prop} (h : iTup K tl σ H R) : iSeq K tl σ H R := .inr h
theorem k_dnew (h : ∀ p, H p = none → Q (.ref p) (upd H p (.dK []))) : tDNewK σ H Q := h
theorem k_dget2 {td ty tx : TE} (h : td σ H fun x H1 => ∃ a, x = .ref a ∧ IsD H1 a ∧ ty σ H1 fun y H2 => tx σ H2 fun z H3 => ∃ o, DGet H3 a y o ∧ Q (o.getD z) H3) : tDGet2 td ty tx σ H Q := h
theorem k_dget {td ty : TE} (h : td σ H fun x H1 => ty σ H1 fun y H2 => ∃ a v, x = .ref a ∧ DGet H2 a y (some v) ∧ Q v H2) : tDGet td ty σ H Q := h
theorem k_aug {i : Nat} {x : V} {te : TE} {ti : TIp} (hx : σ[i]? = some (some x)) (h : te σ H fun y H1 => ti x y H1 fun z H2 => D.nx (σ.set i (some z)) H2) : tAug i te ti D σ H := ⟨x, hx, h⟩
theorem k_asg2 {te : TE} {g1 g2 : TG} (h : te σ H fun x H1 => g1 x σ H1 fun σ1 H2 => g2 x σ1 H2 D.nx) : tAsg2 te g1 g2 D σ H := h
theorem k_ipI {f : Int → Int → Int} {i j : Int} (h : Q (.int (f i j)) H) : ipI f (.int i) (.int j) H Q := ⟨i, j, rfl, rfl, h⟩
theorem k_setD {a : Addr} {i v : V} {H' : Hp} {Q : Hp → Prop} (h : DPut H a i v H') (q : Q H') : rSetD (.ref a) i v H Q := ⟨a, H', rfl, h, q⟩
end

section
variable {w : World} {K : PySem.W.Frag} {mg : Str → Option Value} {base : Heap}
/-! ### values as data: their shape, and what lies within -/
inductive Gv (H : Hp) : V → Prop where
  | int (i : Int) : Gv H (.int i)
  | str (z : Str) (h : z.length ≤ 100) : Gv H (.str z)
  | bl (b : Bool) : Gv H (.bl b)
  | non : Gv H .non
  | lst {a : Addr} {xs : List V} (h : H a = some (.lst xs)) : Gv H (.ref a)
  | tup {a : Addr} {xs : List V} (h : H a = some (.tup xs)) : Gv H (.ref a)
  | dic {a : Addr} {kvs : List (Key × V)} (h : H a = some (.dK kvs)) : Gv H (.ref a)
theorem Gv.up {H H' : Hp} {v : V} (h : Gv H v) (e : Same H H') : Gv H' v := by
  cases h with
  | int i => exact .int i
  | str z h => exact .str z h
  | bl b => exact .bl b
  | non => exact .non
  | lst h => exact .lst (e _ _ h)
  | tup h => exact .tup (e _ _ h)
  | dic h => exact .dic (e _ _ h)
inductive ScB : V → Prop where
  | int (i : Int) : ScB (.int i)
  | str (z : Str) (h : z.length ≤ 100) : ScB (.str z)
  | bl (b : Bool) : ScB (.bl b)
  | non : ScB .non
/-- a dict that is equal to itself: no two keys -/
def OkD (ks : List (Key × V)) : Prop := ks = [] ∨ ∃ k v, ks = [(k, v)] ∧ (flatB v = true ∨ ∃ b, v = .ref b)
/-- data of depth d; none of its objects is one of F -/
def Gd (F : Addr → Prop) (H : Hp) : Nat → V → Prop
  | 0, v => ScB v
  | d + 1, v => ScB v ∨ (∃ (a : Addr) (xs : List V), v = .ref a ∧ ¬ F a ∧ (H a = some (.lst xs) ∨ H a = some (.tup xs)) ∧ xs.length ≤ 50 ∧ ∀ x ∈ xs, Gd F H d x) ∨ ∃ (a : Addr) (ks : List (Key × V)), v = .ref a ∧ ¬ F a ∧ H a = some (.dK ks) ∧ OkD ks
/-- all but the objects of F stay -/
def Keep (F : Addr → Prop) (H H' : Hp) : Prop := ∀ a o, ¬ F a → H a = some o → (∀ ps, o ≠ .tbl ps) → H' a = some o
theorem Keep.of {F : Addr → Prop} {H H' : Hp} (e : Same H H') : Keep F H H' := fun a o _ h _ => e a o h
theorem Keep.trans {F : Addr → Prop} {H H1 H2 : Hp} (a : Keep F H H1) (b : Keep F H1 H2) : Keep F H H2 := fun c o n h q => b c o n (a c o n h q) q
theorem Gd.keep {F : Addr → Prop} {H H' : Hp} (e : Keep F H H') : ∀ {d : Nat} {v : V}, Gd F H d v → Gd F H' d v
  | 0, _, h => h
  | d + 1, _, .inl h => .inl h
  | d + 1, _, .inr (.inl ⟨a, xs, e1, n, h, hl, k⟩) => .inr (.inl ⟨a, xs, e1, n, h.imp (fun h => e _ _ n h (fun ps z => by cases z)) (fun h => e _ _ n h (fun ps z => by cases z)), hl, fun x hx => (k x hx).keep e⟩)
  | d + 1, _, .inr (.inr ⟨a, ks, e1, n, h, k⟩) => .inr (.inr ⟨a, ks, e1, n, e _ _ n h (fun ps z => by cases z), k⟩)
theorem Gd.up {F : Addr → Prop} {H H' : Hp} {d : Nat} {v : V} (h : Gd F H d v) (e : Same H H') : Gd F H' d v := h.keep (.of e)
theorem Gd.sc {F : Addr → Prop} {H : Hp} {v : V} (h : ScB v) : ∀ d, Gd F H d v
  | 0 => h
  | _ + 1 => .inl h
theorem Gd.weak {F F' : Addr → Prop} {H : Hp} (hF : ∀ a, F' a → F a) : ∀ {d : Nat} {v : V}, Gd F H d v → Gd F' H d v
  | 0, _, h => h
  | d + 1, _, .inl h => .inl h
  | d + 1, _, .inr (.inl ⟨a, xs, e1, n, h, hl, k⟩) => .inr (.inl ⟨a, xs, e1, fun z => n (hF a z), h, hl, fun x hx => (k x hx).weak hF⟩)
  | d + 1, _, .inr (.inr ⟨a, ks, e1, n, h, k⟩) => .inr (.inr ⟨a, ks, e1, fun z => n (hF a z), h, k⟩)
theorem ScB.gv {H : Hp} {v : V} (h : ScB v) : Gv H v := by
  cases h with
  | int i => exact .int i
  | str z h => exact .str z h
  | bl b => exact .bl b
  | non => exact .non
theorem Gd.gv {F : Addr → Prop} {H : Hp} {d : Nat} {v : V} (h : Gd F H d v) : Gv H v := by
  cases d with
  | zero => exact ScB.gv h
  | succ d =>
    rcases h with h | ⟨a, xs, rfl, _, h | h, _⟩ | ⟨a, ks, rfl, _, h, _⟩
    · exact ScB.gv h
    · exact .lst h
    · exact .tup h
    · exact .dic h
def isInt : V → Bool
  | .int _ => true
  | .bl _ => true
  | _ => false
def isBl : V → Bool
  | .bl _ => true
  | _ => false
def isStr : V → Bool
  | .str _ => true
  | _ => false
theorem k_gInt {H : Hp} {v : V} {Q : VK} (h : Gv H v) (k : Q (.bl (isInt v)) H) : rIsi K [v, .ty "int"] H Q := by
  cases h with
  | int i => exact k_isi (TyX.base (.int _)) kb_int_int k
  | str z h => exact k_isi (TyX.base (.str _)) kb_str_int k
  | bl b => exact k_isi (TyX.base (.bl _)) kb_bool_int k
  | non => exact k_isi (TyX.base .non) kb_NoneType_int k
  | lst h => exact k_isi (TyX.base (.lst h)) kb_list_int k
  | tup h => exact k_isi (TyX.base (.tup h)) kb_tuple_int k
  | dic h => exact k_isi (TyX.base (.dK h)) kb_dict_int k
theorem k_gBl {H : Hp} {v : V} {Q : VK} (h : Gv H v) (k : Q (.bl (isBl v)) H) : rIsi K [v, .ty "bool"] H Q := by
  cases h with
  | int i => exact k_isi (TyX.base (.int _)) kb_int_bool k
  | str z h => exact k_isi (TyX.base (.str _)) kb_str_bool k
  | bl b => exact k_isi (TyX.base (.bl _)) kb_bool_bool k
  | non => exact k_isi (TyX.base .non) kb_NoneType_bool k
  | lst h => exact k_isi (TyX.base (.lst h)) kb_list_bool k
  | tup h => exact k_isi (TyX.base (.tup h)) kb_tuple_bool k
  | dic h => exact k_isi (TyX.base (.dK h)) kb_dict_bool k
theorem k_gStr {H : Hp} {v : V} {Q : VK} (h : Gv H v) (k : Q (.bl (isStr v)) H) : rIsi K [v, .ty "str"] H Q := by
  cases h with
  | int i => exact k_isi (TyX.base (.int _)) kb_int_str k
  | str z h => exact k_isi (TyX.base (.str _)) kb_str_str k
  | bl b => exact k_isi (TyX.base (.bl _)) kb_bool_str k
  | non => exact k_isi (TyX.base .non) kb_NoneType_str k
  | lst h => exact k_isi (TyX.base (.lst h)) kb_list_str k
  | tup h => exact k_isi (TyX.base (.tup h)) kb_tuple_str k
  | dic h => exact k_isi (TyX.base (.dK h)) kb_dict_str k
def numV (v : V) (lo hi : Int) : Bool := match v with
  | .int i => decide (lo ≤ i) && decide (i ≤ hi)
  | _ => false
def spNumG : Sp := fun vs H Q _ => ∃ (v : V) (lo hi : Int), vs = [v, .int lo, .int hi] ∧ Gv H v ∧ Q (.bl (numV v lo hi)) H
theorem ok_is_number (T : Tx K mg) : FnOk P w K mg base CX0 1 T.a_is_number T.fd_is_number P_is_number spNumG := by
  refine T.F_is_number.ok sc_is_number (fun vs H Q E h => ?_) (fun cdv A outer s H vs Q E hr h => ?_)
  · obtain ⟨v, lo, hi, rfl, _⟩ := h
    rfl
  · obtain ⟨v, lo, hi, rfl, hv, k⟩ := h
    have nd := sc_is_number.nd
    refine ⟨_, (pss_one (ps_ret (pe_and (kcB b_isinstance (by decide) (by decide) (kc_isi K) g_is_number_isinstance T.n_isinstance (pa_cons (kv (i := 0) v_is_number_value) (pa_cons (kty_int g_is_number_int T.n_int) pa_nil))) (pe_and (pe_not (kcB b_isinstance (by decide) (by decide) (kc_isi K) g_is_number_isinstance T.n_isinstance (pa_cons (kv (i := 0) v_is_number_value) (pa_cons (kty_bool g_is_number_bool T.n_bool) pa_nil)))) (pe_one (pe_chain op_le op_le (kv (i := 1) v_is_number_least) (kv (i := 0) v_is_number_value) (kv (i := 2) v_is_number_most))))))), ?_⟩
    walk_at "ss"
    refine k_gInt hv ?_
    refine ⟨_, rfl, ?_⟩
    cases hv with
    | int i =>
      refine k_t ?_
      walk_at "ss"
      refine k_d (fun h1 => ?_) (fun h1 => ?_)
      · walk_at "ss"
        have e : numV (.int i) lo hi = decide (i ≤ hi) := by
          show (decide (lo ≤ i) && decide (i ≤ hi)) = _
          rw [decide_eq_true h1, Bool.true_and]
        rw [← e]
        exact k
      · walk_at "ss"
        have e : numV (.int i) lo hi = false := by
          show (decide (lo ≤ i) && decide (i ≤ hi)) = _
          rw [decide_eq_false h1, Bool.false_and]
        rw [e] at k
        exact k
    | bl b =>
      refine k_t ?_
      walk_at "ss"
      exact k
    | _ => exact k_f k
/-- a promise that asks more -/
theorem fn_weak {P : Program} {CX : CXT} {k : Nat} {f : Addr} {fd : FuncData} {ps : List Str} {sp sp' : Sp} (F : FnOk P w K mg base CX k f fd ps sp) (h : ∀ vs H Q E, sp' vs H Q E → sp vs H Q E) : FnOk P w K mg base CX k f fd ps sp' :=
  ⟨fun vs H Q E q => F.len _ _ _ _ (h _ _ _ _ q), fun A outer s H args us vs Q E hr e0 hb r q => F.run A outer s H args us vs Q E hr e0 hb r (h _ _ _ _ q)⟩
def spNum : Sp := fun vs H Q _ => ∃ v lo hi : Int, vs = [.int v, .int lo, .int hi] ∧ lo ≤ v ∧ v ≤ hi ∧ Q (.bl true) H
theorem numV_t {v lo hi : Int} (h0 : lo ≤ v) (h1 : v ≤ hi) : numV (.int v) lo hi = true := by
  show (decide (lo ≤ v) && decide (v ≤ hi)) = true
  rw [decide_eq_true h0, decide_eq_true h1]; rfl
theorem numV_i {v : V} {lo hi : Int} (h : numV v lo hi = true) : ∃ i, v = .int i ∧ lo ≤ i ∧ i ≤ hi := by
  cases v with
  | int i =>
    have h : (decide (lo ≤ i) && decide (i ≤ hi)) = true := h
    rw [Bool.and_eq_true, decide_eq_true_eq, decide_eq_true_eq] at h
    exact ⟨i, rfl, h.1, h.2⟩
  | _ => cases h
theorem ok_is_number0 (T : Tx K mg) : FnOk P w K mg base CX0 1 T.a_is_number T.fd_is_number P_is_number spNum := fn_weak (ok_is_number T) fun vs H Q E ⟨v, lo, hi, e, h0, h1, q⟩ => ⟨.int v, lo, hi, e, .int v, by rw [numV_t h0 h1]; exact q⟩
end

section
variable {w : World} {K : PySem.W.Frag} {mg : Str → Option Value} {base : Heap}
/-! ### the errors -/
theorem same_put {G G' : Hp} {L : Addr} {o : HO} (h : Same G G') (n : G L = none) : Same G (upd G' L o) := fun a u e => by
  rw [upd_ne (ne_of_none e n)]
  exact h _ _ e
theorem new_facts {G G' : Hp} {b t : Addr} {o β : HO} (hb : G b = none) (n : upd G b β t = none) (e : upd G t o = G') : G' b = none ∧ Same G G' ∧ G' t = some o ∧ t ≠ b ∧ G t = none := by
  obtain ⟨h1, h2⟩ := up_none n
  subst e
  exact ⟨by rw [upd_ne (Ne.symm h2)]; exact hb, same_new h1, upd_same, h2, h1⟩
theorem k_bm {K : PySem.W.Frag} {T : String} {r : V → List V → Hp → VK → Prop} {to : TE} {t : TA} {σ : L2.St} {H : Hp} {Q : VK} (h : to σ H fun x H1 => tyV K T x H1 ∧ t σ H1 fun xs H2 => r x xs H2 Q) : tBM K T r to t σ H Q := h
theorem k_app {l : Addr} {xs : List V} {y : V} {H : Hp} {Q : VK} (h : H l = some (.lst xs)) (hz : xs.length < 1000) (k : Q .non (upd H l (.lst (xs ++ [y])))) : rAppend (.ref l) [y] H Q := ⟨l, xs, y, rfl, rfl, h, small_lt (by omega), k⟩
theorem g_none {G0 G : Hp} {t : Addr} (sm : Same G0 G) (n : G t = none) : G0 t = none := by
  cases hz : G0 t with
  | none => rfl
  | some o => exact absurd (sm _ _ hz) (by rw [n]; intro z; cases z)
theorem k_mkO {C : Addr} {sp : Sp} {dvs : List V} {ta : TA} {σ : L2.St} {H : Hp} {Q : XK} (h : ta σ H fun vs H1 => vs.length ≤ 1000 ∧ ∀ a, H1 a = none → sp (.ref a :: (vs ++ dvs)) (upd H1 a (exo a C none))
  (fun v H2 => v = .non ∧ ∃ (d : Addr) (fs : List (Str × V)), H2 a = some (exo a C (some d)) ∧ H2 d = some (exd d fs) ∧ H1 d = none ∧ Q (.ref C) (some d) (upd (del H2 a) d (.xd fs))) (fun _ _ _ => False)) : tMkO C sp dvs ta σ H Q := h
def spInvalidNameI (T : Tx K mg) : Sp := fun vs H Q _ => ∃ (a : Addr) (x : V), vs = [.ref a, x] ∧ H a = some (exo a T.C_InvalidName none) ∧ ∀ (H' : Hp) (d : Addr), H d = none → d ≠ a → SameBut a H H' → H' a = some (exo a T.C_InvalidName (some d)) → H' d = some (exd d [("code", .str "InvalidName"), ("value", x)]) → Q .non H'
theorem ok_InvalidName_init (T : Tx K mg) : FnOk P w K mg base CX0 1 T.a_InvalidName_init T.fd_InvalidName_init P_InvalidName_init (spInvalidNameI T) := by
  obtain ⟨cl, cld, csl, hce⟩ := T.ce_InvalidName_init
  refine T.F_InvalidName_init.ok sc_InvalidName_init hce T.b_InvalidName_init (fun vs H Q E h => ?_) (fun A outer s H vs Q E hr h => ?_)
  · obtain ⟨a, x, rfl, _⟩ := h
    rfl
  · obtain ⟨a, x, rfl, ha, k⟩ := h
    have nd := sc_InvalidName_init.nd
    refine ⟨_, (psa_cons (pst_supE T.sd_InvalidName_init rfl rfl g_InvalidName_init_super fr_InvalidName_init cc_look rfl (locB_ok l_InvalidName_init_self) (pa_cons pe_str pa_nil))
      (psa_cons (pst_of (ps_ost (kv (i := 0) v_InvalidName_init_self) (kv (i := 1) v_InvalidName_init_value)))
      (psa_one (pst_of (ps_ost (kv (i := 0) v_InvalidName_init_self) pe_str))))), ?_⟩
    refine k_supE (a := a) (C := T.C_InvalidName) rfl ha T.se_InvalidName fun q nq => ?_
    have naq : a ≠ q := ne_of_none ha nq
    walk_at "ss"
    refine ⟨by decide, upd_same, (upd_ne naq).trans ha, ?_⟩
    walk_at "ss"
    refine k_ost ?_
    walk_at "ss"
    refine ⟨a, _, rfl, T.oex_InvalidName, T.no_InvalidName_value, .inl ⟨(upd_ne naq).trans ha, fun d nd1 nda => ?_⟩⟩
    have ndH : H d = none := (up_none nd1).1
    walk_at "ss"
    dsimp only
    refine k_ost ?_
    walk_at "ss"
    refine ⟨a, _, rfl, T.oex_InvalidName, T.no_InvalidName_code, .inr ⟨d, _, upd_same, (upd_ne nda).trans upd_same, by simp, ?_⟩⟩
    refine k _ d ndH nda ?_ ((upd_ne (Ne.symm nda)).trans upd_same) upd_same
    intro b o nb hb
    have nbd : b ≠ d := ne_of_none hb ndH
    have nbq : b ≠ q := ne_of_none hb nq
    rw [upd_ne nbd, upd_ne nb, upd_ne nbd, upd_ne nbq]
    exact hb
theorem raise_InvalidName (T : Tx K mg) {H : Hp} {v : V} {Q : XK} (h : ∀ (H' : Hp) (d : Addr), Same H H' → H' d = some (.xd [("code", .str "InvalidName"), ("value", v)]) → Q (.ref T.C_InvalidName) (some d) H') : [v].length ≤ 1000 ∧ ∀ a, H a = none → spInvalidNameI T (.ref a :: ([v] ++ [])) (upd H a (exo a T.C_InvalidName none))
    (fun v2 H2 => v2 = .non ∧ ∃ (d : Addr) (fs : List (Str × V)), H2 a = some (exo a T.C_InvalidName (some d)) ∧ H2 d = some (exd d fs) ∧ H d = none ∧ Q (.ref T.C_InvalidName) (some d) (upd (del H2 a) d (.xd fs))) (fun _ _ _ => False) := by
  refine ⟨by simp, fun x nx => ⟨x, v, rfl, upd_same, fun H' d nd1 ndx sb hx hd => ⟨rfl, d, _, hx, hd, (up_none nd1).1, ?_⟩⟩⟩
  refine h _ d ?_ upd_same
  intro z o hz
  have nzx : z ≠ x := ne_of_none hz nx
  have nzd : z ≠ d := ne_of_none hz (up_none nd1).1
  rw [upd_ne nzd, del_ne nzx]
  exact sb _ _ nzx ((upd_ne nzx).trans hz)
def spInvalidRuleI (T : Tx K mg) : Sp := fun vs H Q _ => ∃ (a : Addr) (x : V), vs = [.ref a, x] ∧ H a = some (exo a T.C_InvalidRule none) ∧ ∀ (H' : Hp) (d : Addr), H d = none → d ≠ a → SameBut a H H' → H' a = some (exo a T.C_InvalidRule (some d)) → H' d = some (exd d [("code", .str "InvalidRule"), ("value", x)]) → Q .non H'
theorem ok_InvalidRule_init (T : Tx K mg) : FnOk P w K mg base CX0 1 T.a_InvalidRule_init T.fd_InvalidRule_init P_InvalidRule_init (spInvalidRuleI T) := by
  obtain ⟨cl, cld, csl, hce⟩ := T.ce_InvalidRule_init
  refine T.F_InvalidRule_init.ok sc_InvalidRule_init hce T.b_InvalidRule_init (fun vs H Q E h => ?_) (fun A outer s H vs Q E hr h => ?_)
  · obtain ⟨a, x, rfl, _⟩ := h
    rfl
  · obtain ⟨a, x, rfl, ha, k⟩ := h
    have nd := sc_InvalidRule_init.nd
    refine ⟨_, (psa_cons (pst_supE T.sd_InvalidRule_init rfl rfl g_InvalidRule_init_super fr_InvalidRule_init cc_look rfl (locB_ok l_InvalidRule_init_self) (pa_cons pe_str pa_nil))
      (psa_cons (pst_of (ps_ost (kv (i := 0) v_InvalidRule_init_self) (kv (i := 1) v_InvalidRule_init_value)))
      (psa_one (pst_of (ps_ost (kv (i := 0) v_InvalidRule_init_self) pe_str))))), ?_⟩
    refine k_supE (a := a) (C := T.C_InvalidRule) rfl ha T.se_InvalidRule fun q nq => ?_
    have naq : a ≠ q := ne_of_none ha nq
    walk_at "ss"
    refine ⟨by decide, upd_same, (upd_ne naq).trans ha, ?_⟩
    walk_at "ss"
    refine k_ost ?_
    walk_at "ss"
    refine ⟨a, _, rfl, T.oex_InvalidRule, T.no_InvalidRule_value, .inl ⟨(upd_ne naq).trans ha, fun d nd1 nda => ?_⟩⟩
    have ndH : H d = none := (up_none nd1).1
    walk_at "ss"
    dsimp only
    refine k_ost ?_
    walk_at "ss"
    refine ⟨a, _, rfl, T.oex_InvalidRule, T.no_InvalidRule_code, .inr ⟨d, _, upd_same, (upd_ne nda).trans upd_same, by simp, ?_⟩⟩
    refine k _ d ndH nda ?_ ((upd_ne (Ne.symm nda)).trans upd_same) upd_same
    intro b o nb hb
    have nbd : b ≠ d := ne_of_none hb ndH
    have nbq : b ≠ q := ne_of_none hb nq
    rw [upd_ne nbd, upd_ne nb, upd_ne nbd, upd_ne nbq]
    exact hb
theorem raise_InvalidRule (T : Tx K mg) {H : Hp} {v : V} {Q : XK} (h : ∀ (H' : Hp) (d : Addr), Same H H' → H' d = some (.xd [("code", .str "InvalidRule"), ("value", v)]) → Q (.ref T.C_InvalidRule) (some d) H') : [v].length ≤ 1000 ∧ ∀ a, H a = none → spInvalidRuleI T (.ref a :: ([v] ++ [])) (upd H a (exo a T.C_InvalidRule none))
    (fun v2 H2 => v2 = .non ∧ ∃ (d : Addr) (fs : List (Str × V)), H2 a = some (exo a T.C_InvalidRule (some d)) ∧ H2 d = some (exd d fs) ∧ H d = none ∧ Q (.ref T.C_InvalidRule) (some d) (upd (del H2 a) d (.xd fs))) (fun _ _ _ => False) := by
  refine ⟨by simp, fun x nx => ⟨x, v, rfl, upd_same, fun H' d nd1 ndx sb hx hd => ⟨rfl, d, _, hx, hd, (up_none nd1).1, ?_⟩⟩⟩
  refine h _ d ?_ upd_same
  intro z o hz
  have nzx : z ≠ x := ne_of_none hz nx
  have nzd : z ≠ d := ne_of_none hz (up_none nd1).1
  rw [upd_ne nzd, del_ne nzx]
  exact sb _ _ nzx ((upd_ne nzx).trans hz)
def spInvalidPlaceI (T : Tx K mg) : Sp := fun vs H Q _ => ∃ (a : Addr) (x : V), vs = [.ref a, x] ∧ H a = some (exo a T.C_InvalidPlace none) ∧ ∀ (H' : Hp) (d : Addr), H d = none → d ≠ a → SameBut a H H' → H' a = some (exo a T.C_InvalidPlace (some d)) → H' d = some (exd d [("code", .str "InvalidPlace"), ("at", x)]) → Q .non H'
theorem ok_InvalidPlace_init (T : Tx K mg) : FnOk P w K mg base CX0 1 T.a_InvalidPlace_init T.fd_InvalidPlace_init P_InvalidPlace_init (spInvalidPlaceI T) := by
  obtain ⟨cl, cld, csl, hce⟩ := T.ce_InvalidPlace_init
  refine T.F_InvalidPlace_init.ok sc_InvalidPlace_init hce T.b_InvalidPlace_init (fun vs H Q E h => ?_) (fun A outer s H vs Q E hr h => ?_)
  · obtain ⟨a, x, rfl, _⟩ := h
    rfl
  · obtain ⟨a, x, rfl, ha, k⟩ := h
    have nd := sc_InvalidPlace_init.nd
    refine ⟨_, (psa_cons (pst_supE T.sd_InvalidPlace_init rfl rfl g_InvalidPlace_init_super fr_InvalidPlace_init cc_look rfl (locB_ok l_InvalidPlace_init_self) (pa_cons pe_str pa_nil))
      (psa_cons (pst_of (ps_ost (kv (i := 0) v_InvalidPlace_init_self) (kv (i := 1) v_InvalidPlace_init_at)))
      (psa_one (pst_of (ps_ost (kv (i := 0) v_InvalidPlace_init_self) pe_str))))), ?_⟩
    refine k_supE (a := a) (C := T.C_InvalidPlace) rfl ha T.se_InvalidPlace fun q nq => ?_
    have naq : a ≠ q := ne_of_none ha nq
    walk_at "ss"
    refine ⟨by decide, upd_same, (upd_ne naq).trans ha, ?_⟩
    walk_at "ss"
    refine k_ost ?_
    walk_at "ss"
    refine ⟨a, _, rfl, T.oex_InvalidPlace, T.no_InvalidPlace_at, .inl ⟨(upd_ne naq).trans ha, fun d nd1 nda => ?_⟩⟩
    have ndH : H d = none := (up_none nd1).1
    walk_at "ss"
    dsimp only
    refine k_ost ?_
    walk_at "ss"
    refine ⟨a, _, rfl, T.oex_InvalidPlace, T.no_InvalidPlace_code, .inr ⟨d, _, upd_same, (upd_ne nda).trans upd_same, by simp, ?_⟩⟩
    refine k _ d ndH nda ?_ ((upd_ne (Ne.symm nda)).trans upd_same) upd_same
    intro b o nb hb
    have nbd : b ≠ d := ne_of_none hb ndH
    have nbq : b ≠ q := ne_of_none hb nq
    rw [upd_ne nbd, upd_ne nb, upd_ne nbd, upd_ne nbq]
    exact hb
theorem raise_InvalidPlace (T : Tx K mg) {H : Hp} {v : V} {Q : XK} (h : ∀ (H' : Hp) (d : Addr), Same H H' → H' d = some (.xd [("code", .str "InvalidPlace"), ("at", v)]) → Q (.ref T.C_InvalidPlace) (some d) H') : [v].length ≤ 1000 ∧ ∀ a, H a = none → spInvalidPlaceI T (.ref a :: ([v] ++ [])) (upd H a (exo a T.C_InvalidPlace none))
    (fun v2 H2 => v2 = .non ∧ ∃ (d : Addr) (fs : List (Str × V)), H2 a = some (exo a T.C_InvalidPlace (some d)) ∧ H2 d = some (exd d fs) ∧ H d = none ∧ Q (.ref T.C_InvalidPlace) (some d) (upd (del H2 a) d (.xd fs))) (fun _ _ _ => False) := by
  refine ⟨by simp, fun x nx => ⟨x, v, rfl, upd_same, fun H' d nd1 ndx sb hx hd => ⟨rfl, d, _, hx, hd, (up_none nd1).1, ?_⟩⟩⟩
  refine h _ d ?_ upd_same
  intro z o hz
  have nzx : z ≠ x := ne_of_none hz nx
  have nzd : z ≠ d := ne_of_none hz (up_none nd1).1
  rw [upd_ne nzd, del_ne nzx]
  exact sb _ _ nzx ((upd_ne nzx).trans hz)
def spBadTreeI (T : Tx K mg) : Sp := fun vs H Q _ => ∃ (a : Addr) (x : V), vs = [.ref a, x] ∧ H a = some (exo a T.C_BadTree none) ∧ ∀ (H' : Hp) (d : Addr), H d = none → d ≠ a → SameBut a H H' → H' a = some (exo a T.C_BadTree (some d)) → H' d = some (exd d [("code", .str "BadTree"), ("place", x)]) → Q .non H'
theorem ok_BadTree_init (T : Tx K mg) : FnOk P w K mg base CX0 1 T.a_BadTree_init T.fd_BadTree_init P_BadTree_init (spBadTreeI T) := by
  obtain ⟨cl, cld, csl, hce⟩ := T.ce_BadTree_init
  refine T.F_BadTree_init.ok sc_BadTree_init hce T.b_BadTree_init (fun vs H Q E h => ?_) (fun A outer s H vs Q E hr h => ?_)
  · obtain ⟨a, x, rfl, _⟩ := h
    rfl
  · obtain ⟨a, x, rfl, ha, k⟩ := h
    have nd := sc_BadTree_init.nd
    refine ⟨_, (psa_cons (pst_supE T.sd_BadTree_init rfl rfl g_BadTree_init_super fr_BadTree_init cc_look rfl (locB_ok l_BadTree_init_self) (pa_cons pe_str pa_nil))
      (psa_cons (pst_of (ps_ost (kv (i := 0) v_BadTree_init_self) (kv (i := 1) v_BadTree_init_place)))
      (psa_one (pst_of (ps_ost (kv (i := 0) v_BadTree_init_self) pe_str))))), ?_⟩
    refine k_supE (a := a) (C := T.C_BadTree) rfl ha T.se_BadTree fun q nq => ?_
    have naq : a ≠ q := ne_of_none ha nq
    walk_at "ss"
    refine ⟨by decide, upd_same, (upd_ne naq).trans ha, ?_⟩
    walk_at "ss"
    refine k_ost ?_
    walk_at "ss"
    refine ⟨a, _, rfl, T.oex_BadTree, T.no_BadTree_place, .inl ⟨(upd_ne naq).trans ha, fun d nd1 nda => ?_⟩⟩
    have ndH : H d = none := (up_none nd1).1
    walk_at "ss"
    dsimp only
    refine k_ost ?_
    walk_at "ss"
    refine ⟨a, _, rfl, T.oex_BadTree, T.no_BadTree_code, .inr ⟨d, _, upd_same, (upd_ne nda).trans upd_same, by simp, ?_⟩⟩
    refine k _ d ndH nda ?_ ((upd_ne (Ne.symm nda)).trans upd_same) upd_same
    intro b o nb hb
    have nbd : b ≠ d := ne_of_none hb ndH
    have nbq : b ≠ q := ne_of_none hb nq
    rw [upd_ne nbd, upd_ne nb, upd_ne nbd, upd_ne nbq]
    exact hb
theorem raise_BadTree (T : Tx K mg) {H : Hp} {v : V} {Q : XK} (h : ∀ (H' : Hp) (d : Addr), Same H H' → H' d = some (.xd [("code", .str "BadTree"), ("place", v)]) → Q (.ref T.C_BadTree) (some d) H') : [v].length ≤ 1000 ∧ ∀ a, H a = none → spBadTreeI T (.ref a :: ([v] ++ [])) (upd H a (exo a T.C_BadTree none))
    (fun v2 H2 => v2 = .non ∧ ∃ (d : Addr) (fs : List (Str × V)), H2 a = some (exo a T.C_BadTree (some d)) ∧ H2 d = some (exd d fs) ∧ H d = none ∧ Q (.ref T.C_BadTree) (some d) (upd (del H2 a) d (.xd fs))) (fun _ _ _ => False) := by
  refine ⟨by simp, fun x nx => ⟨x, v, rfl, upd_same, fun H' d nd1 ndx sb hx hd => ⟨rfl, d, _, hx, hd, (up_none nd1).1, ?_⟩⟩⟩
  refine h _ d ?_ upd_same
  intro z o hz
  have nzx : z ≠ x := ne_of_none hz nx
  have nzd : z ≠ d := ne_of_none hz (up_none nd1).1
  rw [upd_ne nzd, del_ne nzx]
  exact sb _ _ nzx ((upd_ne nzx).trans hz)
def spTooI (T : Tx K mg) : Sp := fun vs H Q _ => ∃ (a : Addr) (x y : V), vs = [.ref a, x, y] ∧ H a = some (exo a T.C_TooMany none) ∧ ∀ (H' : Hp) (d : Addr), H d = none → d ≠ a → SameBut a H H' → H' a = some (exo a T.C_TooMany (some d)) → H' d = some (exd d [("code", .str "TooMany"), ("count", y), ("what", x)]) → Q .non H'
theorem ok_TooMany_init (T : Tx K mg) : FnOk P w K mg base CX0 1 T.a_TooMany_init T.fd_TooMany_init P_TooMany_init (spTooI T) := by
  obtain ⟨cl, cld, csl, hce⟩ := T.ce_TooMany_init
  refine T.F_TooMany_init.ok sc_TooMany_init hce T.b_TooMany_init (fun vs H Q E h => ?_) (fun A outer s H vs Q E hr h => ?_)
  · obtain ⟨a, x, y, rfl, _⟩ := h
    rfl
  · obtain ⟨a, x, y, rfl, ha, k⟩ := h
    have nd := sc_TooMany_init.nd
    refine ⟨_, (psa_cons (pst_supE T.sd_TooMany_init rfl rfl g_TooMany_init_super fr_TooMany_init cc_look rfl (locB_ok l_TooMany_init_self) (pa_cons pe_str pa_nil))
      (psa_cons (pst_of (ps_ost (kv (i := 0) v_TooMany_init_self) (kv (i := 1) v_TooMany_init_what)))
      (psa_cons (pst_of (ps_ost (kv (i := 0) v_TooMany_init_self) (kv (i := 2) v_TooMany_init_count)))
      (psa_one (pst_of (ps_ost (kv (i := 0) v_TooMany_init_self) pe_str)))))), ?_⟩
    refine k_supE (a := a) (C := T.C_TooMany) rfl ha T.se_TooMany fun q nq => ?_
    have naq : a ≠ q := ne_of_none ha nq
    walk_at "ss"
    refine ⟨by decide, upd_same, (upd_ne naq).trans ha, ?_⟩
    walk_at "ss"
    refine k_ost ?_
    walk_at "ss"
    refine ⟨a, _, rfl, T.oex_TooMany, T.no_TooMany_what, .inl ⟨(upd_ne naq).trans ha, fun d nd1 nda => ?_⟩⟩
    have ndH : H d = none := (up_none nd1).1
    walk_at "ss"
    dsimp only
    refine k_ost ?_
    walk_at "ss"
    refine ⟨a, _, rfl, T.oex_TooMany, T.no_TooMany_count, .inr ⟨d, _, upd_same, (upd_ne nda).trans upd_same, by simp, ?_⟩⟩
    walk_at "ss"
    dsimp only
    refine k_ost ?_
    walk_at "ss"
    refine ⟨a, _, rfl, T.oex_TooMany, T.no_TooMany_code, .inr ⟨d, _, (upd_ne (Ne.symm nda)).trans upd_same, upd_same, by simp, ?_⟩⟩
    refine k _ d ndH nda ?_ ((upd_ne (Ne.symm nda)).trans ((upd_ne (Ne.symm nda)).trans upd_same)) upd_same
    intro b o nb hb
    have nbd : b ≠ d := ne_of_none hb ndH
    have nbq : b ≠ q := ne_of_none hb nq
    rw [upd_ne nbd, upd_ne nbd, upd_ne nb, upd_ne nbd, upd_ne nbq]
    exact hb
theorem raise_TooMany (T : Tx K mg) {H : Hp} {x y : V} {Q : XK} (h : ∀ (H' : Hp) (d : Addr), Same H H' → H' d = some (.xd [("code", .str "TooMany"), ("count", y), ("what", x)]) → Q (.ref T.C_TooMany) (some d) H') : [x, y].length ≤ 1000 ∧ ∀ a, H a = none → spTooI T (.ref a :: ([x, y] ++ [])) (upd H a (exo a T.C_TooMany none))
    (fun v2 H2 => v2 = .non ∧ ∃ (d : Addr) (fs : List (Str × V)), H2 a = some (exo a T.C_TooMany (some d)) ∧ H2 d = some (exd d fs) ∧ H d = none ∧ Q (.ref T.C_TooMany) (some d) (upd (del H2 a) d (.xd fs))) (fun _ _ _ => False) := by
  refine ⟨by simp, fun e ne => ⟨e, x, y, rfl, upd_same, fun H' d nd1 nde sb hx hd => ⟨rfl, d, _, hx, hd, (up_none nd1).1, ?_⟩⟩⟩
  refine h _ d ?_ upd_same
  intro z o hz
  have nze : z ≠ e := ne_of_none hz ne
  have nzd : z ≠ d := ne_of_none hz (up_none nd1).1
  rw [upd_ne nzd, del_ne nze]
  exact sb _ _ nze ((upd_ne nze).trans hz)
/-- an error with its values -/
inductive Ev where | name (v : V) | rule (v : V) | place (v : V) | bad (v : V) | many (z : Str) (n : Int)
def Ev.C (T : Tx K mg) : Ev → Addr
  | .name _ => T.C_InvalidName
  | .rule _ => T.C_InvalidRule
  | .place _ => T.C_InvalidPlace
  | .bad _ => T.C_BadTree
  | .many _ _ => T.C_TooMany
def Ev.fs : Ev → List (Str × V)
  | .name v => [("code", .str "InvalidName"), ("value", v)]
  | .rule v => [("code", .str "InvalidRule"), ("value", v)]
  | .place v => [("code", .str "InvalidPlace"), ("at", v)]
  | .bad v => [("code", .str "BadTree"), ("place", v)]
  | .many z n => [("code", .str "TooMany"), ("count", .int n), ("what", .str z)]
/-- the row in which the law keeps it -/
def Ev.row : Ev → List V
  | .name v => [.str "InvalidName", v]
  | .rule v => [.str "InvalidRule", v]
  | .place v => [.str "InvalidPlace", v]
  | .bad v => [.str "BadTree", v]
  | .many z n => [.str "TooMany", .str z, .int n]
/-- the error e leaves, all else as it was -/
def Goes (T : Tx K mg) (H : Hp) (E : XK) (e : Ev) : Prop := ∀ (H' : Hp) (d : Addr), Same H H' → H' d = some (.xd e.fs) → E (.ref (e.C T)) (some d) H'
theorem Goes.up {T : Tx K mg} {H H' : Hp} {E : XK} {e : Ev} (h : Goes T H E e) (q : Same H H') : Goes T H' E e := fun H2 d s hd => h H2 d (q.trans s) hd
end

section
variable {w : World} {K : PySem.W.Frag} {mg : Str → Option Value} {base : Heap}
/-! ### places -/
/-- a value that may be given: data, or an instance that is no str -/
def Gw (K : PySem.W.Frag) (H : Hp) (v : V) : Prop := Gv H v ∨ ∃ (a C dx : Addr) (fs : List (Str × V)), v = .ref a ∧ H a = some (.ins C dx fs) ∧ ClsTy K C ∧ PySem.W.kitOne K (.ref C) (.type "str") = some false
theorem Gw.up {H H' : Hp} {v : V} (h : Gw K H v) (e : Same H H') : Gw K H' v := h.imp (fun h => h.up e) fun ⟨a, C, dx, fs, h1, h2, h3, h4⟩ => ⟨a, C, dx, fs, h1, e _ _ h2, h3, h4⟩
theorem k_gwStr {H : Hp} {v : V} {Q : VK} (h : Gw K H v) (k : Q (.bl (isStr v)) H) : rIsi K [v, .ty "str"] H Q := by
  rcases h with h | ⟨a, C, dx, fs, rfl, h2, h3, h4⟩
  · exact k_gStr h k
  · exact ⟨_, .ty "str", _, _, false, rfl, .ty "str", ty_own h3 h2, h4, k⟩
def lets : List Nat := List.range' 97 26
def digs : List Nat := List.range' 48 10
theorem lets_eq : (("abcdefghijklmnopqrstuvwxyz" : Str)).cps.toList = lets := by decide +kernel
theorem digs_eq : (("0123456789" : Str)).cps.toList = digs := by decide +kernel
theorem mem_lets (c : Nat) : c ∈ lets ↔ 97 ≤ c ∧ c ≤ 122 := by
  unfold lets
  rw [List.mem_range'_1]
  omega
theorem mem_digs (c : Nat) : c ∈ digs ↔ 48 ≤ c ∧ c ≤ 57 := by
  unfold digs
  rw [List.mem_range'_1]
  omega
def inL (c : Nat) : Bool := decide (c ∈ lets)
def inD (c : Nat) : Bool := decide (c ∈ digs)
def nameD : List Nat → Bool
  | [] => false
  | c :: r => decide (r.length + 1 ≤ 8) && inL c && (c :: r).all fun d => inL d || inD d
def nameV : V → Bool
  | .str z => nameD z.cps.toList
  | _ => false
theorem str_len (z : Str) : z.length = z.cps.toList.length := by rw [Array.length_toList]; rfl
def spNameG (K : PySem.W.Frag) : Sp := fun vs H Q _ => ∃ v : V, vs = [v] ∧ Gw K H v ∧ Q (.bl (nameV v)) H
theorem ok_is_name (T : Tx K mg) : FnOk P w K mg base CX0 1 T.a_is_name T.fd_is_name P_is_name (spNameG K) := by
  refine T.F_is_name.ok sc_is_name (fun vs H Q E h => ?_) (fun cdv A outer s H vs Q E hr h => ?_)
  · obtain ⟨v, rfl, _⟩ := h
    rfl
  · obtain ⟨v, rfl, hv, k⟩ := h
    have nd := sc_is_name.nd
    refine ⟨_, (pss_cons (ps_if (PW.pt (pw_or (pt_not (pt_val (kcB b_isinstance (by decide) (by decide) (kc_isi K) g_is_name_isinstance T.n_isinstance (pa_cons (kv (i := 0) v_is_name_value) (pa_cons (kty_str g_is_name_str T.n_str) pa_nil))))) (pw_or (pt_not (pt_chain op_le op_le pe_int (kcB b_len (by decide) (by decide) (kc_len K) g_is_name_len T.n_len (pa_cons (kv (i := 0) v_is_name_value) pa_nil)) pe_int)) (pw_or1 (pt_cmpR op_notIn_sign (pe_ix (kix K) (kv (i := 0) v_is_name_value) pe_int (fun _ _ => rfl)) (pe_glob g_is_name_LETTERS T.m_LETTERS T.r_LETTERS) (by rfl)))))) (pss_one (ps_ret pe_bl)) pss_nil)
      (pss_cons (ps_for PassesOwn.never rfl (pi_str (kv (i := 0) v_is_name_value)) (kgL (i := 1) nd l_is_name_sign) (pss_one (ps_if (PW.pt (pw_and (pt_cmpR op_notIn_sign (kv (i := 1) v_is_name_sign) (pe_glob g_is_name_LETTERS T.m_LETTERS T.r_LETTERS) (by rfl)) (pw_and1 (pt_cmpR op_notIn_sign (kv (i := 1) v_is_name_sign) (pe_glob g_is_name_DIGITS T.m_DIGITS T.r_DIGITS) (by rfl))))) (pss_one (ps_ret pe_bl)) pss_nil)))
      (pss_one (ps_ret pe_bl)))), ?_⟩
    walk_at "ss"
    refine k_gwStr hv ?_
    walk_at "ss"
    have other : isStr v = false → nameV v = false := fun h => by cases v <;> first | rfl | cases h
    have hz : (∃ z, v = .str z ∧ z.length ≤ 100) ∨ isStr v = false := by
      rcases hv with hv | ⟨a, C, dx, fs, rfl, _⟩
      · cases hv <;> first | exact .inl ⟨_, rfl, by assumption⟩ | exact .inr rfl
      · exact .inr rfl
    rcases hz with ⟨z, rfl, hl⟩ | hz
    · show if (!true) = true then _ else _
      walk_at "ss"
      refine k_lenS (small_size (by omega)) ?_
      walk_at "ss"
      have hsl := str_len z
      have en : nameV (.str z) = nameD z.cps.toList := rfl
      cases hc : z.cps.toList with
      | nil =>
        rw [hc] at hsl en
        refine k_df (by rw [hsl]; decide) ?_
        walk_at "ss"
        rw [en] at k
        exact k
      | cons c r =>
        rw [hc] at hsl en
        simp only [List.length_cons] at hsl
        refine k_dt (by omega) ?_
        walk_at "ss"
        refine k_n (fun h8 => ?_) (fun h8 => ?_)
        · walk_at "ss"
          refine k_ixS (small_size (by omega)) (c := c) (by rw [hc]; exact atI_nat (j := 0) rfl) ?_
          walk_at "ss"
          refine ⟨c, _, rfl, rfl, ?_⟩
          walk_at "ss"
          refine k_n (fun hcl => ?_) (fun hcl => ?_)
          · rw [lets_eq] at hcl
            walk_at "ss"
            refine k_iStr ?_
            walk_at "ss"
            refine ⟨z, rfl, ?_⟩
            refine k_forIt walk_str (fun i σ H' => H = H' ∧ (∃ v, σ = [some (.str z), v]) ∧ ∀ d ∈ z.cps.toList.take i, (inL d || inD d) = true) ⟨rfl, ⟨_, rfl⟩, fun d hd => (by cases hd)⟩ (fun _ _ _ _ _ => True.intro) ?_ ?_
            · rintro i x σ H' H2 hi ⟨rfl, ⟨v, rfl⟩, hall⟩ ⟨rfl, d, hd, rfl⟩
              have hd2 : z.cps.toList[i]? = some d := by rw [← Array.getElem?_toList] at hd; exact hd
              have step : (inL d || inD d) = true → ∀ d ∈ z.cps.toList.take (i + 1), (inL d || inD d) = true := fun h e he => by
                rw [List.take_add_one, hd2] at he
                rcases List.mem_append.mp he with he | he
                · exact hall e he
                · have : e = d := by simpa using he
                  rw [this]; exact h
              walk_at "ss"
              refine ⟨d, _, rfl, rfl, ?_⟩
              walk_at "ss"
              refine k_n (fun h => ?_) (fun h => ?_)
              · rw [lets_eq] at h
                walk_at "ss"
                exact ⟨rfl, ⟨_, rfl⟩, step (by rw [inL, decide_eq_true h, Bool.true_or])⟩
              · rw [lets_eq] at h
                walk_at "ss"
                refine ⟨d, _, rfl, rfl, ?_⟩
                walk_at "ss"
                refine k_n (fun h2 => ?_) (fun h2 => ?_)
                · rw [digs_eq] at h2
                  walk_at "ss"
                  exact ⟨rfl, ⟨_, rfl⟩, step (by rw [inD, decide_eq_true h2, Bool.or_true])⟩
                · rw [digs_eq] at h2
                  walk_at "ss"
                  have e : nameV (.str z) = false := by
                    rw [en]
                    have hm : d ∈ c :: r := by rw [← hc]; exact List.mem_of_getElem? hd2
                    have : ((c :: r).all fun d => inL d || inD d) = false := List.all_eq_false.mpr ⟨d, hm, by rw [inL, inD, decide_eq_false h, decide_eq_false h2]; decide⟩
                    show (_ && ((c :: r).all fun d => inL d || inD d)) = false
                    rw [this, Bool.and_false]
                  rw [e] at k
                  exact k
            · rintro σ H' ⟨rfl, ⟨v, rfl⟩, hall⟩
              walk_at "ss"
              have e : nameV (.str z) = true := by
                rw [en]
                have h1 : ((c :: r).all fun d => inL d || inD d) = true := List.all_eq_true.mpr fun d hd => by
                  refine hall d ?_
                  rw [← Array.length_toList, List.take_length, hc]
                  exact hd
                show (decide (r.length + 1 ≤ 8) && inL c && ((c :: r).all fun d => inL d || inD d)) = true
                rw [h1, inL, decide_eq_true hcl, decide_eq_true (show r.length + 1 ≤ 8 by omega)]
                rfl
              rw [e] at k
              exact k
          · rw [lets_eq] at hcl
            walk_at "ss"
            have e : nameV (.str z) = false := by
              rw [en]
              show (decide (r.length + 1 ≤ 8) && inL c && _) = false
              rw [inL, decide_eq_false hcl, Bool.and_false, Bool.false_and]
            rw [e] at k
            exact k
        · walk_at "ss"
          have e : nameV (.str z) = false := by
            rw [en]
            show (decide (r.length + 1 ≤ 8) && inL c && _) = false
            rw [decide_eq_false (show ¬ r.length + 1 ≤ 8 by omega), Bool.false_and, Bool.false_and]
          rw [e] at k
          exact k
    · rw [hz]
      walk_at "ss"
      rw [other hz] at k
      exact k
def plBad (v0 v1 v2 v4 : V) : Option Ev := if nameV v0 = false then some (.name v0) else if nameV v1 = false then some (.name v1) else if v2 ≠ .non ∧ nameV v2 = false then some (.name v2) else if v4 ≠ .non ∧ nameV v4 = false then some (.name v4) else none
abbrev nP : List Str := ["name", "server", "elder", "memory", "customer"]
def spPlaceI (T : Tx K mg) : Sp := fun vs H Q E => ∃ (a dx : Addr) (v0 v1 v2 v3 v4 : V), vs = [.ref a, v0, v1, v2, v3, v4] ∧ H a = some (.ins T.C_Place dx []) ∧ Gw K H v0 ∧ Gw K H v1 ∧ Gw K H v2 ∧ Gw K H v4 ∧ (∀ e, plBad v0 v1 v2 v4 = some e → Goes T H E e) ∧
  (plBad v0 v1 v2 v4 = none → ∀ H', SameBut a H H' → H' a = some (.ins T.C_Place dx (FL nP [v0, v1, v2, v3, v4])) → Q .non H')
theorem ok_Place_init (T : Tx K mg) : FnOk P w K mg base (L2.CX P w) 3 T.a_Place_init T.fd_Place_init P_Place_init (spPlaceI T) := by
  refine T.F_Place_init.ok sc_Place_init (fun vs H Q E h => ?_) (fun cdv A outer s H vs Q E hr h => ?_)
  · obtain ⟨a, dx, v0, v1, v2, v3, v4, rfl, _⟩ := h
    rfl
  · obtain ⟨a, dx, v0, v1, v2, v3, v4, rfl, ha, g0, g1, g2, g4, kb, k⟩ := h
    have nd := sc_Place_init.nd
    refine ⟨_, (pss_cons (ps_for (passes_of rfl) rfl (kpi_tup K (pe_tup (pa_cons (kv (i := 1) v_Place_init_name) (pa_cons (kv (i := 2) v_Place_init_server) pa_nil)))) (kgL (i := 6) nd l_Place_init_value) (pss_one (ps_if (pt_not (pt_val (pe_call (ok_is_name T) (hr.mono (by first | decide | omega)) g_Place_init_is_name T.m_is_name T.k_is_name T.b_is_name .nil pass0 (pa_cons (kv (i := 6) v_Place_init_value) pa_nil)))) (pss_one (ps_raise rfl (takes_of rfl rfl rfl rfl) (pmk_oex T.oex_InvalidName T.ii_InvalidName T.ti_InvalidName (ok_InvalidName_init T) (hr.mono (by first | decide | omega)) T.b_InvalidName_init .nil pass0 g_Place_init_InvalidName T.m_InvalidName (pa_cons (kv (i := 6) v_Place_init_value) pa_nil)))) pss_nil)))
      (pss_cons (ps_for (passes_of rfl) rfl (kpi_tup K (pe_tup (pa_cons (kv (i := 3) v_Place_init_elder) (pa_cons (kv (i := 5) v_Place_init_customer) pa_nil)))) (kgL (i := 6) nd l_Place_init_value) (pss_one (ps_if (PW.pt (pw_and (pt_cmpR op_notN (kv (i := 6) v_Place_init_value) pe_non (nomark _)) (pw_and1 (pt_not (pt_val (pe_call (ok_is_name T) (hr.mono (by first | decide | omega)) g_Place_init_is_name T.m_is_name T.k_is_name T.b_is_name .nil pass0 (pa_cons (kv (i := 6) v_Place_init_value) pa_nil))))))) (pss_one (ps_raise rfl (takes_of rfl rfl rfl rfl) (pmk_oex T.oex_InvalidName T.ii_InvalidName T.ti_InvalidName (ok_InvalidName_init T) (hr.mono (by first | decide | omega)) T.b_InvalidName_init .nil pass0 g_Place_init_InvalidName T.m_InvalidName (pa_cons (kv (i := 6) v_Place_init_value) pa_nil)))) pss_nil)))
      (pss_cons (kps_fld K (kv (i := 0) v_Place_init_self) (kv (i := 1) v_Place_init_name))
      (pss_cons (kps_fld K (kv (i := 0) v_Place_init_self) (kv (i := 2) v_Place_init_server))
      (pss_cons (kps_fld K (kv (i := 0) v_Place_init_self) (kv (i := 3) v_Place_init_elder))
      (pss_cons (kps_fld K (kv (i := 0) v_Place_init_self) (kv (i := 4) v_Place_init_memory))
      (pss_one (kps_fld K (kv (i := 0) v_Place_init_self) (kv (i := 5) v_Place_init_customer))))))))), ?_⟩
    walk_at "ss"
    intro tp np
    generalize eH : upd H tp _ = H1
    have s1 := upd_sm eH np
    have htp := upd_at eH
    clear eH
    walk_at "ss"
    refine k_iT (SqT.of htp) ?_
    refine k_forTup [v0, v1] (fun i σ H' => H1 = H' ∧ (∃ u, σ = [some (.ref a), some v0, some v1, some v2, some v3, some v4, u]) ∧ (1 ≤ i → nameV v0 = true) ∧ (2 ≤ i → nameV v1 = true)) ⟨rfl, ⟨none, rfl⟩, fun h => absurd h (by decide), fun h => absurd h (by decide)⟩ ?_ ?_ ?_
    · rintro i σ H' _ ⟨rfl, _⟩
      exact SqT.of htp
    · rintro i x σ H' hx ⟨rfl, ⟨u, rfl⟩, n1, n2⟩
      have hz : (i = 0 ∧ x = v0) ∨ (i = 1 ∧ x = v1) := by
        match i, hx with
        | 0, hx => exact .inl ⟨rfl, (Option.some.inj hx).symm⟩
        | 1, hx => exact .inr ⟨rfl, (Option.some.inj hx).symm⟩
        | i + 2, hx => cases hx
      have gx : Gw K H1 x := by
        rcases hz with ⟨_, rfl⟩ | ⟨_, rfl⟩
        · exact g0.up s1
        · exact g1.up s1
      walk_at "ss"
      refine ⟨x, rfl, gx, ?_⟩
      cases ex : nameV x with
      | false =>
        walk_at "ss"
        show tMkO _ _ _ _ _ _ _
        refine k_mkO ?_
        walk_at "ss"
        refine raise_InvalidName T (Goes.up (kb (.name x) ?_) s1)
        unfold plBad
        rcases hz with ⟨rfl, rfl⟩ | ⟨rfl, rfl⟩
        · rw [if_pos ex]
        · rw [if_neg (by rw [n1 (by decide)]; decide), if_pos ex]
      | true =>
        walk_at "ss"
        refine ⟨rfl, ⟨_, rfl⟩, fun _ => ?_, fun h => ?_⟩
        · rcases hz with ⟨rfl, rfl⟩ | ⟨rfl, rfl⟩
          · exact ex
          · exact n1 (by decide)
        · rcases hz with ⟨rfl, rfl⟩ | ⟨rfl, rfl⟩
          · exact absurd h (by decide)
          · exact ex
    · rintro σ H' ⟨rfl, ⟨u, rfl⟩, n1, n2⟩
      have e0 := n1 (by simp)
      have e1 := n2 (by simp)
      walk_at "ss"
      intro tq nq
      generalize eH : upd H1 tq _ = H2
      have s2 := upd_sm eH nq
      have htq := upd_at eH
      clear eH
      walk_at "ss"
      refine k_iT (SqT.of htq) ?_
      refine k_forTup [v2, v4] (fun i σ H' => H2 = H' ∧ (∃ u, σ = [some (.ref a), some v0, some v1, some v2, some v3, some v4, u]) ∧ (1 ≤ i → v2 = .non ∨ nameV v2 = true) ∧ (2 ≤ i → v4 = .non ∨ nameV v4 = true)) ⟨rfl, ⟨_, rfl⟩, fun h => absurd h (by decide), fun h => absurd h (by decide)⟩ ?_ ?_ ?_
      · rintro i σ H' _ ⟨rfl, _⟩
        exact SqT.of htq
      · rintro i x σ H' hx ⟨rfl, ⟨u, rfl⟩, m1, m2⟩
        have hz : (i = 0 ∧ x = v2) ∨ (i = 1 ∧ x = v4) := by
          match i, hx with
          | 0, hx => exact .inl ⟨rfl, (Option.some.inj hx).symm⟩
          | 1, hx => exact .inr ⟨rfl, (Option.some.inj hx).symm⟩
          | i + 2, hx => cases hx
        have gx : Gw K H2 x := by
          rcases hz with ⟨_, rfl⟩ | ⟨_, rfl⟩
          · exact (g2.up s1).up s2
          · exact (g4.up s1).up s2
        have fin : (x = .non ∨ nameV x = true) → H2 = H2 ∧ (∃ u', [some (V.ref a), some v0, some v1, some v2, some v3, some v4, some x] = [some (V.ref a), some v0, some v1, some v2, some v3, some v4, u']) ∧ (1 ≤ i + 1 → v2 = .non ∨ nameV v2 = true) ∧ (2 ≤ i + 1 → v4 = .non ∨ nameV v4 = true) := fun hh => by
          refine ⟨rfl, ⟨_, rfl⟩, fun _ => ?_, fun h => ?_⟩
          · rcases hz with ⟨rfl, rfl⟩ | ⟨rfl, rfl⟩
            · exact hh
            · exact m1 (by decide)
          · rcases hz with ⟨rfl, rfl⟩ | ⟨rfl, rfl⟩
            · exact absurd h (by decide)
            · exact hh
        walk_at "ss"
        refine ⟨rfl, ?_⟩
        refine ⟨_, rfl, ?_⟩
        refine k_n (fun e => ?_) (fun e => ?_)
        · walk_at "ss"
          exact fin (.inl e)
        · walk_at "ss"
          refine ⟨x, rfl, gx, ?_⟩
          cases ex : nameV x with
          | false =>
            walk_at "ss"
            show tMkO _ _ _ _ _ _ _
            refine k_mkO ?_
            walk_at "ss"
            refine raise_InvalidName T (Goes.up (kb (.name x) ?_) (s1.trans s2))
            unfold plBad
            rw [if_neg (by rw [e0]; decide), if_neg (by rw [e1]; decide)]
            rcases hz with ⟨rfl, rfl⟩ | ⟨rfl, rfl⟩
            · rw [if_pos ⟨e, ex⟩]
            · rw [if_neg (fun z => ?_), if_pos ⟨e, ex⟩]
              rcases m1 (by decide) with q | q
              · exact z.1 q
              · rw [q] at z; exact absurd z.2 (by decide)
          | true =>
            walk_at "ss"
            exact fin (.inr ex)
      · rintro σ H' ⟨rfl, ⟨u, rfl⟩, m1, m2⟩
        have e2 := m1 (by simp)
        have e4 := m2 (by simp)
        have ha2 := s2 _ _ (s1 _ _ ha)
        walk_at "ss"
        refine k_putAt (ns := []) (vs := []) ha2 T.cl_Place T.no_Place_name rfl (by decide +kernel) (by decide) ?_
        walk_at "ss"
        refine k_putTop T.cl_Place T.no_Place_server rfl (by decide +kernel) (by decide) ?_
        walk_at "ss"
        refine k_putTop T.cl_Place T.no_Place_elder rfl (by decide +kernel) (by decide) ?_
        walk_at "ss"
        refine k_putTop T.cl_Place T.no_Place_memory rfl (by decide +kernel) (by decide) ?_
        walk_at "ss"
        refine k_putTop T.cl_Place T.no_Place_customer rfl (by decide +kernel) (by decide) ?_
        refine k ?_ _ ((SameBut.of (s1.trans s2)).put) upd_same
        unfold plBad
        rw [if_neg (by rw [e0]; decide), if_neg (by rw [e1]; decide), if_neg (fun z => ?_), if_neg (fun z => ?_)]
        · rcases e4 with q | q
          · exact z.1 q
          · rw [q] at z; exact absurd z.2 (by decide)
        · rcases e2 with q | q
          · exact z.1 q
          · rw [q] at z; exact absurd z.2 (by decide)
end

/-! ### the rows of a tree -/
structure PlRow where
  nm : Str
  sv : Str
  el : Option Str
  me : Bool
  cu : Option Str
def vO : Option Str → V
  | none => .non
  | some z => .str z
theorem vO_non (o : Option Str) : vO o = .non ↔ o = none := by cases o <;> simp [vO]
abbrev PL := List (Addr × PlRow)
/-- whether a place fits those ahead of it -/
def fitR (ah : List PlRow) (r : PlRow) : Bool :=
  if r.nm ∈ ah.map (·.nm) then false
  else if ah = [] then (decide (r.el = none) && (!r.me && decide (r.cu = none)))
  else match r.el with
    | none => false
    | some e => match ah.find? (fun u => decide (u.nm = e)) with
      | none => false
      | some u => if u.me = true then false else if u.sv = r.sv then true else (!r.me && !decide (r.sv ∈ ah.map (·.sv)))
def kvB (l : PL) : List (Key × V) := l.map fun z => (.inr z.2.nm, .ref z.1)
theorem val_kvB (n : Str) : ∀ l : PL, valV (kvB l) (.inr n) = (l.find? fun z => decide (z.2.nm = n)).map fun z => V.ref z.1
  | [] => rfl
  | z :: l => by
    have ih := val_kvB n l
    by_cases e : z.2.nm = n
    · have : (Sum.inr z.2.nm : Key) = .inr n := by rw [e]
      rw [show kvB (z :: l) = (.inr z.2.nm, .ref z.1) :: kvB l from rfl, valV_pos (p := ((.inr z.2.nm : Key), V.ref z.1)) this]
      simp [List.find?_cons, e]
    · have : ¬ (Sum.inr z.2.nm : Key) = .inr n := fun q => e (Sum.inr.inj q)
      rw [show kvB (z :: l) = (.inr z.2.nm, .ref z.1) :: kvB l from rfl, valV_neg (p := ((.inr z.2.nm : Key), V.ref z.1)) this, ih]
      simp [List.find?_cons, e]
theorem find_rows (n : Str) (l : PL) : (l.map (·.2)).find? (fun u => decide (u.nm = n)) = (l.find? fun z => decide (z.2.nm = n)).map (·.2) := by
  rw [List.find?_map]
  rfl
theorem find_nm (n : Str) (l : PL) : (l.find? fun z => decide (z.2.nm = n)).isSome = decide (n ∈ (l.map (·.2)).map (·.nm)) := by
  rw [Bool.eq_iff_iff, List.find?_isSome, decide_eq_true_iff]
  simp
theorem val_is (n : Str) (l : PL) : (valV (kvB l) (.inr n)).isSome = decide (n ∈ (l.map (·.2)).map (·.nm)) := by
  rw [val_kvB, ← find_nm]
  cases l.find? fun z => decide (z.2.nm = n) <;> rfl
section
variable {w : World} {K : PySem.W.Frag} {mg : Str → Option Value} {base : Heap}
def PlaceAt (T : Tx K mg) (H : Hp) (a : Addr) (r : PlRow) : Prop := ∃ dx : Addr, H a = some (.ins T.C_Place dx (FL nP [.str r.nm, .str r.sv, vO r.el, .bl r.me, vO r.cu]))
theorem PlaceAt.up {T : Tx K mg} {H H' : Hp} {a : Addr} {r : PlRow} (h : PlaceAt T H a r) (e : Same H H') : PlaceAt T H' a r := by
  obtain ⟨dx, h⟩ := h
  exact ⟨dx, e _ _ h⟩
abbrev nT : List Str := ["rule", "_places", "_by_name", "_children", "_tops"]
structure TreeR (T : Tx K mg) (H : Hp) (t : Addr) (l : PL) (dx L D1 D2 D3 : Addr) (rv : V) (kt : List (Key × V)) : Prop where
  at_ : H t = some (.ins T.C_Tree dx (FL nT [rv, .ref L, .ref D1, .ref D2, .ref D3]))
  names : H D1 = some (.dK (kvB l))
  tops : H D3 = some (.dK kt)
  topsIs : ∀ s : Str, (valV kt (.inr s)).isSome = decide (s ∈ (l.map (·.2)).map (·.sv))
  pls : ∀ z ∈ l, PlaceAt T H z.1 z.2
def rInF (y x : V) (H : Hp) (Q : VK) : Prop := ∃ a o, x = .ref a ∧ DGet H a y o ∧ Q (.bl o.isSome) H
def rNinF (y x : V) (H : Hp) (Q : VK) : Prop := ∃ a o, x = .ref a ∧ DGet H a y o ∧ Q (.bl (!o.isSome)) H
theorem k_din {σ : L2.St} {H : Hp} {Q : VK} {ty td : TE} (h : ty σ H fun y H1 => td σ H1 fun x H2 => rInF y x H2 Q) : tDIn ty td σ H Q := h
theorem k_dnotin {σ : L2.St} {H : Hp} {Q : VK} {ty td : TE} (h : ty σ H fun y H1 => td σ H1 fun x H2 => rNinF y x H2 Q) : tDNotIn ty td σ H Q := h
theorem k_inK {n : Str} {a : Addr} {kvs : List (Key × V)} {H : Hp} {Q : VK} (h : H a = some (.dK kvs)) (k : Q (.bl (valV kvs (.inr n)).isSome) H) : rInF (.str n) (.ref a) H Q := ⟨a, _, rfl, DGet.k (k := Sum.inr n) h, k⟩
theorem k_ninK {n : Str} {a : Addr} {kvs : List (Key × V)} {H : Hp} {Q : VK} (h : H a = some (.dK kvs)) (k : Q (.bl (!(valV kvs (.inr n)).isSome)) H) : rNinF (.str n) (.ref a) H Q := ⟨a, _, rfl, DGet.k (k := Sum.inr n) h, k⟩
def spFits (T : Tx K mg) : Sp := fun vs H Q _ => ∃ (t a : Addr) (r : PlRow) (l : PL) (dx L D1 D2 D3 : Addr) (rv : V) (kt : List (Key × V)), vs = [.ref t, .ref a] ∧ TreeR T H t l dx L D1 D2 D3 rv kt ∧ PlaceAt T H a r ∧ Q (.bl (fitR (l.map (·.2)) r)) H
theorem ok_Tree_fits (T : Tx K mg) : FnOk P w K mg base CX0 1 T.a_Tree_fits T.fd_Tree_fits P_Tree_fits (spFits T) := by
  refine T.F_Tree_fits.ok sc_Tree_fits (fun vs H Q E h => ?_) (fun cdv A outer s H vs Q E hr h => ?_)
  · obtain ⟨t, a, r, l, dx, L, D1, D2, D3, rv, kt, rfl, _⟩ := h
    rfl
  · obtain ⟨t, a, r, l, dx, L, D1, D2, D3, rv, kt, rfl, hT, ⟨da, hP⟩, k⟩ := h
    have nd := sc_Tree_fits.nd
    refine ⟨_, (pss_cons (ps_if (pt_cmp (pc_din (hu_of hr) (kpe_fld K (kv (i := 1) v_Tree_fits_place)) (kpe_fld K (kv (i := 0) v_Tree_fits_self)))) (pss_one (ps_ret pe_bl)) pss_nil)
      (pss_cons (ps_if (pt_cmpR op_eq (kcB b_len (by decide) (by decide) call_lenD g_Tree_fits_len T.n_len (pa_cons (kpe_fld K (kv (i := 0) v_Tree_fits_self)) pa_nil)) pe_int (nomark _)) (pss_one (ps_ret (pe_and (pe_cmpR op_isN (kpe_fld K (kv (i := 1) v_Tree_fits_place)) pe_non (nomark _)) (pe_and (pe_not (kpe_fld K (kv (i := 1) v_Tree_fits_place))) (pe_one (pe_cmpR op_isN (kpe_fld K (kv (i := 1) v_Tree_fits_place)) pe_non (nomark _))))))) pss_nil)
      (pss_cons (ps_if (PW.pt (pw_or (pt_cmpR op_isN (kpe_fld K (kv (i := 1) v_Tree_fits_place)) pe_non (nomark _)) (pw_or1 (pt_cmp (pc_dnotin (hu_of hr) (kpe_fld K (kv (i := 1) v_Tree_fits_place)) (kpe_fld K (kv (i := 0) v_Tree_fits_self))))))) (pss_one (ps_ret pe_bl)) pss_nil)
      (pss_cons (ks_setL (i := 2) nd l_Tree_fits_elder (pe_dget (hu_of hr) (kpe_fld K (kv (i := 0) v_Tree_fits_self)) (kpe_fld K (kv (i := 1) v_Tree_fits_place)) (fun _ _ => rfl)))
      (pss_cons (ps_if (kpt_truth K (kpe_fld K (kv (i := 2) v_Tree_fits_elder))) (pss_one (ps_ret pe_bl)) pss_nil)
      (pss_cons (ps_if (pt_cmpR op_eq (kpe_fld K (kv (i := 2) v_Tree_fits_elder)) (kpe_fld K (kv (i := 1) v_Tree_fits_place)) (nomark _)) (pss_one (ps_ret pe_bl)) pss_nil)
      (pss_one (ps_ret (pe_and (pe_not (kpe_fld K (kv (i := 1) v_Tree_fits_place))) (pe_one (pe_cmp (pc_dnotin (hu_of hr) (kpe_fld K (kv (i := 1) v_Tree_fits_place)) (kpe_fld K (kv (i := 0) v_Tree_fits_self)))))))))))))), ?_⟩
    walk_at "ss"
    refine k_din ?_
    walk_at "ss"
    refine k_fldAt hP T.cl_Place T.no_Place_name (i := 0) (by decide +kernel) rfl ?_
    walk_at "ss"
    refine k_fldAt hT.at_ T.cl_Tree T.no_Tree_by_name (i := 2) (by decide +kernel) rfl ?_
    refine k_inK hT.names ?_
    rw [val_is]
    walk_at "ss"
    refine k_d (fun h1 => ?_) (fun h1 => ?_)
    · walk_at "ss"
      have e : fitR (l.map (·.2)) r = false := by unfold fitR; rw [if_pos h1]
      rw [e] at k
      exact k
    · walk_at "ss"
      refine k_fldAt hT.at_ T.cl_Tree T.no_Tree_by_name (i := 2) (by decide +kernel) rfl ?_
      refine ⟨D1, _, rfl, hT.names, ?_⟩
      walk_at "ss"
      refine k_d (fun h2 => ?_) (fun h2 => ?_)
      · have hl : l = [] := by
          have : l.length = 0 := by simpa [kvB] using h2
          exact List.length_eq_zero_iff.mp this
        subst hl
        have e : fitR ([] : List PlRow) r = (decide (r.el = none) && (!r.me && decide (r.cu = none))) := rfl
        rw [show (([] : PL).map (·.2)) = [] from rfl, e] at k
        walk_at "ss"
        refine k_fldAt hP T.cl_Place T.no_Place_elder (i := 2) (by decide +kernel) rfl ?_
        refine ⟨rfl, ?_⟩
        refine ⟨_, rfl, ?_⟩
        refine k_d (fun h3 => ?_) (fun h3 => ?_)
        · rw [decide_eq_true ((vO_non _).mp h3), Bool.true_and] at k
          walk_at "ss"
          refine k_fldAt hP T.cl_Place T.no_Place_memory (i := 3) (by decide +kernel) rfl ?_
          refine ⟨_, rfl, ?_⟩
          refine ⟨_, rfl, ?_⟩
          cases hm : r.me with
          | true =>
            rw [hm] at k
            exact k
          | false =>
            rw [hm] at k
            refine k_t ?_
            walk_at "ss"
            refine k_fldAt hP T.cl_Place T.no_Place_customer (i := 4) (by decide +kernel) rfl ?_
            refine ⟨rfl, ?_⟩
            rw [decide_eq_decide.mpr (vO_non r.cu)]
            exact k
        · rw [decide_eq_false (fun z => h3 ((vO_non _).mpr z)), Bool.false_and] at k
          exact k
      · have hl : l ≠ [] := fun z => h2 (by rw [z]; rfl)
        have hl2 : l.map (·.2) ≠ [] := by simpa using hl
        walk_at "ss"
        refine k_fldAt hP T.cl_Place T.no_Place_elder (i := 2) (by decide +kernel) rfl ?_
        refine ⟨rfl, ?_⟩
        refine ⟨_, rfl, ?_⟩
        have e0 : fitR (l.map (·.2)) r = (match r.el with
          | none => false
          | some e => match (l.map (·.2)).find? (fun u => decide (u.nm = e)) with
            | none => false
            | some u => if u.me = true then false else if u.sv = r.sv then true else (!r.me && !decide (r.sv ∈ (l.map (·.2)).map (·.sv)))) := by
          unfold fitR
          rw [if_neg h1, if_neg hl2]
        rw [e0] at k
        clear e0
        cases hel : r.el with
        | none =>
          rw [hel] at k
          refine k_dt rfl ?_
          walk_at "ss"
          exact k
        | some e =>
          rw [hel] at k hP
          have hP : H a = some (.ins T.C_Place da (FL nP [.str r.nm, .str r.sv, .str e, .bl r.me, vO r.cu])) := hP
          refine k_df (fun z => by cases z) ?_
          walk_at "ss"
          refine k_dnotin ?_
          walk_at "ss"
          refine k_fldAt hP T.cl_Place T.no_Place_elder (i := 2) (by decide +kernel) rfl ?_
          walk_at "ss"
          refine k_fldAt hT.at_ T.cl_Tree T.no_Tree_by_name (i := 2) (by decide +kernel) rfl ?_
          refine k_ninK hT.names ?_
          have hv := val_kvB e l
          dsimp only at k
          rw [find_rows] at k
          cases hf : l.find? (fun z => decide (z.2.nm = e)) with
          | none =>
            rw [hf] at k hv
            rw [hv]
            refine ⟨_, rfl, ?_⟩
            refine k_t ?_
            walk_at "ss"
            exact k
          | some z =>
            rw [hf] at k hv
            have hz := List.mem_of_find?_eq_some hf
            obtain ⟨dz, hZ⟩ := hT.pls z hz
            rw [hv]
            refine ⟨_, rfl, ?_⟩
            refine k_f ?_
            walk_at "ss"
            refine k_dget ?_
            walk_at "ss"
            refine k_fldAt hT.at_ T.cl_Tree T.no_Tree_by_name (i := 2) (by decide +kernel) rfl ?_
            walk_at "ss"
            refine k_fldAt hP T.cl_Place T.no_Place_elder (i := 2) (by decide +kernel) rfl ?_
            refine ⟨D1, .ref z.1, rfl, ?_, ?_⟩
            · have g := DGet.k (k := Sum.inr e) hT.names
              rw [hv] at g
              exact g
            · walk_at "ss"
              show tFld K (tVar 2) _ _ _ _
              walk_at "ss"
              refine k_fldAt hZ T.cl_Place T.no_Place_memory (i := 3) (by decide +kernel) rfl ?_
              refine ⟨z.2.me, rfl, ?_⟩
              have k : Q (.bl (if z.2.me = true then false else if z.2.sv = r.sv then true else (!r.me && !decide (r.sv ∈ (l.map (·.2)).map (·.sv))))) H := k
              cases hm : z.2.me with
              | true =>
                rw [if_pos hm] at k
                refine k_t ?_
                walk_at "ss"
                exact k
              | false =>
                rw [if_neg (by rw [hm]; decide)] at k
                refine k_f ?_
                walk_at "ss"
                refine k_fldAt hZ T.cl_Place T.no_Place_server (i := 1) (by decide +kernel) rfl ?_
                walk_at "ss"
                refine k_fldAt hP T.cl_Place T.no_Place_server (i := 1) (by decide +kernel) rfl ?_
                refine k_eq rfl ?_
                rw [show decide (V.str z.2.sv = V.str r.sv) = decide (z.2.sv = r.sv) by simp]
                refine ⟨_, rfl, ?_⟩
                refine k_d (fun h5 => ?_) (fun h5 => ?_)
                · rw [if_pos h5] at k
                  walk_at "ss"
                  exact k
                · rw [if_neg h5] at k
                  walk_at "ss"
                  refine k_fldAt hP T.cl_Place T.no_Place_memory (i := 3) (by decide +kernel) rfl ?_
                  refine ⟨_, rfl, ?_⟩
                  refine ⟨_, rfl, ?_⟩
                  cases hm2 : r.me with
                  | true =>
                    rw [hm2] at k
                    exact k
                  | false =>
                    rw [hm2] at k
                    refine k_t ?_
                    refine k_dnotin ?_
                    walk_at "ss"
                    refine k_fldAt hP T.cl_Place T.no_Place_server (i := 1) (by decide +kernel) rfl ?_
                    walk_at "ss"
                    refine k_fldAt hT.at_ T.cl_Tree T.no_Tree_tops (i := 4) (by decide +kernel) rfl ?_
                    refine k_ninK hT.tops ?_
                    rw [hT.topsIs]
                    exact k
end

section
variable {w : World} {K : PySem.W.Frag} {mg : Str → Option Value} {base : Heap}
/-! ### Tree.__init__ -/
theorem k_iEnumT {ta : TA} {σ : L2.St} {H : Hp} {R : It → Hp → Prop} (h : ta σ H fun vs H1 => ∃ a xs, vs = [V.ref a] ∧ SqT K H1 a xs ∧ R (Itet K a) H1) : iEnumT K ta σ H R := h
/-- whether v is of the class C, now and later -/
def IsI (K : PySem.W.Frag) (C : Addr) (H : Hp) (v : V) (b : Bool) : Prop := ∀ H', Same H H' → ∃ t, TyX K H' v t ∧ PySem.W.kitOne K t (.ref C) = some b
theorem IsI.up {C : Addr} {H H' : Hp} {v : V} {b : Bool} (h : IsI K C H v b) (e : Same H H') : IsI K C H' v b := fun H2 e2 => h H2 (e.trans e2)
theorem k_isI {C : Addr} {H : Hp} {v : V} {b : Bool} {Q : VK} (h : IsI K C H v b) (k : Q (.bl b) H) : rIsi K [v, .ref C] H Q := by
  obtain ⟨t, ty, hk⟩ := h H (Same.refl _)
  exact k_isiO ty hk k
/-- an item given: a place with its row, or no place -/
def ItemAt (T : Tx K mg) (H : Hp) (x : V) (o : Option PlRow) : Prop := match o with
  | none => IsI K T.C_Place H x false
  | some r => ∃ a, x = .ref a ∧ PlaceAt T H a r
theorem ItemAt.up {T : Tx K mg} {H H' : Hp} {x : V} {o : Option PlRow} (h : ItemAt T H x o) (e : Same H H') : ItemAt T H' x o := by
  cases o with
  | none => exact IsI.up h e
  | some r =>
    obtain ⟨a, rfl, h⟩ := h
    exact ⟨a, rfl, h.up e⟩
theorem ItemAt.is {T : Tx K mg} {H : Hp} {x : V} {o : Option PlRow} (h : ItemAt T H x o) : IsI K T.C_Place H x o.isSome := by
  cases o with
  | none => exact h
  | some r =>
    obtain ⟨a, rfl, dx, h⟩ := h
    exact fun H' e => ⟨_, ty_own T.ty_Place (e _ _ h), T.kt_Place_Place⟩
/-- the first item that is no place -/
def noPlace : List (Option PlRow) → Nat → Option Nat
  | [], _ => none
  | none :: _, i => some i
  | some _ :: r, i => noPlace r (i + 1)
/-- the first place that does not fit -/
def misfit : List PlRow → List PlRow → Option PlRow
  | _, [] => none
  | ah, r :: rs => if fitR ah r = true then misfit (ah ++ [r]) rs else some r
def rowsOf (os : List (Option PlRow)) : List PlRow := os.filterMap id
def treeBad (rv : V) (isR : Bool) (os : List (Option PlRow)) : Option Ev :=
  if isR = false then some (.rule rv) else match noPlace os 0 with
  | some i => some (.place (.int (i : Nat)))
  | none => if os = [] then some (.bad .non) else if 24 < os.length then some (.many "places" (os.length : Nat)) else match misfit [] (rowsOf os) with
    | some r => some (.bad (.str r.nm))
    | none => none
/-- a tree of these rows: its list of places -/
def TreeAt (T : Tx K mg) (H : Hp) (t : Addr) (xs : List V) : Prop := ∃ (dx L D1 D2 D3 : Addr) (rv : V), H t = some (.ins T.C_Tree dx (FL nT [rv, .ref L, .ref D1, .ref D2, .ref D3])) ∧ H L = some (.lst xs)
abbrev One1 (C0 : Addr) (sp0 : Sp) : Addr → Sp → Prop := fun C sp => C = C0 ∧ sp = sp0
theorem disp1 {C0 g0 : Addr} {fd0 : FuncData} {ps0 : List Str} {sp0 : Sp} {k : Nat} {m : Str} (cl : Cls K C0) (me : Meth K C0 m g0) (Fn : FnOk P w K mg base CX0 k g0 fd0 ps0 sp0) (b : Binds K fd0 ps0 []) :
    ∀ C sp, One1 C0 sp0 C sp → ∃ g fd ps, Cls K C ∧ Meth K C m g ∧ FnOk P w K mg base CX0 k g fd ps sp ∧ Binds K fd ps [] := by
  rintro C sp ⟨rfl, rfl⟩
  exact ⟨_, _, _, cl, me, Fn, b⟩
/-! the rows of a tree being made -/
abbrev kA (cs : List (Str × Addr)) : List (Key × V) := cs.map fun z => (.inr z.1, .ref z.2)
theorem val_kA {n : Str} : ∀ {cs : List (Str × Addr)}, n ∈ cs.map (·.1) → ∃ z ∈ cs, z.1 = n ∧ valV (kA cs) (.inr n) = some (.ref z.2)
  | [], h => by cases h
  | y :: cs, h => by
    by_cases e : y.1 = n
    · exact ⟨y, List.mem_cons_self, e, valV_pos (p := ((.inr y.1 : Key), V.ref y.2)) (by rw [e])⟩
    · have h2 : n ∈ cs.map (·.1) := by
        rcases List.mem_cons.mp h with h | h
        · exact absurd h.symm e
        · exact h
      obtain ⟨z, hz, e1, e2⟩ := val_kA h2
      exact ⟨z, List.mem_cons_of_mem _ hz, e1, by
        rw [show kA (y :: cs) = ((.inr y.1 : Key), V.ref y.2) :: kA cs from rfl, valV_neg (p := ((.inr y.1 : Key), V.ref y.2)) (fun q => e (Sum.inr.inj q))]
        exact e2⟩
theorem put_kA {cs : List (Str × Addr)} {n : Str} {D : Addr} (h : n ∉ cs.map (·.1)) : putK (kA cs) (.inr n) (.ref D) = kA (cs ++ [(n, D)]) := by
  unfold putK
  rw [if_neg]
  · unfold kA
    rw [List.map_append]
    rfl
  · intro q
    rw [List.any_eq_true] at q
    obtain ⟨x, hx, hk⟩ := q
    obtain ⟨y, hy, rfl⟩ := List.mem_map.mp hx
    exact h (List.mem_map.mpr ⟨y, hy, by simpa using hk⟩)
theorem put_kvB {l : PL} {z : Addr × PlRow} (h : z.2.nm ∉ (l.map (·.2)).map (·.nm)) : putK (kvB l) (.inr z.2.nm) (.ref z.1) = kvB (l ++ [z]) := by
  unfold putK
  rw [valV_any, val_is, decide_eq_false h, if_neg (by decide)]
  unfold kvB
  rw [List.map_append]
  rfl
theorem fit_new {ah : List PlRow} {r : PlRow} (h : fitR ah r = true) : r.nm ∉ ah.map (·.nm) ∧ ∀ e, r.el = some e → e ∈ ah.map (·.nm) := by
  unfold fitR at h
  by_cases h1 : r.nm ∈ ah.map (·.nm)
  · rw [if_pos h1] at h
    cases h
  · refine ⟨h1, fun e he => ?_⟩
    rw [if_neg h1] at h
    by_cases h2 : ah = []
    · rw [if_pos h2, he] at h
      cases h
    · rw [if_neg h2, he] at h
      dsimp only at h
      cases hf : ah.find? (fun u => decide (u.nm = e)) with
      | none => rw [hf] at h; cases h
      | some u =>
        exact List.mem_map.mpr ⟨u, List.mem_of_find?_eq_some hf, of_decide_eq_true (by have := List.find?_some hf; exact this)⟩
structure TrM (T : Tx K mg) (H0 H : Hp) (a dx L D1 D2 D3 : Addr) (rv : V) (xs : List V) (l : PL) (cs : List (Str × Addr)) (kt : List (Key × V)) (n : Nat) : Prop where
  sb : SameBut a H0 H
  at_ : H a = some (.ins T.C_Tree dx (FL nT [rv, .ref L, .ref D1, .ref D2, .ref D3]))
  h1 : H D1 = some (.dK (kvB l))
  h2 : H D2 = some (.dK (kA cs))
  h3 : H D3 = some (.dK kt)
  hL : H L = some (.lst xs)
  ck : cs.map (·.1) = (l.map (·.2)).map (·.nm)
  ch : ∀ z ∈ cs, H0 z.2 = none ∧ z.2 ≠ L ∧ ∃ ys : List V, H z.2 = some (.lst ys) ∧ ys.length ≤ n
  nw : H0 L = none ∧ H0 D1 = none ∧ H0 D2 = none ∧ H0 D3 = none
  df : D1 ≠ D2 ∧ D1 ≠ D3 ∧ D2 ≠ D3
section
variable {T : Tx K mg} {H0 H : Hp} {a dx L D1 D2 D3 : Addr} {rv : V} {xs : List V} {l : PL} {cs : List (Str × Addr)} {kt : List (Key × V)} {n : Nat}
theorem sb_put {x : Addr} {o : HO} (h : SameBut a H0 H) (hx : H0 x = none) : SameBut a H0 (upd H x o) := fun z u nz hz => by
  rw [upd_ne (ne_of_none hz hx)]
  exact h _ _ nz hz
theorem TrM.add (M : TrM T H0 H a dx L D1 D2 D3 rv xs l cs kt n) {z : Addr × PlRow} {c : Addr} (ha0 : H0 a ≠ none) (nc : upd H D1 (.dK (kvB (l ++ [z]))) c = none) :
    TrM T H0 (upd (upd (upd H D1 (.dK (kvB (l ++ [z])))) c (.lst [])) D2 (.dK (kA (cs ++ [(z.2.nm, c)])))) a dx L D1 D2 D3 rv xs (l ++ [z]) (cs ++ [(z.2.nm, c)]) kt n := by
  obtain ⟨ncH, ncD1⟩ := up_none nc
  have ncx : ∀ {x : Addr} {o : HO}, H x = some o → x ≠ c := fun h => ne_of_none h ncH
  have kd : ∀ {x : Addr} {ys : List V}, H x = some (.lst ys) → x ≠ D1 ∧ x ≠ D2 := fun h => ⟨ne_of h M.h1 (by intro z; cases z), ne_of h M.h2 (by intro z; cases z)⟩
  obtain ⟨nL, n1, n2, n3⟩ := M.nw
  obtain ⟨d12, d13, d23⟩ := M.df
  have sa : ∀ {x : Addr}, x ≠ D1 → x ≠ D2 → x ≠ c → upd (upd (upd H D1 (.dK (kvB (l ++ [z])))) c (.lst [])) D2 (.dK (kA (cs ++ [(z.2.nm, c)]))) x = H x := fun e1 e2 e3 => by
    rw [upd_ne e2, upd_ne e3, upd_ne e1]
  have nc0 : H0 c = none := by
    cases hz : H0 c with
    | none => rfl
    | some o =>
      by_cases e : c = a
      · exact absurd M.at_ (by rw [← e, ncH]; intro z; cases z)
      · exact absurd (M.sb _ _ e hz) (by rw [ncH]; intro z; cases z)
  refine ⟨sb_put (sb_put (sb_put M.sb n1) nc0) n2, ?_, ?_, upd_same, ?_, ?_, ?_, ?_, M.nw, M.df⟩
  · rw [sa (ne_of M.at_ M.h1 (by intro z; cases z)) (ne_of M.at_ M.h2 (by intro z; cases z)) (ncx M.at_)]
    exact M.at_
  · rw [upd_ne d12, upd_ne (Ne.symm ncD1)]
    exact upd_same
  · rw [sa (Ne.symm d13) (Ne.symm d23) (ncx M.h3)]
    exact M.h3
  · rw [sa (kd M.hL).1 (kd M.hL).2 (ncx M.hL)]
    exact M.hL
  · rw [List.map_append, List.map_append, List.map_append, M.ck]
    rfl
  · intro y hy
    rcases List.mem_append.mp hy with hy | hy
    · obtain ⟨y0, yL, ys, hys, hn⟩ := M.ch y hy
      exact ⟨y0, yL, ys, by rw [sa (kd hys).1 (kd hys).2 (ncx hys)]; exact hys, hn⟩
    · obtain rfl := List.mem_singleton.mp hy
      exact ⟨nc0, Ne.symm (ncx M.hL), [], by rw [upd_ne (Ne.symm (ncx M.h2))]; exact upd_same, Nat.zero_le _⟩
theorem TrM.kid (M : TrM T H0 H a dx L D1 D2 D3 rv xs l cs kt n) {y : Str × Addr} {ys : List V} {v : V} (hy : y ∈ cs) (h : H y.2 = some (.lst ys)) (hn : ys.length ≤ n) : TrM T H0 (upd H y.2 (.lst (ys ++ [v]))) a dx L D1 D2 D3 rv xs l cs kt (n + 1) := by
  obtain ⟨y0, yL, _⟩ := M.ch y hy
  refine ⟨sb_put M.sb y0, ?_, ?_, ?_, ?_, ?_, M.ck, ?_, M.nw, M.df⟩
  · rw [upd_ne (ne_of M.at_ h (by intro z; cases z))]; exact M.at_
  · rw [upd_ne (ne_of M.h1 h (by intro z; cases z))]; exact M.h1
  · rw [upd_ne (ne_of M.h2 h (by intro z; cases z))]; exact M.h2
  · rw [upd_ne (ne_of M.h3 h (by intro z; cases z))]; exact M.h3
  · rw [upd_ne (Ne.symm yL)]; exact M.hL
  · intro z hz
    obtain ⟨z0, zL, zs, hzs, hzn⟩ := M.ch z hz
    by_cases e : z.2 = y.2
    · exact ⟨z0, zL, ys ++ [v], by rw [e]; exact upd_same, by rw [List.length_append]; show ys.length + 1 ≤ n + 1; omega⟩
    · exact ⟨z0, zL, zs, by rw [upd_ne e]; exact hzs, by omega⟩
theorem TrM.le (M : TrM T H0 H a dx L D1 D2 D3 rv xs l cs kt n) {m : Nat} (h : n ≤ m) : TrM T H0 H a dx L D1 D2 D3 rv xs l cs kt m :=
  ⟨M.sb, M.at_, M.h1, M.h2, M.h3, M.hL, M.ck, fun z hz => by obtain ⟨z0, zL, zs, hzs, hzn⟩ := M.ch z hz; exact ⟨z0, zL, zs, hzs, by omega⟩, M.nw, M.df⟩
theorem TrM.top (M : TrM T H0 H a dx L D1 D2 D3 rv xs l cs kt n) {kt' : List (Key × V)} : TrM T H0 (upd H D3 (.dK kt')) a dx L D1 D2 D3 rv xs l cs kt' n := by
  obtain ⟨nL, n1, n2, n3⟩ := M.nw
  obtain ⟨d12, d13, d23⟩ := M.df
  refine ⟨sb_put M.sb n3, ?_, ?_, ?_, upd_same, ?_, M.ck, ?_, M.nw, M.df⟩
  · rw [upd_ne (ne_of M.at_ M.h3 (by intro z; cases z))]; exact M.at_
  · rw [upd_ne d13]; exact M.h1
  · rw [upd_ne d23]; exact M.h2
  · rw [upd_ne (ne_of M.hL M.h3 (by intro z; cases z))]; exact M.hL
  · intro z hz
    obtain ⟨z0, zL, zs, hzs, hzn⟩ := M.ch z hz
    exact ⟨z0, zL, zs, by rw [upd_ne (ne_of hzs M.h3 (by intro z; cases z))]; exact hzs, hzn⟩
end
theorem all_places {T : Tx K mg} {H : Hp} : ∀ (os : List (Option PlRow)) (xs : List V) (n : Nat), noPlace os n = none → xs.length = os.length → (∀ (i : Nat) x o, xs[i]? = some x → os[i]? = some o → ItemAt T H x o) →
    ∃ l0 : PL, xs = l0.map (fun z => V.ref z.1) ∧ rowsOf os = l0.map (·.2) ∧ ∀ z ∈ l0, PlaceAt T H z.1 z.2
  | [], [], _, _, _, _ => ⟨[], rfl, rfl, fun z h => by cases h⟩
  | none :: os, x :: xs, n, h, _, _ => by cases h
  | some r :: os, x :: xs, n, h, hl, hi => by
    obtain ⟨l0, e1, e2, h3⟩ := all_places os xs (n + 1) h (by simpa using hl) (fun i y o hy ho => hi (i + 1) y o hy ho)
    obtain ⟨b, rfl, hb⟩ := hi 0 x (some r) rfl rfl
    refine ⟨(b, r) :: l0, by rw [e1]; rfl, ?_, fun z hz => ?_⟩
    · show r :: rowsOf os = _
      rw [e2]
      rfl
    · rcases List.mem_cons.mp hz with rfl | hz
      · exact hb
      · exact h3 z hz
  | [], x :: xs, _, _, hl, _ => by cases hl
  | o :: os, [], _, _, hl, _ => by cases hl
theorem tree_fresh {H : Hp} {a L D1 D2 D3 : Addr} {o1 o2 o3 o4 o5 p0 p1 p2 p3 : HO} (nL : upd H a o1 L = none) (n1 : upd (upd (upd H a o1) L p0) a o2 D1 = none) (n2 : upd (upd (upd (upd (upd H a o1) L p0) a o2) D1 p1) a o3 D2 = none)
    (n3 : upd (upd (upd (upd (upd (upd (upd H a o1) L p0) a o2) D1 p1) a o3) D2 p2) a o4 D3 = none) :
    ∀ F, upd (upd (upd (upd (upd (upd (upd (upd (upd H a o1) L p0) a o2) D1 p1) a o3) D2 p2) a o4) D3 p3) a o5 = F → F a = some o5 ∧ F L = some p0 ∧ F D1 = some p1 ∧ F D2 = some p2 ∧ F D3 = some p3 ∧ SameBut a H F ∧ (H L = none ∧ H D1 = none ∧ H D2 = none ∧ H D3 = none) ∧ (D1 ≠ D2 ∧ D1 ≠ D3 ∧ D2 ≠ D3) := by
  rintro F rfl
  obtain ⟨l1, la⟩ := up_none nL
  obtain ⟨x1, a1⟩ := up_none n1
  obtain ⟨x1, b1⟩ := up_none x1
  obtain ⟨x1, _⟩ := up_none x1
  obtain ⟨x2, a2⟩ := up_none n2
  obtain ⟨x2, c2⟩ := up_none x2
  obtain ⟨x2, _⟩ := up_none x2
  obtain ⟨x2, b2⟩ := up_none x2
  obtain ⟨x2, _⟩ := up_none x2
  obtain ⟨x3, a3⟩ := up_none n3
  obtain ⟨x3, d3⟩ := up_none x3
  obtain ⟨x3, _⟩ := up_none x3
  obtain ⟨x3, c3⟩ := up_none x3
  obtain ⟨x3, _⟩ := up_none x3
  obtain ⟨x3, b3⟩ := up_none x3
  obtain ⟨x3, _⟩ := up_none x3
  refine ⟨upd_same, ?_, ?_, ?_, ?_, ?_, ⟨l1, x1, x2, x3⟩, ⟨Ne.symm c2, Ne.symm c3, Ne.symm d3⟩⟩
  · rw [upd_ne la, upd_ne (Ne.symm b3), upd_ne la, upd_ne (Ne.symm b2), upd_ne la, upd_ne (Ne.symm b1), upd_ne la]
    exact upd_same
  · rw [upd_ne a1, upd_ne (Ne.symm c3), upd_ne a1, upd_ne (Ne.symm c2), upd_ne a1]
    exact upd_same
  · rw [upd_ne a2, upd_ne (Ne.symm d3), upd_ne a2]
    exact upd_same
  · rw [upd_ne a3]
    exact upd_same
  · intro z o nz hz
    rw [upd_ne nz, upd_ne (ne_of_none hz x3), upd_ne nz, upd_ne (ne_of_none hz x2), upd_ne nz, upd_ne (ne_of_none hz x1), upd_ne nz, upd_ne (ne_of_none hz l1), upd_ne nz]
    exact hz
theorem k_meth {R : Addr → Sp → Prop} {m : Str} {E : XK} {ta : TE} {t : TA} {σ : L2.St} {H : Hp} {Q : VK} (h : ta σ H fun x H1 => ∃ a C dx fs sp, x = V.ref a ∧ H1 a = some (.ins C dx fs) ∧ R C sp ∧ fs.lookup m = none ∧ t σ H1 fun vs H2 => sp (x :: vs) H2 Q E) : tMethP R m E ta t σ H Q := h
def GoesB (T : Tx K mg) (a : Addr) (H : Hp) (E : XK) (e : Ev) : Prop := ∀ (H' : Hp) (d : Addr), SameBut a H H' → H' d = some (.xd e.fs) → E (.ref (e.C T)) (some d) H'
theorem GoesB.at {T : Tx K mg} {a : Addr} {H H1 : Hp} {E : XK} {e : Ev} (h : GoesB T a H E e) (q : SameBut a H H1) : Goes T H1 E e := fun H2 d s hd => h H2 d (fun z o nz hz => s _ _ (q z o nz hz)) hd
def spTreeB (T : Tx K mg) : Sp := fun vs H Q E => ∃ (a dx tp : Addr) (rv : V) (isR : Bool) (xs : List V) (os : List (Option PlRow)), vs = [.ref a, rv, .ref tp] ∧ H a = some (.ins T.C_Tree dx []) ∧ H tp = some (.tup xs) ∧ IsI K T.C_Rule H rv isR ∧ xs.length = os.length ∧ xs.length ≤ 25 ∧
  (∀ (i : Nat) x o, xs[i]? = some x → os[i]? = some o → ItemAt T H x o) ∧ (∀ e, treeBad rv isR os = some e → GoesB T a H E e) ∧ (treeBad rv isR os = none → ∀ H', SameBut a H H' → TreeAt T H' a xs → Q .non H')
theorem ok_Tree_init (T : Tx K mg) : FnR P w K mg base (L2.CX P w) 4 T.a_Tree_init (fun vs H Q E => ∃ ws rest, vs = ws ++ rest ∧ ws.length = [("self" : Str), ("rule" : Str)].length ∧ rest.length ≤ sizeLine ∧ ∀ p, H p = none → spTreeB T (ws ++ [V.ref p]) (upd H p (.tup rest)) Q E) := by
  obtain ⟨oc, od, kV, doc, pm, an, cdv, ct, osl, efd, lk, hcd⟩ := T.F_Tree_init.ex
  have hbs := T.bst_Tree_init
  rw [efd] at lk hbs
  refine StX.fn_star lk hcd sc_Tree_init StX.cxUp hbs fun A outer s H vs Q E hr h => ?_
  obtain ⟨a, dx, tp, rv, isR, xs, os, rfl, ha, htp, hR, hlen, h25, hit, kb, k⟩ := h
  have nd := sc_Tree_init.nd
  refine ⟨_, (pss_cons (ps_if (pt_not (pt_val (kcB b_isinstance (by decide) (by decide) (kc_isi K) g_Tree_init_isinstance T.n_isinstance (pa_cons (kv (i := 1) v_Tree_init_rule) (pa_cons (kcls g_Tree_init_Rule T.m_Rule) pa_nil))))) (pss_one (ps_raise rfl (takes_of rfl rfl rfl rfl) (pmk_oex T.oex_InvalidRule T.ii_InvalidRule T.ti_InvalidRule (ok_InvalidRule_init T) (hr.mono (by first | decide | omega)) T.b_InvalidRule_init .nil pass0 g_Tree_init_InvalidRule T.m_InvalidRule (pa_cons (kv (i := 1) v_Tree_init_rule) pa_nil)))) pss_nil)
      (pss_cons (ps_for (passes_of rfl) rfl (pi_enumT K g_Tree_init_enumerate T.n_enumerate (pa_cons (kv (i := 2) v_Tree_init_places) pa_nil)) (kpg_tup K 2 rfl (pgs_cons (kgL (i := 3) nd l_Tree_init_at) (pgs_cons (kgL (i := 4) nd l_Tree_init_place) pgs_nil))) (pss_one (ps_if (pt_not (pt_val (kcB b_isinstance (by decide) (by decide) (kc_isi K) g_Tree_init_isinstance T.n_isinstance (pa_cons (kv (i := 4) v_Tree_init_place) (pa_cons (kcls g_Tree_init_Place T.m_Place) pa_nil))))) (pss_one (ps_raise rfl (takes_of rfl rfl rfl rfl) (pmk_oex T.oex_InvalidPlace T.ii_InvalidPlace T.ti_InvalidPlace (ok_InvalidPlace_init T) (hr.mono (by first | decide | omega)) T.b_InvalidPlace_init .nil pass0 g_Tree_init_InvalidPlace T.m_InvalidPlace (pa_cons (kv (i := 3) v_Tree_init_at) pa_nil)))) pss_nil)))
      (pss_cons (ps_if (pt_cmpR op_eq (kcB b_len (by decide) (by decide) (kc_len K) g_Tree_init_len T.n_len (pa_cons (kv (i := 2) v_Tree_init_places) pa_nil)) pe_int (nomark _)) (pss_one (ps_raise rfl (takes_of rfl rfl rfl rfl) (pmk_oex T.oex_BadTree T.ii_BadTree T.ti_BadTree (ok_BadTree_init T) (hr.mono (by first | decide | omega)) T.b_BadTree_init .nil pass0 g_Tree_init_BadTree T.m_BadTree (pa_cons pe_non pa_nil)))) pss_nil)
      (pss_cons (ps_if (pt_cmpR op_gt (kcB b_len (by decide) (by decide) (kc_len K) g_Tree_init_len T.n_len (pa_cons (kv (i := 2) v_Tree_init_places) pa_nil)) (pe_glob g_Tree_init_PLACES T.m_PLACES T.r_PLACES) (nomark _)) (pss_one (ps_raise rfl (takes_of rfl rfl rfl rfl) (pmk_oex T.oex_TooMany T.ii_TooMany T.ti_TooMany (ok_TooMany_init T) (hr.mono (by first | decide | omega)) T.b_TooMany_init .nil pass0 g_Tree_init_TooMany T.m_TooMany (pa_cons pe_str (pa_cons (kcB b_len (by decide) (by decide) (kc_len K) g_Tree_init_len T.n_len (pa_cons (kv (i := 2) v_Tree_init_places) pa_nil)) pa_nil))))) pss_nil)
      (pss_cons (kps_fld K (kv (i := 0) v_Tree_init_self) (kv (i := 1) v_Tree_init_rule))
      (pss_cons (kps_fld K (kv (i := 0) v_Tree_init_self) (kcT b_list (by decide) (by decide) (kc_list K) g_Tree_init_list T.n_list (pa_cons (kv (i := 2) v_Tree_init_places) pa_nil)))
      (pss_cons (kps_fld K (kv (i := 0) v_Tree_init_self) pe_dnewK)
      (pss_cons (kps_fld K (kv (i := 0) v_Tree_init_self) pe_dnewK)
      (pss_cons (kps_fld K (kv (i := 0) v_Tree_init_self) pe_dnewK)
      (pss_one (ps_for (passes_of rfl) rfl (kpi_tup K (kv (i := 2) v_Tree_init_places)) (kgL (i := 4) nd l_Tree_init_place) (pss_cons (ps_if (pt_not (pt_val (kpe_methP (disp1 T.cl_Tree T.me_Tree_fits (ok_Tree_fits T) T.b_Tree_fits) (hr.mono (by first | decide | omega)) pass0 (kv (i := 0) v_Tree_init_self) (pa_cons (kv (i := 4) v_Tree_init_place) pa_nil)))) (pss_one (ps_raise rfl (takes_of rfl rfl rfl rfl) (pmk_oex T.oex_BadTree T.ii_BadTree T.ti_BadTree (ok_BadTree_init T) (hr.mono (by first | decide | omega)) T.b_BadTree_init .nil pass0 g_Tree_init_BadTree T.m_BadTree (pa_cons (kpe_fld K (kv (i := 4) v_Tree_init_place)) pa_nil)))) pss_nil)
      (pss_cons (ps_asg (kv (i := 4) v_Tree_init_place) (pg_sub (kpe_fld K (kv (i := 0) v_Tree_init_self)) (kpe_fld K (kv (i := 4) v_Tree_init_place)) (set_dict (hu_of hr))))
      (pss_cons (ps_asg (pe_lst pa_nil) (pg_sub (kpe_fld K (kv (i := 0) v_Tree_init_self)) (kpe_fld K (kv (i := 4) v_Tree_init_place)) (set_dict (hu_of hr))))
      (pss_cons (ps_if (pt_cmpR op_notN (kpe_fld K (kv (i := 4) v_Tree_init_place)) pe_non (nomark _)) (pss_one (ps_expr (pe_bm PySem.F.plainAttrs_list PySem.F.slot_list_append PySem.F.type_list_append mt_append (pe_dget (hu_of hr) (kpe_fld K (kv (i := 0) v_Tree_init_self)) (kpe_fld K (kv (i := 4) v_Tree_init_place)) (fun _ _ => rfl)) (pa_cons (kpe_fld K (kv (i := 4) v_Tree_init_place)) pa_nil)))) pss_nil)
      (pss_one (ps_if (pt_cmp (pc_dnotin (hu_of hr) (kpe_fld K (kv (i := 4) v_Tree_init_place)) (kpe_fld K (kv (i := 0) v_Tree_init_self)))) (pss_one (ps_asg (kpe_fld K (kv (i := 4) v_Tree_init_place)) (pg_sub (kpe_fld K (kv (i := 0) v_Tree_init_self)) (kpe_fld K (kv (i := 4) v_Tree_init_place)) (set_dict (hu_of hr))))) pss_nil))))))))))))))))), ?_⟩
  walk_at "ss"
  refine k_isI hR ?_
  cases isR with
  | false =>
    walk_at "ss"
    show tMkO _ _ _ _ _ _ _
    refine k_mkO ?_
    walk_at "ss"
    exact raise_InvalidRule T ((kb _ rfl).at (SameBut.refl _ _))
  | true =>
    walk_at "ss"
    refine k_iEnumT ?_
    walk_at "ss"
    refine ⟨tp, xs, rfl, SqT.of htp, ?_⟩
    refine k_forIt (walk_enumT (xs := xs)) (fun i σ H' => Same H H' ∧ (∃ u3 u4, σ = [some (.ref a), some rv, some (.ref tp), u3, u4]) ∧ noPlace os 0 = noPlace (os.drop i) i) ⟨Same.refl _, ⟨_, _, rfl⟩, rfl⟩ ?_ ?_ ?_
    · rintro i σ H' _ ⟨sm, _, _⟩
      exact SqT.of (sm _ _ htp)
    · rintro i x σ H' H'' hi ⟨sm, ⟨u3, u4, rfl⟩, hn⟩ ⟨tq, y1, y2, rfl, nt, rfl, ey1, ey2⟩
      obtain rfl : V.int (i : Nat) = y1 := Option.some.inj ey1
      have ey2 : xs[i]? = some y2 := ey2
      have hio : i < os.length := by rw [← hlen]; exact hi
      have hI := (hit i y2 os[i] ey2 (List.getElem?_eq_getElem hio)).up (sm.trans (same_new (o := .tup [V.int (i : Nat), y2]) nt))
      have hdr : os.drop i = os[i] :: os.drop (i + 1) := List.drop_eq_getElem_cons hio
      have his := hI.is
      rw [hdr] at hn
      cases ho : os[i] with
      | none =>
        rw [ho] at his
        have his : IsI K T.C_Place _ y2 false := his
        walk_at "ss"
        refine k_isI his ?_
        walk_at "ss"
        show tMkO _ _ _ _ _ _ _
        refine k_mkO ?_
        walk_at "ss"
        refine raise_InvalidPlace T (GoesB.at (kb (.place (.int (i : Nat))) ?_) (SameBut.of (sm.trans (same_new nt))))
        unfold treeBad
        rw [if_neg (by decide), hn, ho]
        rfl
      | some r =>
        rw [ho] at hn his
        have his : IsI K T.C_Place _ y2 true := his
        walk_at "ss"
        refine k_isI his ?_
        walk_at "ss"
        exact ⟨sm.trans (same_new nt), ⟨_, _, rfl⟩, hn⟩
    · rintro σ H' ⟨sm, ⟨u3, u4, rfl⟩, hn⟩
      have hnone : noPlace os 0 = none := by
        rw [hn, hlen, List.drop_length]
        rfl
      have htp2 := sm _ _ htp
      have eb : treeBad rv true os = if os = [] then some (.bad .non) else if 24 < os.length then some (.many "places" (os.length : Nat)) else match misfit [] (rowsOf os) with
          | some r => some (.bad (.str r.nm))
          | none => none := by
        unfold treeBad
        rw [if_neg (by decide), hnone]
      walk_at "ss"
      refine k_d (fun h0 => ?_) (fun h0 => ?_)
      · have hos : os = [] := List.length_eq_zero_iff.mp (by omega)
        walk_at "ss"
        show tMkO _ _ _ _ _ _ _
        refine k_mkO ?_
        walk_at "ss"
        exact raise_BadTree T (GoesB.at (kb (.bad .non) (by rw [eb, if_pos hos])) (SameBut.of sm))
      · have hos : os ≠ [] := fun z => h0 (by rw [hlen, z]; rfl)
        walk_at "ss"
        refine k_d (fun h24 => ?_) (fun h24 => ?_)
        · walk_at "ss"
          show tMkO _ _ _ _ _ _ _
          refine k_mkO ?_
          walk_at "ss"
          refine raise_TooMany T (GoesB.at (kb (.many "places" (xs.length : Nat)) ?_) (SameBut.of sm))
          rw [eb, if_neg hos, if_pos (by omega), hlen]
        · have ha2 := sm _ _ ha
          walk_at "ss"
          refine k_putAt (ns := []) (vs := []) ha2 T.cl_Tree T.no_Tree_rule rfl (by decide +kernel) (by decide) ?_
          have nta : tp ≠ a := ne_of htp2 ha2 (by intro z; cases z)
          walk_at "ss"
          refine k_listLT (.inr ((upd_ne nta).trans htp2)) ?_
          intro L nL
          have naL : a ≠ L := fun z => by rw [← z, upd_same] at nL; cases nL
          walk_at "ss"
          refine k_putAt ((upd_ne naL).trans upd_same) T.cl_Tree T.no_Tree_places rfl (by decide +kernel) (by decide) ?_
          walk_at "ss"
          refine k_dnew ?_
          intro D1 nD1
          have naD1 : a ≠ D1 := fun z => by rw [← z, upd_same] at nD1; cases nD1
          walk_at "ss"
          refine k_putAt ((upd_ne naD1).trans upd_same) T.cl_Tree T.no_Tree_by_name rfl (by decide +kernel) (by decide) ?_
          walk_at "ss"
          refine k_dnew ?_
          intro D2 nD2
          have naD2 : a ≠ D2 := fun z => by rw [← z, upd_same] at nD2; cases nD2
          walk_at "ss"
          refine k_putAt ((upd_ne naD2).trans upd_same) T.cl_Tree T.no_Tree_children rfl (by decide +kernel) (by decide) ?_
          walk_at "ss"
          refine k_dnew ?_
          intro D3 nD3
          have naD3 : a ≠ D3 := fun z => by rw [← z, upd_same] at nD3; cases nD3
          walk_at "ss"
          refine k_putAt ((upd_ne naD3).trans upd_same) T.cl_Tree T.no_Tree_tops rfl (by decide +kernel) (by decide) ?_
          walk_at "ss"
          obtain ⟨l0, exs, erw, hpl⟩ := all_places os xs 0 hnone hlen hit
          generalize eF : upd _ a (.ins T.C_Tree dx _) = F
          obtain ⟨fa, fL, f1, f2, f3, fsb, fnw, fdf⟩ := tree_fresh nL nD1 nD2 nD3 F eF
          clear eF
          have sbF : SameBut a H F := fun z o nz hz => fsb z o nz (sm _ _ hz)
          have back : ∀ x, H' x = none → H x = none := fun x hx => by
            cases hz : H x with
            | none => rfl
            | some o => rw [sm _ _ hz] at hx; cases hx
          have M0 : TrM T H F a dx L D1 D2 D3 rv xs [] [] [] 0 :=
            ⟨sbF, fa, f1, f2, f3, fL, rfl, (fun z h => by cases h), ⟨back _ fnw.1, back _ fnw.2.1, back _ fnw.2.2.1, back _ fnw.2.2.2⟩, fdf⟩
          have htpF : F tp = some (.tup xs) := sbF _ _ nta htp
          have ebad : treeBad rv true os = match misfit [] (l0.map (·.2)) with
            | some r => some (.bad (.str r.nm))
            | none => none := by rw [eb, if_neg hos, if_neg (by omega), erw]
          have hl0 : xs.length = l0.length := by rw [exs, List.length_map]
          have ha0 : H a ≠ none := by rw [ha]; intro z; cases z
          refine k_iT (SqT.of htpF) ?_
          refine k_forTup xs (fun i σ H' => ∃ (cs : List (Str × Addr)) (kt : List (Key × V)) (u4 : Option V), σ = [some (.ref a), some rv, some (.ref tp), u3, u4] ∧ TrM T H H' a dx L D1 D2 D3 rv xs (l0.take i) cs kt i ∧ kt.length ≤ i ∧
            (∀ s : Str, (valV kt (.inr s)).isSome = decide (s ∈ ((l0.take i).map (·.2)).map (·.sv))) ∧ misfit [] (l0.map (·.2)) = misfit ((l0.take i).map (·.2)) ((l0.drop i).map (·.2)))
            ⟨[], [], _, rfl, M0, Nat.le_refl _, fun s => by simp [valV], rfl⟩ ?_ ?_ ?_
          · rintro i σ H' _ ⟨cs, kt, u4, rfl, M, _⟩
            exact SqT.of (M.sb _ _ nta htp)
          · rintro i x σ H1 hx ⟨cs, kt, u4, rfl, M, hkt, hts, hmf⟩
            rw [exs, List.getElem?_map] at hx
            obtain ⟨z, hz, rfl⟩ := Option.map_eq_some_iff.mp hx
            have hi : i < l0.length := (List.getElem?_eq_some_iff.mp hz).1
            have hzm := List.mem_of_getElem? hz
            have htk : l0.take (i + 1) = l0.take i ++ [z] := by rw [List.take_add_one, hz]; rfl
            have hdr : l0.drop i = z :: l0.drop (i + 1) := by rw [List.drop_eq_getElem_cons hi, (List.getElem?_eq_some_iff.mp hz).2]
            have plF : ∀ {H2 : Hp}, SameBut a H H2 → ∀ y ∈ l0, PlaceAt T H2 y.1 y.2 := fun sb y hy => by
              obtain ⟨dy, h⟩ := hpl y hy
              exact ⟨dy, sb _ _ (fun q => by rw [q, ha] at h; injection h with h; injection h with h1 h2 h3; cases h3) h⟩
            have hR : TreeR T H1 a (l0.take i) dx L D1 D2 D3 rv kt := ⟨M.at_, M.h1, M.h3, hts, fun y hy => plF M.sb y (List.mem_of_mem_take hy)⟩
            walk_at "ss"
            refine k_meth ?_
            walk_at "ss"
            refine ⟨a, _, _, _, _, rfl, M.at_, ⟨rfl, rfl⟩, fl_no (by decide +kernel), ?_⟩
            walk_at "ss"
            refine ⟨a, z.1, z.2, l0.take i, dx, L, D1, D2, D3, rv, kt, rfl, hR, plF M.sb z hzm, ?_⟩
            refine ⟨_, rfl, ?_⟩
            obtain ⟨dz, hZ⟩ := plF M.sb z hzm
            rw [hdr] at hmf
            cases hf : fitR ((l0.take i).map (·.2)) z.2 with
            | false =>
              walk_at "ss"
              show tMkO _ _ _ _ _ _ _
              refine k_mkO ?_
              walk_at "ss"
              refine k_fldAt hZ T.cl_Place T.no_Place_name (i := 0) (by decide +kernel) rfl ?_
              walk_at "ss"
              refine raise_BadTree T (GoesB.at (kb (.bad (.str z.2.nm)) ?_) M.sb)
              rw [ebad, hmf]
              show (match (if fitR _ z.2 = true then _ else some z.2) with | some r => some (Ev.bad (.str r.nm)) | none => none) = _
              rw [hf]
              rfl
            | true =>
              obtain ⟨hnew, hel⟩ := fit_new hf
              have hlt : (l0.take i).length ≤ 24 := by rw [List.length_take]; omega
              walk_at "ss"
              refine k_fldAt M.at_ T.cl_Tree T.no_Tree_by_name (i := 2) (by decide +kernel) rfl ?_
              walk_at "ss"
              refine k_fldAt hZ T.cl_Place T.no_Place_name (i := 0) (by decide +kernel) rfl ?_
              refine k_setD (DPut.k (k := Sum.inr z.2.nm) M.h1 (small_lt (by unfold kvB; rw [List.length_map]; omega))) ?_
              rw [put_kvB hnew]
              walk_at "ss"
              intro c nc
              have M1 := M.add ha0 nc
              have kc : ∀ {x : Addr} {o : HO}, H1 x = some o → x ≠ D1 → upd (upd H1 D1 (.dK (kvB (l0.take i ++ [z])))) c (.lst []) x = some o := fun h n => by
                rw [upd_ne (ne_of_none h (up_none nc).1), upd_ne n]
                exact h
              walk_at "ss"
              refine k_fldAt (kc M.at_ (ne_of M.at_ M.h1 (by intro z; cases z))) T.cl_Tree T.no_Tree_children (i := 3) (by decide +kernel) rfl ?_
              walk_at "ss"
              refine k_fldAt (kc hZ (ne_of hZ M.h1 (by intro z; cases z))) T.cl_Place T.no_Place_name (i := 0) (by decide +kernel) rfl ?_
              have hcl : cs.length = (l0.take i).length := by
                have := congrArg List.length M.ck
                simpa using this
              refine k_setD (DPut.k (k := Sum.inr z.2.nm) (kc M.h2 (Ne.symm M.df.1)) (small_lt (by unfold kA; rw [List.length_map]; omega))) ?_
              rw [put_kA (by rw [M.ck]; exact hnew)]
              clear kc
              generalize eH2 : upd (upd _ c _) D2 _ = H2 at M1 ⊢
              clear eH2
              rw [← htk] at M1
              have hcl2 : (cs ++ [(z.2.nm, c)]).length = i + 1 := by
                rw [List.length_append, hcl, List.length_take]
                show _ + 1 = _
                omega
              obtain ⟨dz2, hZ2⟩ := plF M1.sb z hzm
              have top : ∀ H3 k3, TrM T H H3 a dx L D1 D2 D3 rv xs (l0.take (i + 1)) (cs ++ [(z.2.nm, c)]) kt k3 → k3 ≤ i + 1 → ∀ D, D.nx = (fun σ H' => ∃ (cs : List (Str × Addr)) (kt : List (Key × V)) (u4 : Option V), σ = [some (V.ref a), some rv, some (V.ref tp), u3, u4] ∧ TrM T H H' a dx L D1 D2 D3 rv xs (l0.take (i + 1)) cs kt (i + 1) ∧ kt.length ≤ i + 1 ∧
            (∀ s : Str, (valV kt (.inr s)).isSome = decide (s ∈ ((l0.take (i + 1)).map (·.2)).map (·.sv))) ∧ misfit [] (l0.map (·.2)) = misfit ((l0.take (i + 1)).map (·.2)) ((l0.drop (i + 1)).map (·.2))) →
                tIfS (tB (tDNotIn (tFld K (tVar 4) "server") (tFld K (tVar 0) "_tops"))) (tAsg (tFld K (tVar 4) "name") (gSub (tFld K (tVar 0) "_tops") (tFld K (tVar 4) "server") rSetD)) tNext D [some (V.ref a), some rv, some (V.ref tp), u3, some (.ref z.1)] H3 := by
                intro H3 k3 M3 hk3 D hD
                obtain ⟨dz3, hZ3⟩ := plF M3.sb z hzm
                have hmf2 : misfit [] (l0.map (·.2)) = misfit ((l0.take (i + 1)).map (·.2)) ((l0.drop (i + 1)).map (·.2)) := by
                  rw [hmf, htk, List.map_append]
                  show (if fitR _ z.2 = true then _ else some z.2) = _
                  rw [hf, if_pos rfl]
                  rfl
                walk_at "ss"
                refine k_dnotin ?_
                walk_at "ss"
                refine k_fldAt hZ3 T.cl_Place T.no_Place_server (i := 1) (by decide +kernel) rfl ?_
                walk_at "ss"
                refine k_fldAt M3.at_ T.cl_Tree T.no_Tree_tops (i := 4) (by decide +kernel) rfl ?_
                refine k_ninK M3.h3 ?_
                rw [hts]
                refine ⟨_, rfl, ?_⟩
                refine k_n (fun hin => ?_) (fun hout => ?_)
                · show D.nx _ _
                  rw [hD]
                  refine ⟨_, kt, _, rfl, M3.le hk3, by omega, fun s => ?_, hmf2⟩
                  rw [hts, htk, List.map_append, List.map_append]
                  refine decide_eq_decide.mpr ⟨fun h => List.mem_append_left _ h, fun h => (List.mem_append.mp h).elim id fun h => ?_⟩
                  obtain rfl := List.mem_singleton.mp h
                  exact hin
                · walk_at "ss"
                  refine k_fldAt hZ3 T.cl_Place T.no_Place_name (i := 0) (by decide +kernel) rfl ?_
                  walk_at "ss"
                  refine k_fldAt M3.at_ T.cl_Tree T.no_Tree_tops (i := 4) (by decide +kernel) rfl ?_
                  walk_at "ss"
                  refine k_fldAt hZ3 T.cl_Place T.no_Place_server (i := 1) (by decide +kernel) rfl ?_
                  refine k_setD (DPut.k (k := Sum.inr z.2.sv) M3.h3 (small_lt (by omega))) ?_
                  rw [hD]
                  refine ⟨_, _, _, rfl, M3.top.le hk3, Nat.le_trans (length_putK _ _ _) (by omega), fun s => ?_, hmf2⟩
                  rw [valV_put, htk, List.map_append, List.map_append]
                  by_cases e : s = z.2.sv
                  · subst e
                    rw [if_pos rfl]
                    exact (decide_eq_true (List.mem_append_right _ (List.mem_singleton.mpr rfl))).symm
                  · rw [if_neg (fun q => e (Sum.inr.inj q)), hts]
                    refine decide_eq_decide.mpr ⟨fun h => List.mem_append_left _ h, fun h => (List.mem_append.mp h).elim id fun h => (e (List.mem_singleton.mp h)).elim⟩
              walk_at "ss"
              refine k_fldAt hZ2 T.cl_Place T.no_Place_elder (i := 2) (by decide +kernel) rfl ?_
              refine ⟨rfl, ?_⟩
              refine ⟨_, rfl, ?_⟩
              refine k_n (fun h3 => ?_) (fun h3 => ?_)
              · exact top H2 i M1 (by omega) _ rfl
              · cases hee : z.2.el with
                | none => exact absurd (by rw [hee]; rfl) h3
                | some e =>
                  rw [hee] at hZ2
                  have hZ2 : H2 z.1 = some (.ins T.C_Place dz2 (FL nP [.str z.2.nm, .str z.2.sv, .str e, .bl z.2.me, vO z.2.cu])) := hZ2
                  have hem : e ∈ (cs ++ [(z.2.nm, c)]).map (·.1) := by
                    rw [List.map_append, M.ck]
                    exact List.mem_append_left _ (hel e hee)
                  obtain ⟨y, hy, ye, hval⟩ := val_kA hem
                  obtain ⟨_, _, ys, hys, hyn⟩ := M1.ch y hy
                  have gd := DGet.k (k := Sum.inr e) M1.h2
                  rw [hval] at gd
                  walk_at "ss"
                  refine k_bm ?_
                  walk_at "ss"
                  refine k_dget ?_
                  walk_at "ss"
                  refine k_fldAt M1.at_ T.cl_Tree T.no_Tree_children (i := 3) (by decide +kernel) rfl ?_
                  walk_at "ss"
                  refine k_fldAt hZ2 T.cl_Place T.no_Place_elder (i := 2) (by decide +kernel) rfl ?_
                  refine ⟨D2, _, rfl, gd, ?_⟩
                  refine ⟨.inl ⟨rfl, _, SqL.of hys⟩, ?_⟩
                  walk_at "ss"
                  refine k_fldAt hZ2 T.cl_Place T.no_Place_name (i := 0) (by decide +kernel) rfl ?_
                  walk_at "ss"
                  refine k_app hys (by omega) ?_
                  exact top _ (i + 1) (M1.kid hy hys hyn) (by omega) _ rfl
          · rintro σ H1 ⟨cs, kt, u4, rfl, M, _, _, hmf⟩
            walk_at "ss"
            refine k ?_ _ M.sb ⟨dx, L, D1, D2, D3, rv, M.at_, M.hL⟩
            rw [ebad, hmf, hl0, List.take_length, List.drop_length]
            rfl
end


section
variable {w : World} {K : PySem.W.Frag} {mg : Str → Option Value} {base : Heap}
/-! ### windows, rules, places told -/
theorem vals_rev {vs : List V} {us : List Value} (r : Vals vs us) : Vals vs.reverse us.reverse := by
  induction r with
  | nil => exact .nil
  | cons h r ih => rw [List.reverse_cons, List.reverse_cons]; exact ih.append (.cons h .nil)
def winTx (w : Int) : Str := Str.empty ++ ("window " : Str) ++ Str.ofString (toString w)
abbrev nWin : List Str := ["_text", "_forms", "_period", "_bend", "width"]
def WinAt (T : Tx K mg) (H : Hp) (a : Addr) (n : Int) : Prop := ∃ dx : Addr, H a = some (.ins T.C_Window dx (FL nWin [.str (winTx n), .int 1, .int 1, .int 0, .int n]))
theorem WinAt.up {T : Tx K mg} {H H' : Hp} {a : Addr} {n : Int} (h : WinAt T H a n) (e : Same H H') : WinAt T H' a n := by
  obtain ⟨dx, h⟩ := h
  exact ⟨dx, e _ _ h⟩
def spRestInit (T : Tx K mg) : Sp := fun vs H Q _ => ∃ (a dx : Addr) (tx : Str), vs = [.ref a, .str tx, .int 1, .int 1, .int 0] ∧ H a = some (.ins T.C_Window dx []) ∧ Q .non (upd H a (.ins T.C_Window dx (FL ["_text", "_forms", "_period", "_bend"] [.str tx, .int 1, .int 1, .int 0])))
theorem ok_Rest_init (T : Tx K mg) : FnOk P w K mg base CX0 1 T.a_Rest_init T.fd_Rest_init P_Rest_init (spRestInit T) := by
  refine T.F_Rest_init.ok sc_Rest_init (fun vs H Q E h => ?_) (fun cdv A outer s H vs Q E hr h => ?_)
  · obtain ⟨a, dx, tx, rfl, _⟩ := h
    rfl
  · obtain ⟨a, dx, tx, rfl, ha, k⟩ := h
    have nd := sc_Rest_init.nd
    refine ⟨_, (pss_cons (kps_fld K (kv (i := 0) v_Rest_init_self) (kv (i := 1) v_Rest_init_text))
      (pss_cons (kps_fld K (kv (i := 0) v_Rest_init_self) (kv (i := 2) v_Rest_init_forms))
      (pss_cons (kps_fld K (kv (i := 0) v_Rest_init_self) (kv (i := 3) v_Rest_init_period))
      (pss_one (kps_fld K (kv (i := 0) v_Rest_init_self) (kv (i := 4) v_Rest_init_bend)))))), ?_⟩
    walk_at "ss"
    refine k_putAt (ns := []) (vs := []) ha T.cl_Window T.no_Window_text rfl (by decide +kernel) (by decide) ?_
    walk_at "ss"
    refine k_putTop T.cl_Window T.no_Window_forms rfl (by decide +kernel) (by decide) ?_
    walk_at "ss"
    refine k_putTop T.cl_Window T.no_Window_period rfl (by decide +kernel) (by decide) ?_
    walk_at "ss"
    refine k_putTop T.cl_Window T.no_Window_bend rfl (by decide +kernel) (by decide) ?_
    exact k
def spWinInit (T : Tx K mg) : Sp := fun vs H Q _ => ∃ (a dx : Addr) (n : Int), vs = [.ref a, .int n] ∧ 1 ≤ n ∧ n ≤ 1000 ∧ H a = some (.ins T.C_Window dx []) ∧ ∀ H', SameBut a H H' → WinAt T H' a n → Q .non H'
theorem ok_Window_init (T : Tx K mg) : FnOk P w K mg base CX0 2 T.a_Window_init T.fd_Window_init P_Window_init (spWinInit T) := by
  obtain ⟨cl, cld, csl, hce⟩ := T.ce_Window_init
  refine T.F_Window_init.ok sc_Window_init hce T.b_Window_init (fun vs H Q E h => ?_) (fun A outer s H vs Q E hr h => ?_)
  · obtain ⟨a, dx, n, rfl, _⟩ := h
    rfl
  · obtain ⟨a, dx, n, rfl, h0, h1, ha, k⟩ := h
    have nd := sc_Window_init.nd
    refine ⟨_, (psa_cons (pst_of (ps_if (pt_not (pt_val (pe_call (ok_is_number0 T) (hr.mono (by first | decide | omega)) g_Window_init_is_number T.m_is_number T.k_is_number T.b_is_number .nil pass0 (pa_cons (kv (i := 1) v_Window_init_width) (pa_cons pe_int (pa_cons pe_int pa_nil)))))) (pss_one ps_never) pss_nil))
      (psa_cons (kpst_super K T.sd_Window_init rfl rfl g_Window_init_super fr_Window_init cc_look rfl (locB_ok l_Window_init_self) (by decide) (ok_Rest_init T) (hr.mono (by decide)) T.b_Rest_init .nil pass0 (pa_cons (pe_joined (.cons pe_str (.cons (pe_fmt (kv (i := 1) v_Window_init_width)) .nil))) (pa_cons pe_int (pa_cons pe_int (pa_cons pe_int pa_nil)))))
      (psa_one (pst_of (kps_fld K (kv (i := 0) v_Window_init_self) (kv (i := 1) v_Window_init_width)))))), ?_⟩
    walk_at "ss"
    refine ⟨n, 1, 1000, rfl, h0, h1, ?_⟩
    walk_at "ss"
    refine k_sup rfl ha T.su_Window fun q H1 nq e1 s1 hq => ?_
    walk_at "ss"
    have l1 : ("window " : Str).length = 7 := by decide +kernel
    have l2 : (Str.ofString (toString n)).length ≤ 5 := len_text (k := 4) (by decide) (by omega)
    refine k_jsV (by simp only [PySem.Str.length_append, len_empty, l1]; omega) ?_
    walk_at "ss"
    refine k_fmtI (by omega) ?_
    refine k_jsV (by simp only [PySem.Str.length_append, len_empty, l1]; omega) ?_
    walk_at "ss"
    refine ⟨hq, ?_⟩
    refine ⟨a, dx, _, rfl, s1 _ _ ha, ?_⟩
    walk_at "ss"
    refine k_putTop T.cl_Window T.no_Window_width rfl (by decide +kernel) (by decide) ?_
    exact k _ ((SameBut.of s1).put) ⟨dx, upd_same⟩
def spRestEq (T : Tx K mg) : Sp := fun vs H Q _ => ∃ (a : Addr) (n : Int), vs = [.ref a, .ref a] ∧ WinAt T H a n ∧ Q (.bl true) H
theorem ok_Rest_eq (T : Tx K mg) : FnOk P w K mg base CX0 1 T.a_Rest_eq T.fd_Rest_eq P_Rest_eq (spRestEq T) := by
  refine T.F_Rest_eq.ok sc_Rest_eq (fun vs H Q E h => ?_) (fun cdv A outer s H vs Q E hr h => ?_)
  · obtain ⟨a, n, rfl, _⟩ := h
    rfl
  · obtain ⟨a, n, rfl, ⟨dx, he⟩, k⟩ := h
    refine ⟨_, (pss_one (ps_ret (pe_and (kcB b_isinstance (by decide) (by decide) (kc_isi K) g_Rest_eq_isinstance T.n_isinstance (pa_cons (kv (i := 1) v_Rest_eq_other) (pa_cons (kcls g_Rest_eq_Rest T.m_Rest) pa_nil))) (pe_one (pe_cmpR op_eq (kpe_fld K (kv (i := 0) v_Rest_eq_self)) (kpe_fld K (kv (i := 1) v_Rest_eq_other)) (nomark _)))))), ?_⟩
    walk_at "ss"
    refine k_isiO (ty_own T.ty_Window he) T.kt_Window_Rest ?_
    walk_at "ss"
    refine k_fldAt he T.cl_Window T.no_Window_text (i := 0) (by decide +kernel) rfl ?_
    walk_at "ss"
    refine k_fldAt he T.cl_Window T.no_Window_text (i := 0) (by decide +kernel) rfl ?_
    refine k_eq rfl ?_
    rw [decide_eq_true rfl]
    exact k
def spPlaceEq (T : Tx K mg) : Sp := fun vs H Q _ => ∃ (a : Addr) (r : PlRow), vs = [.ref a, .ref a] ∧ PlaceAt T H a r ∧ Q (.bl true) H
theorem vO_eq {o : Option Str} : scal (vO o) (vO o) = true := by cases o <;> rfl
theorem ok_Place_eq (T : Tx K mg) : FnOk P w K mg base CX0 1 T.a_Place_eq T.fd_Place_eq P_Place_eq (spPlaceEq T) := by
  refine T.F_Place_eq.ok sc_Place_eq (fun vs H Q E h => ?_) (fun cdv A outer s H vs Q E hr h => ?_)
  · obtain ⟨a, r, rfl, _⟩ := h
    rfl
  · obtain ⟨a, r, rfl, ⟨dx, hP⟩, k⟩ := h
    have nd := sc_Place_eq.nd
    refine ⟨_, (pss_cons (ps_if (pt_not (pt_val (kcB b_isinstance (by decide) (by decide) (kc_isi K) g_Place_eq_isinstance T.n_isinstance (pa_cons (kv (i := 1) v_Place_eq_other) (pa_cons (kcls g_Place_eq_Place T.m_Place) pa_nil))))) (pss_one (ps_ret pe_bl)) pss_nil)
      (pss_cons (ps_if (PW.pt (pw_or (pt_cmpR op_ne (kpe_fld K (kv (i := 0) v_Place_eq_self)) (kpe_fld K (kv (i := 1) v_Place_eq_other)) (nomark _)) (pw_or (pt_cmpR op_ne (kpe_fld K (kv (i := 0) v_Place_eq_self)) (kpe_fld K (kv (i := 1) v_Place_eq_other)) (nomark _)) (pw_or1 (pt_cmpR op_ne (kpe_fld K (kv (i := 0) v_Place_eq_self)) (kpe_fld K (kv (i := 1) v_Place_eq_other)) (nomark _)))))) (pss_one (ps_ret pe_bl)) pss_nil)
      (pss_one (ps_ret (pe_and (pe_cmpR op_eq (kpe_fld K (kv (i := 0) v_Place_eq_self)) (kpe_fld K (kv (i := 1) v_Place_eq_other)) (nomark _)) (pe_one (pe_cmpR op_eq (kpe_fld K (kv (i := 0) v_Place_eq_self)) (kpe_fld K (kv (i := 1) v_Place_eq_other)) (nomark _)))))))), ?_⟩
    walk_at "ss"
    refine k_isiO (ty_own T.ty_Place hP) T.kt_Place_Place ?_
    walk_at "ss"
    refine k_fldAt hP T.cl_Place T.no_Place_name (i := 0) (by decide +kernel) rfl ?_
    walk_at "ss"
    refine k_fldAt hP T.cl_Place T.no_Place_name (i := 0) (by decide +kernel) rfl ?_
    refine k_ne (by first | rfl | exact vO_eq) ?_
    refine ⟨_, rfl, ?_⟩
    refine k_nt rfl ?_
    walk_at "ss"
    refine k_fldAt hP T.cl_Place T.no_Place_server (i := 1) (by decide +kernel) rfl ?_
    walk_at "ss"
    refine k_fldAt hP T.cl_Place T.no_Place_server (i := 1) (by decide +kernel) rfl ?_
    refine k_ne (by first | rfl | exact vO_eq) ?_
    refine ⟨_, rfl, ?_⟩
    refine k_nt rfl ?_
    walk_at "ss"
    refine k_fldAt hP T.cl_Place T.no_Place_elder (i := 2) (by decide +kernel) rfl ?_
    walk_at "ss"
    refine k_fldAt hP T.cl_Place T.no_Place_elder (i := 2) (by decide +kernel) rfl ?_
    refine k_ne (by first | rfl | exact vO_eq) ?_
    refine ⟨_, rfl, ?_⟩
    refine k_nt rfl ?_
    walk_at "ss"
    refine k_fldAt hP T.cl_Place T.no_Place_memory (i := 3) (by decide +kernel) rfl ?_
    walk_at "ss"
    refine k_fldAt hP T.cl_Place T.no_Place_memory (i := 3) (by decide +kernel) rfl ?_
    refine k_eq rfl ?_
    refine ⟨_, rfl, ?_⟩
    refine k_dt rfl ?_
    walk_at "ss"
    refine k_fldAt hP T.cl_Place T.no_Place_customer (i := 4) (by decide +kernel) rfl ?_
    walk_at "ss"
    refine k_fldAt hP T.cl_Place T.no_Place_customer (i := 4) (by decide +kernel) rfl ?_
    refine k_eq vO_eq ?_
    rw [decide_eq_true rfl]
    exact k
def spLen (T : Tx K mg) : Sp := fun vs H Q _ => ∃ (t : Addr) (xs : List V), vs = [.ref t] ∧ TreeAt T H t xs ∧ Q (.int (xs.length : Nat)) H
theorem ok_Tree_len (T : Tx K mg) : FnOk P w K mg base CX0 1 T.a_Tree_len T.fd_Tree_len P_Tree_len (spLen T) := by
  refine T.F_Tree_len.ok sc_Tree_len (fun vs H Q E h => ?_) (fun cdv A outer s H vs Q E hr h => ?_)
  · obtain ⟨t, xs, rfl, _⟩ := h
    rfl
  · obtain ⟨t, xs, rfl, ⟨dx, L, D1, D2, D3, rv, hT, hL⟩, k⟩ := h
    refine ⟨_, (pss_one (ps_ret (kcB b_len (by decide) (by decide) (kc_len K) g_Tree_len_len T.n_len (pa_cons (kpe_fld K (kv (i := 0) v_Tree_len_self)) pa_nil)))), ?_⟩
    walk_at "ss"
    refine k_fldAt hT T.cl_Tree T.no_Tree_places (i := 1) (by decide +kernel) rfl ?_
    refine k_lenL (SqL.of hL) ?_
    exact k
def spPlcs (T : Tx K mg) : Sp := fun vs H Q _ => ∃ (t : Addr) (xs : List V), vs = [.ref t] ∧ TreeAt T H t xs ∧ ∀ l, H l = none → Q (.ref l) (upd H l (.lst xs))
theorem ok_Tree_places (T : Tx K mg) : FnOk P w K mg base CX0 1 T.a_Tree_places T.fd_Tree_places P_Tree_places (spPlcs T) := by
  refine T.F_Tree_places.ok sc_Tree_places (fun vs H Q E h => ?_) (fun cdv A outer s H vs Q E hr h => ?_)
  · obtain ⟨t, xs, rfl, _⟩ := h
    rfl
  · obtain ⟨t, xs, rfl, ⟨dx, L, D1, D2, D3, rv, hT, hL⟩, k⟩ := h
    refine ⟨_, (pss_one (ps_ret (kcT b_list (by decide) (by decide) (kc_list K) g_Tree_places_list T.n_list (pa_cons (kpe_fld K (kv (i := 0) v_Tree_places_self)) pa_nil)))), ?_⟩
    walk_at "ss"
    refine k_fldAt hT T.cl_Tree T.no_Tree_places (i := 1) (by decide +kernel) rfl ?_
    walk_at "ss"
    refine k_listLT (.inl hL) ?_
    exact k
def RuleAt (T : Tx K mg) (H : Hp) (a : Addr) : Prop := ∃ (dx : Addr) (v0 v1 v2 : V), H a = some (.ins T.C_Rule dx (FL ["name", "chips", "rest"] [v0, v1, v2]))
theorem RuleAt.up {T : Tx K mg} {H H' : Hp} {a : Addr} (h : RuleAt T H a) (e : Same H H') : RuleAt T H' a := by
  obtain ⟨dx, v0, v1, v2, h⟩ := h
  exact ⟨dx, v0, v1, v2, e _ _ h⟩
def spRuleI (T : Tx K mg) : Sp := fun vs H Q _ => ∃ (a dx r : Addr) (n : Int), vs = [.ref a, .str "r", .int 3, .ref r] ∧ H a = some (.ins T.C_Rule dx []) ∧ WinAt T H r n ∧ ∀ H', SameBut a H H' → RuleAt T H' a → Q .non H'
theorem ok_Rule_init (T : Tx K mg) : FnOk P w K mg base CX0 2 T.a_Rule_init T.fd_Rule_init P_Rule_init (spRuleI T) := by
  refine T.F_Rule_init.ok sc_Rule_init (fun vs H Q E h => ?_) (fun cdv A outer s H vs Q E hr h => ?_)
  · obtain ⟨a, dx, r, n, rfl, _⟩ := h
    rfl
  · obtain ⟨a, dx, r, n, rfl, ha, ⟨dw, hw⟩, k⟩ := h
    have nd := sc_Rule_init.nd
    refine ⟨_, (pss_cons (ps_if (pt_not (pt_val (pe_call (ok_is_name T) (hr.mono (by first | decide | omega)) g_Rule_init_is_name T.m_is_name T.k_is_name T.b_is_name .nil pass0 (pa_cons (kv (i := 1) v_Rule_init_name) pa_nil)))) (pss_one ps_never) pss_nil)
      (pss_cons (ps_if (pt_not (pt_val (pe_call (ok_is_number0 T) (hr.mono (by first | decide | omega)) g_Rule_init_is_number T.m_is_number T.k_is_number T.b_is_number .nil pass0 (pa_cons (kv (i := 2) v_Rule_init_chips) (pa_cons pe_int (pa_cons pe_int pa_nil)))))) (pss_one ps_never) pss_nil)
      (pss_cons (ps_if (pt_not (pt_val (kcB b_isinstance (by decide) (by decide) (kc_isi K) g_Rule_init_isinstance T.n_isinstance (pa_cons (kv (i := 3) v_Rule_init_rest) (pa_cons (kcls g_Rule_init_Rest T.m_Rest) pa_nil))))) (pss_one ps_never) pss_nil)
      (pss_cons (kps_fld K (kv (i := 0) v_Rule_init_self) (kv (i := 1) v_Rule_init_name))
      (pss_cons (kps_fld K (kv (i := 0) v_Rule_init_self) (kv (i := 2) v_Rule_init_chips))
      (pss_one (kps_fld K (kv (i := 0) v_Rule_init_self) (kv (i := 3) v_Rule_init_rest)))))))), ?_⟩
    walk_at "ss"
    refine ⟨.str "r", rfl, .inl (.str _ (by decide +kernel)), ?_⟩
    rw [show nameV (.str "r") = true by decide +kernel]
    walk_at "ss"
    refine ⟨3, 1, 1000, rfl, by decide, by decide, ?_⟩
    walk_at "ss"
    refine k_isiO (ty_own T.ty_Window hw) T.kt_Window_Rest ?_
    walk_at "ss"
    refine k_putAt (ns := []) (vs := []) ha T.cl_Rule T.no_Rule_name rfl (by decide +kernel) (by decide) ?_
    walk_at "ss"
    refine k_putTop T.cl_Rule T.no_Rule_chips rfl (by decide +kernel) (by decide) ?_
    walk_at "ss"
    refine k_putTop T.cl_Rule T.no_Rule_rest rfl (by decide +kernel) (by decide) ?_
    exact k _ ((SameBut.refl _ _).put) ⟨dx, _, _, _, upd_same⟩
/-! ### a place is called -/
theorem bindP2 (T : Tx K mg) : ∃ ds, Vals [V.non, .bl false, .non] ds ∧ Binds K T.fd_Place_init P_Place_init ds :=
  L2.FunD.binds (ps := P_Place_init) T.F_Place_init 3 0 (by simp) rfl (fun T D doc pm an cdv ct us its ks hu hi hk => match us, its, ks, hu, hi, hk with
    | [_, _, _], [_], [_, _], _, _, _ => ⟨_, rfl, _, _, _, _, _, _, rfl, rfl, _, _, _, _, _, _, rfl, rfl, rfl⟩) (by simp)
theorem bindP3 (T : Tx K mg) : ∃ ds, Vals [V.bl false, .non] ds ∧ Binds K T.fd_Place_init P_Place_init ds :=
  L2.FunD.binds (ps := P_Place_init) T.F_Place_init 4 1 (by simp) rfl (fun T D doc pm an cdv ct us its ks hu hi hk => match us, its, ks, hu, hi, hk with
    | [_, _, _, _], [_], [_, _], _, _, _ => ⟨_, rfl, _, _, _, _, _, _, rfl, rfl, _, _, _, _, _, _, rfl, rfl, rfl⟩) (by simp)
theorem kbindP (T : Tx K mg) : ∃ its mv : List Value, KBn K T.fd_Place_init P_Place_init 4 ["memory", "customer"] (fun us ws => us ++ ws) (fun vs zs => vs ++ zs) :=
  L2.FunD.kbinds (ps := P_Place_init) T.F_Place_init 4 ["memory", "customer"] [] (fun us _ _ ws => us ++ ws) (by simp) (by simp) (fun q hq => by cases hq) (fun r1 _ _ r4 => r1.append r4)
    (fun T D doc pm an cdv ct us its mv ws hu hi hm hw => match us, its, mv, ws, hu, hi, hm, hw with
    | [_, _, _, _], [_], [], [_, _], _, _, _, _ => ⟨_, rfl, rfl⟩)
theorem kbindP0 (T : Tx K mg) : ∃ its mv : List Value, KBn K T.fd_Place_init P_Place_init 1 ["customer", "memory", "elder", "server", "name"] (fun us ws => us ++ ws.reverse) (fun vs zs => vs ++ zs.reverse) :=
  L2.FunD.kbinds (ps := P_Place_init) T.F_Place_init 1 ["customer", "memory", "elder", "server", "name"] [] (fun us _ _ ws => us ++ ws.reverse) (by simp) (by simp) (fun q hq => by cases hq) (fun r1 _ _ r4 => r1.append (vals_rev r4))
    (fun T D doc pm an cdv ct us its mv ws hu hi hm hw => match us, its, mv, ws, hu, hi, hm, hw with
    | [_], [_], [], [_, _, _, _, _], _, _, _, _ => ⟨_, rfl, rfl⟩)
end

section
variable {w : World} {K : PySem.W.Frag} {mg : Str → Option Value} {base : Heap}
/-! ### drawn names -/
theorem k_ofS {G0 G : Hp} {b : Addr} {β : HO} {z : Str} {Q : VK} {E : XK} (hb : Bag K G0 G b β) (h0 : 0 < z.length) (h1 : z.length ≤ 1000000) (k : ∀ c β', c ∈ z.cps.toList → Bag K G0 G b β' → Q (.str ⟨#[c]⟩) (upd G b β')) : spOf K [.ref b, .str z] (upd G b β) Q E :=
  ⟨G0, G, b, β, .str z, rfl, rfl, hb, h0, h1, k⟩
theorem str_app (a c : Str) : (a ++ c).length = a.length + c.length := Array.size_append
def GoodN (z : Str) : Prop := nameD z.cps.toList = true
theorem GoodN.v {z : Str} (h : GoodN z) : nameV (.str z) = true := h
theorem GoodN.len {z : Str} (h : GoodN z) : z.length ≤ 8 := by
  have hl := str_len z
  unfold GoodN at h
  cases hc : z.cps.toList with
  | nil => rw [hc] at h; cases h
  | cons c r =>
    rw [hc] at h hl
    have h : (decide (r.length + 1 ≤ 8) && inL c && (c :: r).all fun d => inL d || inD d) = true := h
    rw [Bool.and_eq_true, Bool.and_eq_true] at h
    have := of_decide_eq_true h.1.1
    rw [hl, List.length_cons]
    exact this
def qn (k : Nat) : Str := Str.empty ++ ("q" : Str) ++ Str.ofString (toString ((k : Nat) : Int))
theorem qn_good : ∀ k, k < 60 → GoodN (qn k) := by
  have h : ((List.range 60).all fun k => nameD (qn k).cps.toList) = true := by decide +kernel
  intro k hk
  exact List.all_eq_true.mp h k (List.mem_range.mpr hk)
theorem qn_nd : ((List.range 59).map qn).Nodup := by decide +kernel
theorem long_of {α : Type} [DecidableEq α] : ∀ (xs ys : List α), xs.Nodup → (∀ x ∈ xs, x ∈ ys) → xs.length ≤ ys.length
  | [], ys, _, _ => Nat.zero_le _
  | x :: xs, ys, hn, h => by
    have hx := h x List.mem_cons_self
    have ih := long_of xs (ys.erase x) (List.nodup_cons.mp hn).2 fun y hy => (List.mem_erase_of_ne (fun e : y = x => (List.nodup_cons.mp hn).1 (e ▸ hy))).mpr (h y (List.mem_cons_of_mem _ hy))
    rw [List.length_erase_of_mem hx] at ih
    have := List.length_pos_of_mem hx
    rw [List.length_cons]
    omega
theorem flat_strs (ns : List Str) : (ns.map V.str).all flatV = true := by
  rw [List.all_map, List.all_eq_true]
  exact fun _ _ => rfl
theorem inV_strs (n : Str) (ns : List Str) : inV (.str n) (ns.map V.str) = decide (n ∈ ns) := by
  unfold inV
  rw [List.any_map]
  rw [Bool.eq_iff_iff, List.any_eq_true, decide_eq_true_iff]
  constructor
  · rintro ⟨x, hx, h⟩
    have : x = n := by simpa [eqV] using h
    rw [← this]
    exact hx
  · intro h
    exact ⟨n, h, by simp [eqV]⟩
def one (c : Nat) : Str := ⟨#[c]⟩
theorem join_one : ∀ cs : List Nat, (Txt.join Str.empty (cs.map one)).cps.toList = cs
  | [] => rfl
  | [c] => rfl
  | c :: d :: r => by
    have ih := join_one (d :: r)
    show (Builtin.Str.glued Str.empty _).cps.toList = _
    rw [StrLaws.glued_eq_join]
    have ih : (Builtin.Str.glued Str.empty ((d :: r).map one)).cps.toList = d :: r := ih
    rw [StrLaws.glued_eq_join] at ih
    show (one c ++ Str.empty ++ Str.join Str.empty ((d :: r).map one)).cps.toList = _
    rw [PySem.Str.cps_append, Array.toList_append, ih]
    rfl
theorem drawn_good {c : Nat} {cs : List Nat} (h0 : inL c = true) (hl : cs.length ≤ 7) (h : ∀ d ∈ cs, (inL d || inD d) = true) : GoodN ((⟨#[c]⟩ : Str) ++ Txt.join Str.empty (cs.map one)) := by
  unfold GoodN
  rw [PySem.Str.cps_append, Array.toList_append, join_one]
  show (decide (cs.length + 1 ≤ 8) && inL c && ((c :: cs).all fun d => inL d || inD d)) = true
  rw [decide_eq_true (by omega), h0]
  refine List.all_eq_true.mpr fun d hd => ?_
  rcases List.mem_cons.mp hd with rfl | hd
  · rw [h0]; rfl
  · exact h d hd
def spName (K : PySem.W.Frag) : Sp := fun vs H Q _ => ∃ (G0 G : Hp) (b p : Addr) (β : HO) (ns : List Str), vs = [.ref b, .ref p] ∧ H = upd G b β ∧ Bag K G0 G b β ∧ G p = some (.lst (ns.map V.str)) ∧ ns.length ≤ 50 ∧
  ∀ (z : Str) (G' : Hp) (β' : HO), Same G G' → Bag K G0 G' b β' → GoodN z → z ∉ ns → Q (.str z) (upd G' b β')
theorem ok_name (T : Tx K mg) : FnOk P w K mg base CX0 3 T.a_name T.fd_name P_name (spName K) := by
  refine T.F_name.ok sc_name (fun vs H Q E h => ?_) (fun cdv A outer s H vs Q E hr h => ?_)
  · obtain ⟨G0, G, b, p, β, ns, rfl, _⟩ := h
    rfl
  · obtain ⟨G0, G, b, p, β, ns, rfl, rfl, hb, hp, hl, k⟩ := h
    have nd := sc_name.nd
    refine ⟨_, (pss_cons (ks_setL (i := 3) nd l_name_law_word (pe_op kop_add (pe_call (ok_of T) (hr.mono (by first | decide | omega)) g_name_law_of T.m_of T.k_of T.b_of .nil pass0 (pa_cons (kv (i := 0) v_name_law_bag_here) (pa_cons pe_str pa_nil))) (kpe_join K pe_str (pe_lc (own := [("_law_k", 2)]) rfl nd (pi_range1 g_name_range T.n_range (pa_cons (pe_call (ok_of T) (hr.mono (by first | decide | omega)) g_name_law_of T.m_of T.k_of T.b_of .nil pass0 (pa_cons (kv (i := 0) v_name_law_bag_here) (pa_cons (pe_lst (pa_cons pe_int (pa_cons pe_int (pa_cons pe_int (pa_cons pe_int (pa_cons pe_int pa_nil)))))) pa_nil))) pa_nil)) ok_cs_name_1 (fun _ _ _ _ _ => (kgL (i := 2) nd l_name_1_law_k)) (fun _ _ _ _ _ => pts_nil) (fun _ _ _ _ _ => (pe_call (ok_of T) (hr.mono (by first | decide | omega)) g_name_1_law_of T.m_of T.k_of T.b_of .nil pass0 (pa_cons (kv (i := 0) v_name_1_law_bag_here) (pa_cons pe_str pa_nil))))))))
      (pss_cons (ps_for PassesOwn.never rfl (pi_range1 g_name_range T.n_range (pa_cons pe_int pa_nil)) (kgL (i := 2) nd l_name_law_k) (pss_cons (ps_if (pt_cmpR (kop_nin K) (kv (i := 3) v_name_law_word) (kv (i := 1) v_name_law_taken) (by rfl)) (pss_one ps_break) pss_nil)
      (pss_one (ks_setL (i := 3) nd l_name_law_word (pe_joined (.cons pe_str (.cons (pe_fmt (kv (i := 2) v_name_law_k)) .nil)))))))
      (pss_one (ps_ret (kv (i := 3) v_name_law_word))))), ?_⟩
    walk_at "ss"
    refine k_ofS hb (by decide +kernel) (by decide +kernel) fun c0 β1 hc0 hb1 => ?_
    walk_at "ss"
    intro t nt_t
    rw [upd_swap (up_none nt_t).2]
    generalize eG_t : upd _ t _ = G1
    obtain ⟨nb1, sm1, ht, nt_t, nG_t⟩ := new_facts hb1.nb nt_t eG_t
    clear eG_t
    have hb2 := hb1.up sm1 nb1
    walk_at "ss"
    refine k_of hb2 (SqL.of ht) (by simp) (by simp) fun v β3 hv hb3 => ?_
    obtain ⟨n, rfl, hn0, hn1⟩ : ∃ n : Int, v = V.int n ∧ 0 ≤ n ∧ n ≤ 7 := by
      simp only [List.mem_cons, List.not_mem_nil, or_false] at hv
      rcases hv with rfl | rfl | rfl | rfl | rfl <;> exact ⟨_, rfl, by decide, by decide⟩
    walk_at "ss"
    refine k_r1 ⟨by omega, by omega⟩ ?_
    intro D nD
    obtain ⟨nD1, nDb⟩ := up_none nD
    refine k_lcRange (n := n.toNat) (fun i H' => ∃ (cs : List Nat) (G' : Hp) (β' : HO), H' = upd G' b β' ∧ Bag K G0 G' b β' ∧ Same G1 G' ∧ G' D = some (.lst ((cs.map one).map V.str)) ∧ cs.length = i ∧ ∀ c ∈ cs, (inL c || inD c) = true)
      ⟨[], _, β3, upd_swap nDb, hb3.up (same_new nD1) (by rw [upd_ne (Ne.symm nDb)]; exact hb3.nb), same_new nD1, upd_same, rfl, fun x hx => (by cases hx)⟩ ?_ ?_
    · rintro i H' hi ⟨cs, G2, β4, rfl, hb4, sm2, hD, hlen, hall⟩
      refine k_gName ?_
      refine ⟨rfl, ?_⟩
      walk_at "ss"
      refine k_ofS hb4 (by decide +kernel) (by decide +kernel) fun c β5 hc hb5 => ?_
      refine ⟨_, up_get hb5.nb hD, small_lt (by rw [List.length_map, List.length_map]; omega), cs ++ [c], upd G2 D (.lst (((cs ++ [c]).map one).map V.str)), β5, ?_, hb5.up0 (same_put hb5.sm (g_none hb1.sm (g_none sm1 nD1))) (by rw [upd_ne (Ne.symm nDb)]; exact hb5.nb), same_put sm2 nD1, upd_same, by simp [hlen], fun x hx => ?_⟩
      · rw [List.map_append, List.map_append]
        exact upd_swap nDb
      · rcases List.mem_append.mp hx with hx | hx
        · exact hall x hx
        · rw [List.mem_singleton.mp hx]
          have key : ∀ c ∈ ("abcxyz019" : Str).cps.toList, (inL c || inD c) = true := by decide +kernel
          exact key c hc
    · rintro H' ⟨cs, G2, β4, rfl, hb4, sm2, hD, hlen, hall⟩
      walk_at "ss"
      have hone : ((cs.map one).map (·.length)).sum ≤ 7 := by
        have : ((cs.map one).map (·.length)).sum ≤ cs.length := by
          clear hD hlen hall
          induction cs with
          | nil => exact Nat.le_refl _
          | cons c cs ih =>
            simp only [List.map_cons, List.sum_cons, List.length_cons]
            have : (one c).length = 1 := rfl
            omega
        omega
      refine k_joinL (SqL.of (up_get hb4.nb hD)) (by show _ + _ * 0 ≤ _; omega) fun out eout => ?_
      have hgd : GoodN ((⟨#[c0]⟩ : Str) ++ out) := by
        rw [eout]
        have key : ∀ c ∈ ("abcmxz" : Str).cps.toList, inL c = true := by decide +kernel
        exact drawn_good (key c0 hc0) (by omega) hall
      have hlo : out.length ≤ 7 := by
        have := hgd.len
        rw [str_app] at this
        have e1 : (⟨#[c0]⟩ : Str).length = 1 := rfl
        omega
      refine k_addS (show 1 + out.length ≤ 1000000 by omega) ?_
      generalize (⟨#[c0]⟩ : Str) ++ out = wd at hgd
      have hp2 := sm2 _ _ (sm1 _ _ hp)
      have hpu := up_get (β := β4) hb4.nb hp2
      walk_at "ss"
      refine k_r1 ⟨by decide, by decide⟩ ?_
      refine k_forRange (fun i σ H' => upd G2 b β4 = H' ∧ ∃ (z : Str) (v1 : Option V), σ = [some (.ref b), some (.ref p), v1, some (.str z)] ∧ GoodN z ∧ (∀ j, j + 1 < i → qn j ∈ ns) ∧ (0 < i → z = qn (i - 1))) ⟨rfl, wd, none, rfl, hgd, fun j h => absurd h (by omega), fun h => absurd h (by omega)⟩ ?_ ?_
      · rintro i σ H' hi ⟨rfl, z, v1, rfl, hz, hq, hzi⟩
        walk_at "ss"
        refine ⟨p, _, rfl, .inl (SqL.of hpu), rfl, flat_strs _, ?_⟩
        rw [if_pos (show true = true from rfl), inV_strs]
        refine ⟨_, rfl, ?_⟩
        refine k_n (fun hin => ?_) (fun hout => ?_)
        · walk_at "ss"
          have h60 : i < 60 := hi
          have hlq : (Str.ofString (toString (0 + (i : Int)))).length ≤ 5 := len_text (k := 4) (by decide) (by omega)
          have lq : ("q" : Str).length = 1 := by decide +kernel
          refine k_jsV (by simp only [PySem.Str.length_append, len_empty, lq]; omega) ?_
          walk_at "ss"
          refine k_fmtI (by omega) ?_
          refine k_jsV (by simp only [PySem.Str.length_append, len_empty, lq]; omega) ?_
          walk_at "ss"
          refine ⟨rfl, qn i, _, by rw [Int.zero_add]; rfl, qn_good i h60, fun j hj => ?_, fun _ => rfl⟩
          by_cases e : j + 1 < i
          · exact hq j e
          · have : j = i - 1 := by omega
            rw [this, ← hzi (by omega)]
            exact hin
        · walk_at "ss"
          exact k z G2 β4 (sm1.trans sm2) hb4 hz hout
      · rintro σ H' ⟨rfl, z, v1, rfl, hz, hq, hzi⟩
        have hall : ∀ x ∈ (List.range 59).map qn, x ∈ ns := fun x hx => by
          obtain ⟨j, hj, rfl⟩ := List.mem_map.mp hx
          exact hq j (by have := List.mem_range.mp hj; show j + 1 < Int.toNat 60; have : Int.toNat 60 = 60 := rfl; omega)
        have := long_of _ _ qn_nd hall
        rw [List.length_map, List.length_range] at this
        omega
end

section
variable {w : World} {K : PySem.W.Frag} {mg : Str → Option Value} {base : Heap}
/-! ### names, places drawn -/
theorem k_name {G0 G : Hp} {b p : Addr} {β : HO} {ns : List Str} {Q : VK} {E : XK} (hb : Bag K G0 G b β) (hp : G p = some (.lst (ns.map V.str))) (hl : ns.length ≤ 50)
    (k : ∀ (z : Str) (G' : Hp) (β' : HO), Same G G' → Bag K G0 G' b β' → GoodN z → z ∉ ns → Q (.str z) (upd G' b β')) : spName K [.ref b, .ref p] (upd G b β) Q E := ⟨G0, G, b, p, β, ns, rfl, rfl, hb, hp, hl, k⟩
def spNames (K : PySem.W.Frag) : Sp := fun vs H Q _ => ∃ (G0 G : Hp) (b : Addr) (β : HO) (n : Int), vs = [.ref b, .int n] ∧ H = upd G b β ∧ Bag K G0 G b β ∧ 0 ≤ n ∧ n ≤ 6 ∧
  ∀ (L : Addr) (ns : List Str) (G' : Hp) (β' : HO), Same G G' → Bag K G0 G' b β' → G' L = some (.lst (ns.map V.str)) → (ns.length : Int) = n → (∀ z ∈ ns, GoodN z) → Q (.ref L) (upd G' b β')
theorem ok_names (T : Tx K mg) : FnOk P w K mg base CX0 4 T.a_names T.fd_names P_names (spNames K) := by
  refine T.F_names.ok sc_names (fun vs H Q E h => ?_) (fun cdv A outer s H vs Q E hr h => ?_)
  · obtain ⟨G0, G, b, β, n, rfl, _⟩ := h
    rfl
  · obtain ⟨G0, G, b, β, n, rfl, rfl, hb, hn0, hn1, k⟩ := h
    have nd := sc_names.nd
    refine ⟨_, (pss_cons (ks_setL (i := 2) nd l_names_law_some (pe_lst pa_nil))
      (pss_cons (ps_for PassesOwn.never rfl (pi_range1 g_names_range T.n_range (pa_cons (kv (i := 1) v_names_law_many) pa_nil)) (kgL (i := 3) nd l_names_law_k) (pss_one (ps_expr (pe_bm PySem.F.plainAttrs_list PySem.F.slot_list_append PySem.F.type_list_append mt_append (kv (i := 2) v_names_law_some) (pa_cons (pe_call (ok_name T) (hr.mono (by first | decide | omega)) g_names_law_name T.m_name T.k_name T.b_name .nil pass0 (pa_cons (kv (i := 0) v_names_law_bag_here) (pa_cons (kv (i := 2) v_names_law_some) pa_nil))) pa_nil)))))
      (pss_one (ps_ret (kv (i := 2) v_names_law_some))))), ?_⟩
    walk_at "ss"
    intro L nt_L
    rw [upd_swap (up_none nt_L).2]
    generalize eG_L : upd _ L _ = G1
    obtain ⟨nb1, sm1, hL, nt_L, nG_L⟩ := new_facts hb.nb nt_L eG_L
    clear eG_L
    have hb1 := hb.up sm1 nb1
    walk_at "ss"
    refine k_r1 ⟨by omega, by omega⟩ ?_
    refine k_forRange (fun i σ H' => ∃ (ns : List Str) (G' : Hp) (β' : HO) (kv : Option V), σ = [some (.ref b), some (.int n), some (.ref L), kv] ∧ H' = upd G' b β' ∧ Bag K G0 G' b β' ∧ Same G G' ∧ G' L = some (.lst (ns.map V.str)) ∧ ns.length = i ∧ ∀ z ∈ ns, GoodN z)
      ⟨[], G1, β, none, rfl, rfl, hb1, sm1, hL, rfl, fun z hz => (by cases hz)⟩ ?_ ?_
    · rintro i σ H' hi ⟨ns, G2, β2, kv, rfl, rfl, hb2, sm2, hL2, hlen, hall⟩
      have hLu := up_get (β := β2) hb2.nb hL2
      walk_at "ss"
      refine k_bm ?_
      walk_at "ss"
      refine ⟨.inl ⟨rfl, _, SqL.of hLu⟩, ?_⟩
      walk_at "ss"
      refine k_name hb2 hL2 (by omega) fun z G3 β3 sm3 hb3 hz hnz => ?_
      have hL3 := sm3 _ _ hL2
      walk_at "ss"
      refine k_app (up_get hb3.nb hL3) (by rw [List.length_map]; omega) ?_
      rw [upd_swap nt_L]
      refine ⟨ns ++ [z], upd G3 L (.lst ((ns ++ [z]).map V.str)), β3, _, rfl, by rw [List.map_append]; rfl, hb3.up0 (same_put hb3.sm (g_none hb.sm nG_L)) (by rw [upd_ne (Ne.symm nt_L)]; exact hb3.nb), same_put (sm2.trans sm3) nG_L, upd_same, by simp [hlen], fun y hy => ?_⟩
      rcases List.mem_append.mp hy with hy | hy
      · exact hall y hy
      · rw [List.mem_singleton.mp hy]; exact hz
    · rintro σ H' ⟨ns, G2, β2, kv, rfl, rfl, hb2, sm2, hL2, hlen, hall⟩
      walk_at "ss"
      exact k L ns G2 β2 sm2 hb2 hL2 (by omega) hall
/-! rows as tuples -/
def RowAt (H : Hp) (a : Addr) (r : PlRow) : Prop := H a = some (.tup [.str r.nm, .str r.sv, vO r.el, .bl r.me, vO r.cu])
structure RowsAt (H : Hp) (p : Addr) (l : PL) : Prop where
  at_ : H p = some (.lst (l.map fun z => V.ref z.1))
  rows : ∀ z ∈ l, RowAt H z.1 z.2
theorem RowAt.up {H H' : Hp} {a : Addr} {r : PlRow} (h : RowAt H a r) (e : Same H H') : RowAt H' a r := e _ _ h
theorem RowsAt.up {H H' : Hp} {p : Addr} {l : PL} (h : RowsAt H p l) (e : Same H H') : RowsAt H' p l := ⟨e _ _ h.at_, fun z hz => (h.rows z hz).up e⟩
structure GoodR (r : PlRow) : Prop where
  nm : GoodN r.nm
  sv : GoodN r.sv
  el : ∀ e, r.el = some e → GoodN e
  cu : ∀ c, r.cu = some c → GoodN c
theorem find_nd : ∀ {l : List PlRow} {u : PlRow}, (l.map (·.nm)).Nodup → u ∈ l → l.find? (fun x => decide (x.nm = u.nm)) = some u
  | [], _, _, h => by cases h
  | y :: l, u, hn, h => by
    rw [List.find?_cons]
    rcases List.mem_cons.mp h with rfl | h
    · simp
    · have hne : y.nm ≠ u.nm := fun e => (List.nodup_cons.mp hn).1 (List.mem_map.mpr ⟨u, h, e.symm⟩)
      rw [decide_eq_false hne]
      exact find_nd (List.nodup_cons.mp hn).2 h
theorem fit_of {ah : List PlRow} {z r : PlRow} (nd : (ah.map (·.nm)).Nodup) (hz : z ∈ ah) (hm : z.me = false) (hn : r.nm ∉ ah.map (·.nm)) (he : r.el = some z.nm) (hs : z.sv = r.sv ∨ (r.me = false ∧ r.sv ∉ ah.map (·.sv))) : fitR ah r = true := by
  unfold fitR
  rw [if_neg hn, if_neg (fun e => by rw [e] at hz; cases hz), he]
  dsimp only
  rw [find_nd nd hz]
  dsimp only
  rw [if_neg (by rw [hm]; decide)]
  by_cases e : z.sv = r.sv
  · rw [if_pos e]
  · rw [if_neg e]
    rcases hs with hs | ⟨h1, h2⟩
    · exact absurd hs e
    · rw [h1, decide_eq_false h2]
      rfl
theorem misfit_app : ∀ {l ah : List PlRow} {r : PlRow}, misfit ah l = none → fitR (ah ++ l) r = true → misfit ah (l ++ [r]) = none
  | [], ah, r, _, h => by
    rw [List.append_nil] at h
    show (if fitR ah r = true then _ else _) = _
    rw [if_pos h]
    rfl
  | y :: l, ah, r, h1, h => by
    have h1 : (if fitR ah y = true then misfit (ah ++ [y]) l else some y) = none := h1
    show (if fitR ah y = true then misfit (ah ++ [y]) (l ++ [r]) else some y) = none
    by_cases e : fitR ah y = true
    · rw [if_pos e] at h1 ⊢
      exact misfit_app h1 (by rw [List.append_assoc]; exact h)
    · rw [if_neg e] at h1
      cases h1
def spPlaces (K : PySem.W.Frag) : Sp := fun vs H Q _ => ∃ (G0 G : Hp) (b p o : Addr) (β : HO) (n : Int) (hs os : List Str), vs = [.ref b, .int n, .ref p, .ref o] ∧ H = upd G b β ∧ Bag K G0 G b β ∧ 1 ≤ n ∧ n ≤ 24 ∧ G p = some (.lst (hs.map V.str)) ∧ G o = some (.lst (os.map V.str)) ∧ hs ≠ [] ∧ hs.length ≤ 6 ∧ os.length ≤ 6 ∧ (∀ z ∈ hs, GoodN z) ∧ (∀ z ∈ os, GoodN z) ∧
  ∀ (L : Addr) (l : PL) (G' : Hp) (β' : HO), Same G G' → Bag K G0 G' b β' → RowsAt G' L l → (l.length : Int) = n → misfit [] (l.map (·.2)) = none → (∀ z ∈ l, GoodR z.2) → Q (.ref L) (upd G' b β')
theorem ok_places (T : Tx K mg) : FnOk P w K mg base CX0 4 T.a_places T.fd_places P_places (spPlaces K) := by
  refine T.F_places.ok sc_places (fun vs H Q E h => ?_) (fun cdv A outer s H vs Q E hr h => ?_)
  · obtain ⟨G0, G, b, p, o, β, n, hs, os, rfl, _⟩ := h
    rfl
  · obtain ⟨G0, G, b, p, o, β, n, hs, os, rfl, rfl, hb, hn0, hn1, hp, ho, hsn, hsl, osl, gh, go, k⟩ := h
    have nd := sc_places.nd
    refine ⟨_, (pss_cons (ps_asg (pe_tup (pa_cons (pe_lst pa_nil) (pa_cons (pe_lst pa_nil) pa_nil))) (kpg_tup K 2 rfl (pgs_cons (kgL (i := 4) nd l_places_law_some) (pgs_cons (kgC (i := 5) nd c_places_law_used) pgs_nil))))
      (pss_cons (ps_for PassesOwn.never rfl (pi_range1 g_places_range T.n_range (pa_cons (kv (i := 1) v_places_law_many) pa_nil)) (kgL (i := 6) nd l_places_law_k) (pss_cons (ks_setL (i := 7) nd l_places_law_label (pe_call (ok_name T) (hr.mono (by first | decide | omega)) g_places_law_name T.m_name T.k_name T.b_name .nil pass0 (pa_cons (kv (i := 0) v_places_law_bag_here) (pa_cons (pe_lc (own := [("_law_row_here", 13)]) rfl nd (kpi_list K (kv (i := 4) v_places_law_some)) ok_cs_places_3 (fun _ _ _ _ _ => (kgL (i := 13) nd l_places_3_law_row_here)) (fun _ _ _ _ _ => pts_nil) (fun _ _ _ _ _ => (pe_ix (kix K) (kv (i := 13) v_places_3_law_row_here) pe_int (fun _ _ => rfl)))) pa_nil))))
      (pss_cons (ks_setL (i := 8) nd l_places_law_place_here (pe_tup (pa_cons (kv (i := 7) v_places_law_label) (pa_cons (pe_call (ok_of T) (hr.mono (by first | decide | omega)) g_places_law_of T.m_of T.k_of T.b_of .nil pass0 (pa_cons (kv (i := 0) v_places_law_bag_here) (pa_cons (kv (i := 2) v_places_law_hosts) pa_nil))) (pa_cons pe_non (pa_cons pe_bl (pa_cons pe_non pa_nil)))))))
      (kss_meet (ps_if (pt_cmpR op_gt (kv (i := 6) v_places_law_k) pe_int (nomark _)) (pss_cons (ks_setL (i := 9) nd l_places_law_above (pe_call (ok_of T) (hr.mono (by first | decide | omega)) g_places_law_of T.m_of T.k_of T.b_of .nil pass0 (pa_cons (kv (i := 0) v_places_law_bag_here) (pa_cons (pe_lc (own := [("_law_row_here", 13)]) rfl nd (kpi_list K (kv (i := 4) v_places_law_some)) ok_cs_places_2 (fun _ _ _ _ _ => (kgL (i := 13) nd l_places_2_law_row_here)) (fun _ _ _ _ _ => (pts_one (pt_not (kpt_truth K (pe_ix (kix K) (kv (i := 13) v_places_2_law_row_here) pe_int (fun _ _ => rfl)))))) (fun _ _ _ _ _ => (kv (i := 13) v_places_2_law_row_here))) pa_nil))))
      (pss_cons (ks_setL (i := 10) nd l_places_law_host (pe_ix (kix K) (kv (i := 9) v_places_law_above) pe_int (fun _ _ => rfl)))
      (pss_cons (ps_setLc (i := 11) (own := [("_law_one", 14)]) rfl nd rfl (locB_ok l_places_law_free) (sw_true rfl (locB_ok l_places_law_free) rfl (by decide +kernel)) (kpi_list K (kv (i := 2) v_places_law_hosts)) ok_cs_places_1 (fun _ _ _ _ _ => (kgL (i := 14) nd l_places_1_law_one)) (fun _ _ _ _ _ => (pts_one (pt_cmpR (kop_nin K) (kv (i := 14) v_places_1_law_one) (kv (i := 5) v_places_1_law_used) (by rfl)))) (fun _ _ _ _ _ => (kv (i := 14) v_places_1_law_one)))
      (kss_meet (ps_if (PW.pt (pw_and (kpt_truth K (kv (i := 11) v_places_law_free)) (pw_and1 (pt_cmpR op_eq (pe_call (ok_draw T) (hr.mono (by first | decide | omega)) g_places_law_draw T.m_draw T.k_draw T.b_draw .nil pass0 (pa_cons (kv (i := 0) v_places_law_bag_here) (pa_cons pe_int pa_nil))) pe_int (nomark _))))) (pss_one (ks_setL (i := 10) nd l_places_law_host (pe_call (ok_of T) (hr.mono (by first | decide | omega)) g_places_law_of T.m_of T.k_of T.b_of .nil pass0 (pa_cons (kv (i := 0) v_places_law_bag_here) (pa_cons (kv (i := 11) v_places_law_free) pa_nil))))) pss_nil)
      (pss_cons (ks_setL (i := 12) nd l_places_law_soft (pe_and (pe_cmpR op_eq (kv (i := 10) v_places_law_host) (pe_ix (kix K) (kv (i := 9) v_places_law_above) pe_int (fun _ _ => rfl)) (nomark _)) (pe_one (pe_cmpR op_eq (pe_call (ok_draw T) (hr.mono (by first | decide | omega)) g_places_law_draw T.m_draw T.k_draw T.b_draw .nil pass0 (pa_cons (kv (i := 0) v_places_law_bag_here) (pa_cons pe_int pa_nil))) pe_int (nomark _)))))
      (pss_one (ks_setL (i := 8) nd l_places_law_place_here (pe_tup (pa_cons (kv (i := 7) v_places_law_label) (pa_cons (kv (i := 10) v_places_law_host) (pa_cons (pe_ix (kix K) (kv (i := 9) v_places_law_above) pe_int (fun _ _ => rfl)) (pa_cons (kv (i := 12) v_places_law_soft) (pa_cons (pe_call (ok_of T) (hr.mono (by first | decide | omega)) g_places_law_of T.m_of T.k_of T.b_of .nil pass0 (pa_cons (kv (i := 0) v_places_law_bag_here) (pa_cons (pe_op kop_add (kv (i := 3) v_places_law_owners) (pe_lst (pa_cons pe_non (pa_cons pe_non pa_nil)))) pa_nil))) pa_nil))))))))))))) pss_nil)
      (pss_cons (ps_expr (pe_bm PySem.F.plainAttrs_list PySem.F.slot_list_append PySem.F.type_list_append mt_append (kv (i := 4) v_places_law_some) (pa_cons (kv (i := 8) v_places_law_place_here) pa_nil)))
      (pss_one (ps_expr (pe_bm PySem.F.plainAttrs_list PySem.F.slot_list_append PySem.F.type_list_append mt_append (kv (i := 5) v_places_law_used) (pa_cons (pe_ix (kix K) (kv (i := 8) v_places_law_place_here) pe_int (fun _ _ => rfl)) pa_nil)))))))))
      (pss_one (ps_ret (kv (i := 4) v_places_law_some))))), ?_⟩
    walk_at "ss"
    intro L nt_L
    rw [upd_swap (up_none nt_L).2]
    generalize eG_L : upd _ L _ = G1
    obtain ⟨nb1, sm1, hL, nt_L, nG_L⟩ := new_facts hb.nb nt_L eG_L
    clear eG_L
    walk_at "ss"
    intro U nt_U
    rw [upd_swap (up_none nt_U).2]
    generalize eG_U : upd _ U _ = G2
    obtain ⟨nb2, sm2, hU, nt_U, nG_U⟩ := new_facts nb1 nt_U eG_U
    clear eG_U
    walk_at "ss"
    intro tt nt_tt
    rw [upd_swap (up_none nt_tt).2]
    generalize eG_tt : upd _ tt _ = G3
    obtain ⟨nb3, sm3, htt, nt_tt, nG_tt⟩ := new_facts nb2 nt_tt eG_tt
    clear eG_tt
    have nUL : U ≠ L := fun e => by rw [e, hL] at nG_U; cases nG_U
    have hb3 := hb.up ((sm1.trans sm2).trans sm3) nb3
    have hL3 := sm3 _ _ (sm2 _ _ hL)
    have hU3 := sm3 _ _ hU
    have nUG : G U = none := g_none sm1 nG_U
    refine k_gTup (SqT.of (up_get nb3 htt)) rfl ?_
    walk_at "ss"
    refine k_r1 ⟨by omega, by omega⟩ ?_
    have hp3 := sm3 _ _ (sm2 _ _ (sm1 _ _ hp))
    have ho3 := sm3 _ _ (sm2 _ _ (sm1 _ _ ho))
    have nLG := nG_L
    have nL0 : G0 L = none := g_none hb.sm nG_L
    have nU0 : G0 U = none := g_none hb.sm nUG
    have sG3 : Same G G3 := (sm1.trans sm2).trans sm3
    clear hL htt nG_tt sm1 sm2 sm3 hU
    refine k_forRange (fun i σ H' => ∃ (l : PL) (G' : Hp) (β' : HO) (u6 u7 u8 u9 u10 u11 u12 : Option V), σ = [some (.ref b), some (.int n), some (.ref p), some (.ref o), some (.ref L), some (.ref U), u6, u7, u8, u9, u10, u11, u12, none, none] ∧ H' = upd G' b β' ∧ Bag K G0 G' b β' ∧ Same G G' ∧ RowsAt G' L l ∧ G' U = some (.lst (((l.map (·.2)).map (·.sv)).map V.str)) ∧ l.length = i ∧
        misfit [] (l.map (·.2)) = none ∧ ((l.map (·.2)).map (·.nm)).Nodup ∧ (∀ z ∈ l, GoodR z.2) ∧ (0 < i → ∃ z ∈ l, z.2.me = false))
      ⟨[], G3, β, none, none, none, none, none, none, none, rfl, rfl, hb3, sG3, ⟨hL3, fun z hz => by cases hz⟩, hU3, rfl, rfl, List.nodup_nil, (fun z hz => by cases hz), fun h => absurd h (by decide)⟩ ?_ ?_
    · rintro i σ H' hi ⟨l, G4, β4, u6, u7, u8, u9, u10, u11, u12, rfl, rfl, hb4, sm4, hR4, hU4, hlen, hmf, hnd, hgd, hme⟩
      have hi24 : i < 24 := by omega
      have hRu : RowsAt (upd G4 b β4) L l := hR4.up (up_same hb4.nb)
      walk_at "ss"
      refine k_iL (SqL.of hRu.at_) ?_
      intro D nD
      refine k_lcList (l.map fun z => V.ref z.1) (fun i H' => H' D = some (.lst ((((l.take i).map (·.2)).map (·.nm)).map V.str)) ∧ Same (upd G4 b β4) H') ⟨upd_same, same_new nD⟩ (fun i H' _ h => SqL.of (h.2 _ _ hRu.at_)) ?_ ?_
      · rintro j x H' hx ⟨hD, sm⟩
        rw [List.getElem?_map] at hx
        obtain ⟨z, hz, rfl⟩ := Option.map_eq_some_iff.mp hx
        have hj := (List.getElem?_eq_some_iff.mp hz).1
        have hz' := (hRu.rows z (List.mem_of_getElem? hz)).up sm
        walk_at "ss"
        refine ⟨rfl, ?_⟩
        walk_at "ss"
        refine ⟨_, hD, small_lt (by simp only [List.length_map, List.length_take]; omega), ?_, same_put sm nD⟩
        rw [upd_same, List.take_add_one, hz]
        simp
      · rintro H' ⟨hD, sm⟩
        rw [List.length_map, List.take_length] at hD
        obtain ⟨G5, nb5, sm5, rfl⟩ := split_up hb4.nb sm
        have hb5 := hb4.up sm5 nb5
        have hD5 : G5 D = some (.lst (((l.map (·.2)).map (·.nm)).map V.str)) := (upd_ne (up_none nD).2).symm.trans hD
        walk_at "ss"
        refine k_name hb5 hD5 (by simp only [List.length_map]; omega) fun lb G6 β6 sm6 hb6 hlb hnew => ?_
        have hp6 := sm6 _ _ (sm5 _ _ (sm4 _ _ hp))
        have ho6 := sm6 _ _ (sm5 _ _ (sm4 _ _ ho))
        have hR6 := (hR4.up sm5).up sm6
        have hU6 := sm6 _ _ (sm5 _ _ hU4)
        have sm06 := (sm4.trans sm5).trans sm6
        walk_at "ss"
        refine k_of hb6 (SqL.of hp6) (by rw [List.length_map]; exact List.length_pos_iff.mpr hsn) (by rw [List.length_map]; omega) fun hv β7 hhv hb7 => ?_
        obtain ⟨h0, hh0, rfl⟩ := List.mem_map.mp hhv
        walk_at "ss"
        intro pt nt_pt
        rw [upd_swap (up_none nt_pt).2]
        generalize eG_pt : upd _ pt _ = G8
        obtain ⟨nb8, sm8, hpt, nt_pt, nG_pt⟩ := new_facts hb7.nb nt_pt eG_pt
        clear eG_pt
        have hb8 := hb7.up sm8 nb8
        have hR8 := hR6.up sm8
        have hU8 := sm8 _ _ hU6
        have hp8 := sm8 _ _ hp6
        have ho8 := sm8 _ _ ho6
        have sm08 := sm06.trans sm8
        walk_at "ss"
        refine k_meet (fun σ H' => ∃ (r : PlRow) (pa : Addr) (G' : Hp) (β' : HO) (u6 u9 u10 u11 u12 : Option V), σ = [some (.ref b), some (.int n), some (.ref p), some (.ref o), some (.ref L), some (.ref U), u6, some (.str lb), some (.ref pa), u9, u10, u11, u12, none, none] ∧ H' = upd G' b β' ∧ Bag K G0 G' b β' ∧ Same G8 G' ∧ RowAt G' pa r ∧
          fitR (l.map (·.2)) r = true ∧ r.nm = lb ∧ GoodR r ∧ (i = 0 → r.me = false)) ?_ ?_
        · walk_at "ss"
          refine k_d (fun hk => ?_) (fun hk => ?_)
          · walk_at "ss"
            have hR8u : RowsAt (upd G8 b β7) L l := hR8.up (up_same hb8.nb)
            refine k_iL (SqL.of hR8u.at_) ?_
            intro D2 nD2
            refine k_lcList (l.map fun z => V.ref z.1) (fun i H' => H' D2 = some (.lst (((l.take i).filter fun z => !z.2.me).map fun z => V.ref z.1)) ∧ Same (upd G8 b β7) H') ⟨upd_same, same_new nD2⟩ (fun i H' _ h => SqL.of (h.2 _ _ hR8u.at_)) ?_ ?_
            · rintro j x H' hx ⟨hD, sm⟩
              rw [List.getElem?_map] at hx
              obtain ⟨z, hz, rfl⟩ := Option.map_eq_some_iff.mp hx
              have hj := (List.getElem?_eq_some_iff.mp hz).1
              have hz' := (hR8u.rows z (List.mem_of_getElem? hz)).up sm
              have step : ((l.take (j + 1)).filter fun z => !z.2.me) = ((l.take j).filter fun z => !z.2.me) ++ (if z.2.me = true then [] else [z]) := by
                rw [List.take_add_one, hz, List.filter_append]
                cases hm : z.2.me <;> simp [List.filter_cons, hm]
              walk_at "ss"
              refine ⟨rfl, ?_⟩
              walk_at "ss"
              refine k_tru ?_
              walk_at "ss"
              refine ⟨z.2.me, rfl, ?_⟩
              refine k_b (fun hm => ?_) (fun hm => ?_)
              · have hm : z.2.me = false := by simpa using hm
                walk_at "ss"
                refine ⟨_, hD, small_lt (by rw [List.length_map]; have := List.length_filter_le (fun z : Addr × PlRow => !z.2.me) (l.take j); rw [List.length_take] at this; omega), ?_, same_put sm nD2⟩
                rw [upd_same, step, if_neg (by rw [hm]; decide), List.map_append]
                rfl
              · have hm : z.2.me = true := by simpa using hm
                refine ⟨?_, sm⟩
                rw [step, if_pos hm, List.append_nil]
                exact hD
            · rintro H' ⟨hD, sm⟩
              rw [List.length_map, List.take_length] at hD
              obtain ⟨GA, nbA, smA, rfl⟩ := split_up hb8.nb sm
              have hbA := hb8.up smA nbA
              have hDA : GA D2 = _ := (upd_ne (up_none nD2).2).symm.trans hD
              walk_at "ss"
              refine k_of hbA (SqL.of hDA) ?_ ?_ fun v β8 hv hb9 => ?_
              · rw [List.length_map]
                obtain ⟨z, hz, hm⟩ := hme (by omega)
                exact List.length_pos_of_mem (List.mem_filter.mpr ⟨hz, by rw [hm]; rfl⟩)
              · rw [List.length_map]
                have := List.length_filter_le (fun z : Addr × PlRow => !z.2.me) l
                omega
              · obtain ⟨za, hza, rfl⟩ := List.mem_map.mp hv
                obtain ⟨hzl, hzm⟩ := List.mem_filter.mp hza
                have hzm : za.2.me = false := by simpa using hzm
                have hRA := hR8.up smA
                have hUA := smA _ _ hU8
                have hpA := smA _ _ hp8
                have hoA := smA _ _ ho8
                have hzr := hRA.rows za hzl
                have hzu := up_get (β := β8) hb9.nb hzr
                walk_at "ss"
                have hpu := up_get (β := β8) hb9.nb hpA
                have hUu := up_get (β := β8) hb9.nb hUA
                refine k_iL (SqL.of hpu) ?_
                intro D3 nD3
                refine k_lcList (hs.map V.str) (fun i H' => H' D3 = some (.lst (((hs.take i).filter fun z => decide (z ∉ (l.map (·.2)).map (·.sv))).map V.str)) ∧ Same (upd GA b β8) H') ⟨upd_same, same_new nD3⟩ (fun i H' _ h => SqL.of (h.2 _ _ hpu)) ?_ ?_
                · rintro j x H' hx ⟨hD, sm⟩
                  rw [List.getElem?_map] at hx
                  obtain ⟨z, hz, rfl⟩ := Option.map_eq_some_iff.mp hx
                  have hj := (List.getElem?_eq_some_iff.mp hz).1
                  have step : ((hs.take (j + 1)).filter fun z => decide (z ∉ (l.map (·.2)).map (·.sv))) = ((hs.take j).filter fun z => decide (z ∉ (l.map (·.2)).map (·.sv))) ++ (if z ∉ (l.map (·.2)).map (·.sv) then [z] else []) := by
                    rw [List.take_add_one, hz, List.filter_append]
                    by_cases hq : z ∈ (l.map (·.2)).map (·.sv)
                    · rw [if_neg (fun h => h hq)]
                      simp only [Option.toList_some, List.filter_cons, List.filter_nil]
                      rw [if_neg (by rw [decide_eq_false (fun h => h hq)]; decide)]
                    · rw [if_pos hq]
                      simp only [Option.toList_some, List.filter_cons, List.filter_nil]
                      rw [if_pos (by rw [decide_eq_true hq])]
                  walk_at "ss"
                  refine ⟨rfl, ?_⟩
                  walk_at "ss"
                  refine ⟨U, _, rfl, .inl (SqL.of (sm _ _ hUu)), rfl, flat_strs _, ?_⟩
                  rw [if_pos (show true = true from rfl), inV_strs]
                  refine ⟨_, rfl, ?_⟩
                  refine k_n (fun hin => ?_) (fun hout => ?_)
                  · refine ⟨?_, sm⟩
                    rw [step, if_neg (fun q => q hin), List.append_nil]
                    exact hD
                  · walk_at "ss"
                    refine ⟨_, hD, small_lt (by rw [List.length_map]; have := List.length_filter_le (fun z => decide (z ∉ (l.map (·.2)).map (·.sv))) (hs.take j); rw [List.length_take] at this; omega), ?_, same_put sm nD3⟩
                    rw [upd_same, step, if_pos hout, List.map_append]
                    rfl
                · rintro H' ⟨hD, sm⟩
                  rw [List.length_map, List.take_length] at hD
                  obtain ⟨GB, nbB, smB, rfl⟩ := split_up hb9.nb sm
                  have hbB := hb9.up smB nbB
                  have hDB : GB D3 = _ := (upd_ne (up_none nD3).2).symm.trans hD
                  have smAB := smA.trans smB
                  have hzrB := hzr.up smB
                  walk_at "ss"
                  refine k_meet (fun σ H' => ∃ (sv : Str) (G' : Hp) (β' : HO) (u6 u11 u12 : Option V), σ = [some (.ref b), some (.int n), some (.ref p), some (.ref o), some (.ref L), some (.ref U), u6, some (.str lb), some (.ref pt), some (.ref za.1), some (.str sv), u11, u12, none, none] ∧ H' = upd G' b β' ∧ Bag K G0 G' b β' ∧ Same GB G' ∧
                    GoodN sv ∧ (za.2.sv = sv ∨ sv ∉ (l.map (·.2)).map (·.sv))) ?_ ?_
                  · walk_at "ss"
                    refine k_tru ?_
                    walk_at "ss"
                    have hDu := up_get (β := β8) hbB.nb hDB
                    refine ⟨!_, .inl ⟨_, SqL.of hDu, rfl⟩, ?_⟩
                    refine k_b (fun hf => ?_) (fun hf => ?_)
                    · walk_at "ss"
                      refine k_draw hbB (by decide) (by decide) fun d βB d0 d1 hbB2 => ?_
                      walk_at "ss"
                      refine k_d (fun hd => ?_) (fun hd => ?_)
                      · walk_at "ss"
                        refine k_of hbB2 (SqL.of hDB) ?_ ?_ fun v βB3 hv hbB3 => ?_
                        · cases hq : (List.map V.str _ : List V) with
                          | nil => rw [hq] at hf; cases hf
                          | cons => simp
                        · rw [List.length_map]
                          have := List.length_filter_le (fun z => decide (z ∉ (l.map (·.2)).map (·.sv))) hs
                          omega
                        · obtain ⟨sv, hsv, rfl⟩ := List.mem_map.mp hv
                          obtain ⟨hs1, hs2⟩ := List.mem_filter.mp hsv
                          walk_at "ss"
                          exact ⟨sv, GB, βB3, _, _, _, rfl, rfl, hbB3, Same.refl _, gh sv hs1, .inr (of_decide_eq_true hs2)⟩
                      · walk_at "ss"
                        exact ⟨za.2.sv, GB, βB, _, _, _, rfl, rfl, hbB2, Same.refl _, (hgd za hzl).sv, .inl rfl⟩
                    · walk_at "ss"
                      exact ⟨za.2.sv, GB, β8, _, _, _, rfl, rfl, hbB, Same.refl _, (hgd za hzl).sv, .inl rfl⟩
                  · rintro σ H' ⟨sv, GC, βC, v6, v11, v12, rfl, rfl, hbC, smC, hsg, hsd⟩
                    have hzC := hzrB.up smC
                    have hzCu := up_get (β := βC) hbC.nb hzC
                    have hoC := smC _ _ (smB _ _ hoA)
                    have smAC := smAB.trans smC
                    have fin : ∀ (sf : Bool) (βD : HO), Bag K G0 GC b βD → ∀ R : V → List V → Hp → Prop, (∀ (cu : Option Str) (G' : Hp) (β' : HO), Bag K G0 G' b β' → Same GC G' → (∀ c, cu = some c → GoodN c) → R (.str za.2.nm) [.bl sf, vO cu] (upd G' b β')) →
                      rIx K (.ref za.1) (.int 0) (upd GC b βD) fun x H1 => tCons (tVar 12) (tCons (tCall (spOf K) [] E0 (tCons (tVar 0) (tCons (tOp rAddU (tVar 3) (tLst (tCons (tC V.non) (tCons (tC V.non) tNil)))) tNil))) tNil)
                        [some (.ref b), some (.int n), some (.ref p), some (.ref o), some (.ref L), some (.ref U), v6, some (.str lb), some (.ref pt), some (.ref za.1), some (.str sv), v11, some (.bl sf), none, none] H1 fun xs H2 => R x xs H2 := by
                      intro sf βD hbD R kq
                      have hzDu := up_get (β := βD) hbD.nb hzC
                      walk_at "ss"
                      intro tn nt_tn
                      rw [upd_swap (up_none nt_tn).2]
                      generalize eG_tn : upd _ tn _ = GE
                      obtain ⟨nbE, smE, htn, nt_tn, nG_tn⟩ := new_facts hbD.nb nt_tn eG_tn
                      clear eG_tn
                      refine k_addL (up_get nbE (smE _ _ hoC)) (up_get nbE htn) (by rw [List.length_map]; show _ + 2 ≤ _; omega) ?_
                      intro to nt_to
                      rw [upd_swap (up_none nt_to).2]
                      generalize eG_to : upd _ to _ = GF
                      obtain ⟨nbF, smF, hto, nt_to, nG_to⟩ := new_facts nbE nt_to eG_to
                      clear eG_to
                      have hbF := hbD.up (smE.trans smF) nbF
                      walk_at "ss"
                      refine k_of hbF (SqL.of hto) (by simp) (by rw [List.length_append, List.length_map]; show _ + 2 < _; omega) fun v βF hv hbG => ?_
                      obtain ⟨cu, rfl, hcu⟩ : ∃ cu : Option Str, v = vO cu ∧ ∀ c, cu = some c → GoodN c := by
                        rcases List.mem_append.mp hv with hv | hv
                        · obtain ⟨c, hc, rfl⟩ := List.mem_map.mp hv
                          exact ⟨some c, rfl, fun d e => by cases e; exact go c hc⟩
                        · refine ⟨none, ?_, fun c e => by cases e⟩
                          show v = V.non
                          simpa using hv
                      exact kq cu GF βF hbG (smE.trans smF) hcu
                    have fitS : ∀ (sf : Bool) (cu : Option Str), (sf = true → za.2.sv = sv) → (∀ c, cu = some c → GoodN c) → fitR (l.map (·.2)) ⟨lb, sv, some za.2.nm, sf, cu⟩ = true ∧ GoodR ⟨lb, sv, some za.2.nm, sf, cu⟩ := fun sf cu hsf hcu => by
                      refine ⟨fit_of hnd (List.mem_map_of_mem hzl) hzm hnew rfl ?_, ⟨hlb, hsg, (fun e he => by cases he; exact (hgd za hzl).nm), hcu⟩⟩
                      by_cases hss : za.2.sv = sv
                      · exact .inl hss
                      · refine .inr ⟨?_, hsd.resolve_left hss⟩
                        cases sf with
                        | false => rfl
                        | true => exact absurd (hsf rfl) hss
                    walk_at "ss"
                    refine k_eq rfl ?_
                    rw [show decide (V.str sv = V.str za.2.sv) = decide (sv = za.2.sv) by simp]
                    refine ⟨_, rfl, ?_⟩
                    refine k_d (fun hss => ?_) (fun hss => ?_)
                    · walk_at "ss"
                      refine k_draw hbC (by decide) (by decide) fun d βD d0 d1 hbD => ?_
                      walk_at "ss"
                      refine fin (decide (d = 0)) βD hbD _ fun cu G' β' h1 h2 h3 => ?_
                      obtain ⟨h4, h5⟩ := fitS (decide (d = 0)) cu (fun _ => hss.symm) h3
                      refine ⟨small_size (show 5 ≤ 1000000 by decide), ?_⟩
                      intro pa nt_pa
                      rw [upd_swap (up_none nt_pa).2]
                      generalize eG_pa : upd _ pa _ = GH
                      obtain ⟨nbH, smH, hpa, nt_pa, nG_pa⟩ := new_facts h1.nb nt_pa eG_pa
                      clear eG_pa
                      exact ⟨⟨lb, sv, some za.2.nm, decide (d = 0), cu⟩, pa, GH, β', _, _, _, _, _, rfl, rfl, h1.up smH nbH, (smAC.trans h2).trans smH, hpa, h4, rfl, h5, fun h => absurd h (by omega)⟩
                    · clear hzCu
                      walk_at "ss"
                      refine fin false βC hbC _ fun cu G' β' h1 h2 h3 => ?_
                      obtain ⟨h4, h5⟩ := fitS false cu (fun h => by cases h) h3
                      refine ⟨small_size (show 5 ≤ 1000000 by decide), ?_⟩
                      intro pa nt_pa
                      rw [upd_swap (up_none nt_pa).2]
                      generalize eG_pa : upd _ pa _ = GH
                      obtain ⟨nbH, smH, hpa, nt_pa, nG_pa⟩ := new_facts h1.nb nt_pa eG_pa
                      clear eG_pa
                      exact ⟨⟨lb, sv, some za.2.nm, false, cu⟩, pa, GH, β', _, _, _, _, _, rfl, rfl, h1.up smH nbH, (smAC.trans h2).trans smH, hpa, h4, rfl, h5, fun h => absurd h (by omega)⟩
          · walk_at "ss"
            have hi0 : i = 0 := by omega
            have hl0 : l = [] := List.length_eq_zero_iff.mp (by omega)
            subst hl0
            refine ⟨⟨lb, h0, none, false, none⟩, pt, G8, β7, _, _, _, _, _, rfl, rfl, hb8, Same.refl _, hpt, rfl, rfl, ⟨hlb, gh h0 hh0, (fun e h => by cases h), (fun e h => by cases h)⟩, fun _ => rfl⟩
        · rintro σ H' ⟨r, pa, G9, β9, v6, v9, v10, v11, v12, rfl, rfl, hb9, sm9, hrow, hfit, hrn, hgr, hr0⟩
          have hR9 := hR8.up sm9
          have hU9 := sm9 _ _ hU8
          have hnm := (fit_new hfit).1
          walk_at "ss"
          refine k_bm ?_
          walk_at "ss"
          refine ⟨.inl ⟨rfl, _, SqL.of (up_get hb9.nb hR9.at_)⟩, ?_⟩
          walk_at "ss"
          refine k_app (up_get hb9.nb hR9.at_) (by rw [List.length_map]; omega) ?_
          have nLb : L ≠ b := nt_L
          rw [upd_swap nLb]
          have npaL : pa ≠ L := ne_of hrow hR9.at_ (by intro q; cases q)
          have hrowX : RowAt (upd G9 L (.lst ((l.map fun z => V.ref z.1) ++ [.ref pa]))) pa r := (upd_ne npaL).trans hrow
          have hUX : upd G9 L (.lst ((l.map fun z => V.ref z.1) ++ [.ref pa])) U = some (.lst (((l.map (·.2)).map (·.sv)).map V.str)) := (upd_ne nUL).trans hU9
          have nbX : upd G9 L (.lst ((l.map fun z => V.ref z.1) ++ [.ref pa])) b = none := by rw [upd_ne (Ne.symm nLb)]; exact hb9.nb
          walk_at "ss"
          refine k_bm ?_
          walk_at "ss"
          refine ⟨.inl ⟨rfl, _, SqL.of (up_get nbX hUX)⟩, ?_⟩
          have hrowXu := up_get (β := β9) nbX hrowX
          walk_at "ss"
          refine k_app (up_get nbX hUX) (by simp only [List.length_map]; omega) ?_
          rw [upd_swap nt_U]
          have sG9 : Same G G9 := sm08.trans sm9
          refine ⟨l ++ [(pa, r)], _, β9, _, _, _, _, _, _, _, rfl, rfl, (hb9.up0 (same_put (same_put hb9.sm nL0) nU0) (by rw [upd_ne (Ne.symm nt_U)]; exact nbX)), same_put (same_put sG9 nLG) nUG, ⟨?_, fun z hz => ?_⟩, ?_, by simp [hlen], ?_, ?_, fun z hz => ?_, fun _ => ?_⟩
          · rw [upd_ne (Ne.symm nUL), upd_same, List.map_append]
            rfl
          · have key : RowAt G9 z.1 z.2 := by
              rcases List.mem_append.mp hz with hz | hz
              · exact hR9.rows z hz
              · rw [List.mem_singleton.mp hz]; exact hrow
            exact (upd_ne (ne_of key hU9 (by intro q; cases q))).trans ((upd_ne (ne_of key hR9.at_ (by intro q; cases q))).trans key)
          · rw [upd_same]
            simp
          · rw [List.map_append]
            exact misfit_app hmf hfit
          · rw [List.map_append, List.map_append, List.nodup_append]
            refine ⟨hnd, by simp, fun a ha c hc q => ?_⟩
            have hc : c = r.nm := by simpa using hc
            rw [hc] at q
            exact hnm (q ▸ ha)
          · rcases List.mem_append.mp hz with hz | hz
            · exact hgd z hz
            · rw [List.mem_singleton.mp hz]; exact hgr
          · by_cases h0 : i = 0
            · exact ⟨(pa, r), List.mem_append_right _ (List.mem_singleton.mpr rfl), hr0 h0⟩
            · obtain ⟨z, hz, hm⟩ := hme (by omega)
              exact ⟨z, List.mem_append_left _ hz, hm⟩
    · rintro σ H' ⟨l, G4, β4, u6, u7, u8, u9, u10, u11, u12, rfl, rfl, hb4, sm4, hR4, hU4, hlen, hmf, hnd, hgd, hme⟩
      walk_at "ss"
      exact k L l G4 β4 sm4 hb4 hR4 (by omega) hmf hgd
end

section
variable {w : World} {K : PySem.W.Frag} {mg : Str → Option Value} {base : Heap}
/-! ### places and trees made -/
theorem off_bag {G : Hp} {b a : Addr} {β o : HO} (n : β ≠ o) (h : upd G b β a = some o) : G a = some o := by
  by_cases e : a = b
  · subst e
    rw [upd_same] at h
    exact (n (Option.some.inj h)).elim
  · rw [upd_ne e] at h
    exact h
theorem Bag.noS {G0 G : Hp} {b : Addr} {β : HO} (h : Bag K G0 G b β) (z : Str) (r : List V) : β ≠ .lst (.str z :: r) := by
  obtain ⟨l, ns, i, rr, s, c, rfl, _⟩ := h.ex
  intro z
  cases z
theorem Bag.noT {G0 G : Hp} {b : Addr} {β : HO} (h : Bag K G0 G b β) (r : List V) : β ≠ .tup r := by
  obtain ⟨l, ns, i, rr, s, c, rfl, _⟩ := h.ex
  intro z
  cases z
theorem Bag.noO {G0 G : Hp} {b : Addr} {β : HO} (h : Bag K G0 G b β) (C dx : Addr) (fs : List (Str × V)) : β ≠ .ins C dx fs := by
  obtain ⟨l, ns, i, rr, s, c, rfl, _⟩ := h.ex
  intro z
  cases z
theorem k_make {C : Addr} {sp : Sp} {dvs : List V} {E : XK} {t : TA} {σ : L2.St} {H : Hp} {Q : VK} (h : t σ H fun vs H1 => ∀ x dx, H1 x = none → H1 dx = none → dx ≠ x →
  sp (.ref x :: (vs ++ dvs)) (upd (upd H1 dx (.own x)) x (.ins C dx [])) (fun v H2 => v = .non ∧ Q (.ref x) H2) E) : tMake C sp dvs E t σ H Q := h
theorem k_makeK {C : Addr} {n m : Nat} {sp : Sp} {gV : List V → List V → List V} {E : XK} {t tk : TA} {σ : L2.St} {H : Hp} {Q : VK} (h : t σ H fun vs H1 => tk σ H1 fun zs H2 => vs.length = n ∧ zs.length = m ∧ ∀ x dx, H2 x = none → H2 dx = none → dx ≠ x →
  sp (gV (.ref x :: vs) zs) (upd (upd H2 dx (.own x)) x (.ins C dx [])) (fun v H3 => v = .non ∧ Q (.ref x) H3) E) : L2.tMakeK C n m sp gV E t tk σ H Q := h
theorem same_made {x dx : Addr} {H : Hp} {C : Addr} {fs : List (Str × V)} (hx : H x = none) (hd : H dx = none) (ne : dx ≠ x) : Same H (upd (upd H dx (.own x)) x (.ins C dx fs)) := fun b o h => by
  rw [upd_ne (ne_of_none h hx), upd_ne (ne_of_none h hd)]
  exact h
def PlV (T : Tx K mg) (H : Hp) (a : Addr) (v0 v1 v2 : V) (me : Bool) (v4 : V) : Prop := ∃ dx : Addr, H a = some (.ins T.C_Place dx (FL nP [v0, v1, v2, .bl me, v4]))
def spPlace (T : Tx K mg) : Sp := fun vs H Q E => ∃ (G0 G : Hp) (b p : Addr) (β : HO) (v0 v1 v2 v4 : V) (me : Bool), vs = [.ref b, .ref p] ∧ H = upd G b β ∧ Bag K G0 G b β ∧ G p = some (.tup [v0, v1, v2, .bl me, v4]) ∧ Gw K G v0 ∧ Gw K G v1 ∧ Gw K G v2 ∧ Gw K G v4 ∧
  (∀ e, plBad v0 v1 v2 v4 = some e → ∀ (G' : Hp) (β' : HO), Same G G' → Bag K G0 G' b β' → Goes T (upd G' b β') E e) ∧
  (plBad v0 v1 v2 v4 = none → ∀ (a : Addr) (G' : Hp) (β' : HO), Same G G' → Bag K G0 G' b β' → PlV T G' a v0 v1 v2 me v4 → Q (.ref a) (upd G' b β'))
theorem ok_place (T : Tx K mg) : FnOk P w K mg base (L2.CX P w) 5 T.a_place T.fd_place P_place (spPlace T) := by
  refine T.F_place.okX sc_place (fun vs H Q E h => ?_) (fun cdv A outer s H vs Q E hr h => ?_)
  · obtain ⟨G0, G, b, p, β, v0, v1, v2, v4, me, rfl, _⟩ := h
    rfl
  · obtain ⟨G0, G, b, p, β, v0, v1, v2, v4, me, rfl, rfl, hb, hp, g0, g1, g2, g4, kb, k⟩ := h
    have nd := sc_place.nd
    obtain ⟨ds2, dvp2, bsp2⟩ := bindP2 T
    obtain ⟨ds3, dvp3, bsp3⟩ := bindP3 T
    obtain ⟨i3, m3, kbp3⟩ := kbindP T
    obtain ⟨i0, m0, kbp0⟩ := kbindP0 T
    refine ⟨_, (pss_cons (ks_setL (i := 2) nd l_place_law_pick (pe_call (ok_draw T) (hr.mono (by first | decide | omega)) g_place_law_draw T.m_draw T.k_draw T.b_draw .nil pass0 (pa_cons (kv (i := 0) v_place_law_bag_here) (pa_cons pe_int pa_nil))))
      (pss_cons (ps_if (pt_cmpR op_eq (kv (i := 2) v_place_law_pick) pe_int (nomark _)) (pss_one (ps_ret (pe_makeK0 T.mk_Place (ok_Place_init T) (hr.mono (by first | decide | omega)) g_place_Place T.m_Place kbp0 (passes_call (takes_of rfl rfl rfl rfl) (fun _ _ _ _ h => h)) (pk_cons (pe_ix (kix K) (kv (i := 1) v_place_law_row_here) pe_int (fun _ _ => rfl)) (pk_cons (pe_ix (kix K) (kv (i := 1) v_place_law_row_here) pe_int (fun _ _ => rfl)) (pk_cons (pe_ix (kix K) (kv (i := 1) v_place_law_row_here) pe_int (fun _ _ => rfl)) (pk_cons (pe_ix (kix K) (kv (i := 1) v_place_law_row_here) pe_int (fun _ _ => rfl)) (pk_cons (pe_ix (kix K) (kv (i := 1) v_place_law_row_here) pe_int (fun _ _ => rfl)) pk_nil)))))))) pss_nil)
      (pss_cons (ps_if (PW.pt (pw_and (pt_cmpR op_eq (kv (i := 2) v_place_law_pick) pe_int (nomark _)) (pw_and (pt_not (kpt_truth K (pe_ix (kix K) (kv (i := 1) v_place_law_row_here) pe_int (fun _ _ => rfl)))) (pw_and1 (pt_cmpR op_isN (pe_ix (kix K) (kv (i := 1) v_place_law_row_here) pe_int (fun _ _ => rfl)) pe_non (nomark _)))))) (pss_one (ps_ret (pe_ifExp (pt_cmpR op_isN (pe_ix (kix K) (kv (i := 1) v_place_law_row_here) pe_int (fun _ _ => rfl)) pe_non (nomark _)) (pe_make T.mk_Place (ok_Place_init T) (hr.mono (by first | decide | omega)) g_place_Place T.m_Place bsp2 dvp2 (passes_call (takes_of rfl rfl rfl rfl) (fun _ _ _ _ h => h)) (pa_cons (pe_ix (kix K) (kv (i := 1) v_place_law_row_here) pe_int (fun _ _ => rfl)) (pa_cons (pe_ix (kix K) (kv (i := 1) v_place_law_row_here) pe_int (fun _ _ => rfl)) pa_nil))) (pe_make T.mk_Place (ok_Place_init T) (hr.mono (by first | decide | omega)) g_place_Place T.m_Place bsp3 dvp3 (passes_call (takes_of rfl rfl rfl rfl) (fun _ _ _ _ h => h)) (pa_cons (pe_ix (kix K) (kv (i := 1) v_place_law_row_here) pe_int (fun _ _ => rfl)) (pa_cons (pe_ix (kix K) (kv (i := 1) v_place_law_row_here) pe_int (fun _ _ => rfl)) (pa_cons (pe_ix (kix K) (kv (i := 1) v_place_law_row_here) pe_int (fun _ _ => rfl)) pa_nil))))))) pss_nil)
      (pss_one (ps_ret (pe_makeK T.mk_Place (ok_Place_init T) (hr.mono (by first | decide | omega)) g_place_Place T.m_Place kbp3 (passes_call (takes_of rfl rfl rfl rfl) (fun _ _ _ _ h => h)) (pa_cons (pe_ix (kix K) (kv (i := 1) v_place_law_row_here) pe_int (fun _ _ => rfl)) (pa_cons (pe_ix (kix K) (kv (i := 1) v_place_law_row_here) pe_int (fun _ _ => rfl)) (pa_cons (pe_ix (kix K) (kv (i := 1) v_place_law_row_here) pe_int (fun _ _ => rfl)) pa_nil))) (pk_cons (pe_ix (kix K) (kv (i := 1) v_place_law_row_here) pe_int (fun _ _ => rfl)) (pk_cons (pe_ix (kix K) (kv (i := 1) v_place_law_row_here) pe_int (fun _ _ => rfl)) pk_nil)))))))), ?_⟩
    walk_at "ss"
    refine k_draw hb (by decide) (by decide) fun d β1 d0 d1 hb1 => ?_
    have hpu := up_get (β := β1) hb1.nb hp
    have fin : ∀ x dx, upd G b β1 x = none → upd G b β1 dx = none → dx ≠ x → spPlaceI T [.ref x, v0, v1, v2, .bl me, v4] (upd (upd (upd G b β1) dx (.own x)) x (.ins T.C_Place dx [])) (fun u H3 => u = .non ∧ Q (.ref x) H3) E := fun x dx nx ndx ne => by
      have sM := same_made (C := T.C_Place) (fs := []) nx ndx ne
      have sU := (up_same (β := β1) hb1.nb).trans sM
      refine ⟨x, dx, v0, v1, v2, .bl me, v4, rfl, upd_same, g0.up sU, g1.up sU, g2.up sU, g4.up sU, fun e he => (kb e he G β1 (Same.refl _) hb1).up sM, fun hn H' sb hx => ⟨rfl, ?_⟩⟩
      have s := SameBut.made nx ndx ne sb
      obtain ⟨G', nb', s', rfl⟩ := split_up hb1.nb s
      have hb' := hb1.up s' nb'
      exact k hn x G' β1 s' hb' ⟨dx, off_bag (hb'.noO _ _ _) hx⟩
    walk_at "ss"
    refine k_d (fun _ => ?_) (fun _ => ?_)
    · walk_at "ss"
      refine k_makeK ?_
      walk_at "ss"
      exact ⟨rfl, rfl, fin⟩
    · have last : L2.tMakeK T.C_Place 3 [("memory" : Str), "customer"].length (spPlaceI T) (fun vs zs => vs ++ zs) E
          (tCons (tOp (rIx K) (tVar 1) (tC (V.int 0))) (tCons (tOp (rIx K) (tVar 1) (tC (V.int 1))) (tCons (tOp (rIx K) (tVar 1) (tC (V.int 2))) tNil)))
          (tCons (tOp (rIx K) (tVar 1) (tC (V.int 3))) (tCons (tOp (rIx K) (tVar 1) (tC (V.int 4))) tNil)) [some (.ref b), some (.ref p), some (.int d)] (upd G b β1) Q := by
        refine k_makeK ?_
        walk_at "ss"
        exact ⟨rfl, rfl, fin⟩
      walk_at "ss"
      refine k_d (fun _ => ?_) (fun _ => ?_)
      · walk_at "ss"
        refine k_tru ?_
        walk_at "ss"
        refine ⟨me, rfl, ?_⟩
        cases me with
        | true =>
          refine k_f ?_
          walk_at "ss"
          exact last
        | false =>
          refine k_t ?_
          walk_at "ss"
          refine ⟨rfl, ?_⟩
          refine ⟨_, rfl, ?_⟩
          refine k_d (fun h4 => ?_) (fun h4 => ?_)
          · subst h4
            walk_at "ss"
            refine ⟨rfl, ?_⟩
            refine ⟨_, rfl, ?_⟩
            refine k_d (fun h2 => ?_) (fun h2 => ?_)
            · subst h2
              refine k_make ?_
              walk_at "ss"
              exact fin
            · refine k_make ?_
              walk_at "ss"
              exact fin
          · walk_at "ss"
            exact last
      · walk_at "ss"
        exact last
def spRow (T : Tx K mg) : Sp := fun vs H Q _ => ∃ (a : Addr) (v0 v1 v2 v4 : V) (me : Bool), vs = [.ref a] ∧ PlV T H a v0 v1 v2 me v4 ∧ ∀ t, H t = none → Q (.ref t) (upd H t (.tup [v0, v1, v2, .bl me, v4]))
theorem ok_row (T : Tx K mg) : FnOk P w K mg base CX0 1 T.a_row T.fd_row P_row (spRow T) := by
  refine T.F_row.ok sc_row (fun vs H Q E h => ?_) (fun cdv A outer s H vs Q E hr h => ?_)
  · obtain ⟨a, v0, v1, v2, v4, me, rfl, _⟩ := h
    rfl
  · obtain ⟨a, v0, v1, v2, v4, me, rfl, ⟨dx, hP⟩, k⟩ := h
    have nd := sc_row.nd
    refine ⟨_, (pss_one (ps_ret (pe_tup (pa_cons (kpe_fld K (kv (i := 0) v_row_law_place_here)) (pa_cons (kpe_fld K (kv (i := 0) v_row_law_place_here)) (pa_cons (kpe_fld K (kv (i := 0) v_row_law_place_here)) (pa_cons (kpe_fld K (kv (i := 0) v_row_law_place_here)) (pa_cons (kpe_fld K (kv (i := 0) v_row_law_place_here)) pa_nil)))))))), ?_⟩
    walk_at "ss"
    refine k_fldAt hP T.cl_Place T.no_Place_name (i := 0) (by decide +kernel) rfl ?_
    walk_at "ss"
    refine k_fldAt hP T.cl_Place T.no_Place_server (i := 1) (by decide +kernel) rfl ?_
    walk_at "ss"
    refine k_fldAt hP T.cl_Place T.no_Place_elder (i := 2) (by decide +kernel) rfl ?_
    walk_at "ss"
    refine k_fldAt hP T.cl_Place T.no_Place_memory (i := 3) (by decide +kernel) rfl ?_
    walk_at "ss"
    refine k_fldAt hP T.cl_Place T.no_Place_customer (i := 4) (by decide +kernel) rfl ?_
    walk_at "ss"
    exact k
end

section
variable {w : World} {K : PySem.W.Frag} {mg : Str → Option Value} {base : Heap}
/-! ### trees made -/
def tIdx (K : PySem.W.Frag) : Nat → Nat → TA
  | _, 0 => tNil
  | i, n + 1 => tCons (tOp (rIx K) (tVar 1) (tC (V.int (i : Nat)))) (tIdx K (i + 1) n)
theorem k_idx {xs : List V} {lp : Addr} {σ : L2.St} {H : Hp} : ∀ (n i : Nat) {Q : List V → Hp → Prop}, σ[1]? = some (some (.ref lp)) → SqL K H lp xs → (xs.drop i).length = n → Q (xs.drop i) H → tIdx K i n σ H Q
  | 0, i, Q, _, _, h, q => by
    rw [List.length_eq_zero_iff.mp h] at q
    exact q
  | n + 1, i, Q, hσ, hs, h, q => by
    have hi : i < xs.length := by rw [List.length_drop] at h; omega
    show tCons _ _ σ H Q
    refine k_cons ?_
    refine k_op ?_
    refine k_var hσ ?_
    refine k_c ?_
    refine k_ixL hs (v := xs[i]) (atI_nat (List.getElem?_eq_getElem hi)) ?_
    refine k_idx n (i + 1) hσ hs (by rw [List.length_drop] at h ⊢; omega) ?_
    rw [List.drop_eq_getElem_cons hi] at q
    exact q
def spTree (T : Tx K mg) : Sp := fun vs H Q E => ∃ (rv : V) (lp : Addr) (xs : List V) (isR : Bool) (os : List (Option PlRow)), vs = [rv, .ref lp] ∧ H lp = some (.lst xs) ∧ IsI K T.C_Rule H rv isR ∧ xs.length = os.length ∧ (xs.length ≤ 10 ∨ xs.length = 24 ∨ xs.length = 25) ∧
  (∀ (i : Nat) x o, xs[i]? = some x → os[i]? = some o → ItemAt T H x o) ∧ (∀ e, treeBad rv isR os = some e → Goes T H E e) ∧ (treeBad rv isR os = none → ∀ (t : Addr) (H' : Hp), Same H H' → TreeAt T H' t xs → Q (.ref t) H')
theorem ok_tree (T : Tx K mg) : FnOk P w K mg base (L2.CX P w) 6 T.a_tree T.fd_tree P_tree (spTree T) := by
  refine T.F_tree.okX sc_tree (fun vs H Q E h => ?_) (fun cdv A outer s H vs Q E hr h => ?_)
  · obtain ⟨rv, lp, xs, isR, os, rfl, _⟩ := h
    rfl
  · obtain ⟨rv, lp, xs, isR, os, rfl, hl, hR, hlen, h25, hit, kb, k⟩ := h
    have nd := sc_tree.nd
    refine ⟨_, (pss_cons (ps_if (pt_cmpR op_lt (kcB b_len (by decide) (by decide) (kc_len K) g_tree_len T.n_len (pa_cons (kv (i := 1) v_tree_law_p) pa_nil)) pe_int (nomark _)) (pss_one (ps_ret (pe_ifExp (kpt_truth K (kv (i := 1) v_tree_law_p)) (StX.pe_makeR T.mk_Tree (ok_Tree_init T) (hr.mono (by first | decide | omega)) g_tree_Tree T.m_Tree (passes_call (takes_of rfl rfl rfl rfl) (fun _ _ _ _ h => h)) (pa_cons (kv (i := 0) v_tree_law_rule) (pa_cons (pe_ix (kix K) (kv (i := 1) v_tree_law_p) pe_int (fun _ _ => rfl)) pa_nil))) (StX.pe_makeR T.mk_Tree (ok_Tree_init T) (hr.mono (by first | decide | omega)) g_tree_Tree T.m_Tree (passes_call (takes_of rfl rfl rfl rfl) (fun _ _ _ _ h => h)) (pa_cons (kv (i := 0) v_tree_law_rule) pa_nil))))) pss_nil)
      (pss_cons (ps_if (pt_cmpR op_eq (kcB b_len (by decide) (by decide) (kc_len K) g_tree_len T.n_len (pa_cons (kv (i := 1) v_tree_law_p) pa_nil)) pe_int (nomark _)) (pss_one (ps_ret (StX.pe_makeR T.mk_Tree (ok_Tree_init T) (hr.mono (by first | decide | omega)) g_tree_Tree T.m_Tree (passes_call (takes_of rfl rfl rfl rfl) (fun _ _ _ _ h => h)) (pa_cons (kv (i := 0) v_tree_law_rule) (pa_cons (pe_ix (kix K) (kv (i := 1) v_tree_law_p) pe_int (fun _ _ => rfl)) (pa_cons (pe_ix (kix K) (kv (i := 1) v_tree_law_p) pe_int (fun _ _ => rfl)) pa_nil)))))) pss_nil)
      (pss_cons (ps_if (pt_cmpR op_eq (kcB b_len (by decide) (by decide) (kc_len K) g_tree_len T.n_len (pa_cons (kv (i := 1) v_tree_law_p) pa_nil)) pe_int (nomark _)) (pss_one (ps_ret (StX.pe_makeR T.mk_Tree (ok_Tree_init T) (hr.mono (by first | decide | omega)) g_tree_Tree T.m_Tree (passes_call (takes_of rfl rfl rfl rfl) (fun _ _ _ _ h => h)) (pa_cons (kv (i := 0) v_tree_law_rule) (pa_cons (pe_ix (kix K) (kv (i := 1) v_tree_law_p) pe_int (fun _ _ => rfl)) (pa_cons (pe_ix (kix K) (kv (i := 1) v_tree_law_p) pe_int (fun _ _ => rfl)) (pa_cons (pe_ix (kix K) (kv (i := 1) v_tree_law_p) pe_int (fun _ _ => rfl)) pa_nil))))))) pss_nil)
      (pss_cons (ps_if (pt_cmpR op_eq (kcB b_len (by decide) (by decide) (kc_len K) g_tree_len T.n_len (pa_cons (kv (i := 1) v_tree_law_p) pa_nil)) pe_int (nomark _)) (pss_one (ps_ret (StX.pe_makeR T.mk_Tree (ok_Tree_init T) (hr.mono (by first | decide | omega)) g_tree_Tree T.m_Tree (passes_call (takes_of rfl rfl rfl rfl) (fun _ _ _ _ h => h)) (pa_cons (kv (i := 0) v_tree_law_rule) (pa_cons (pe_ix (kix K) (kv (i := 1) v_tree_law_p) pe_int (fun _ _ => rfl)) (pa_cons (pe_ix (kix K) (kv (i := 1) v_tree_law_p) pe_int (fun _ _ => rfl)) (pa_cons (pe_ix (kix K) (kv (i := 1) v_tree_law_p) pe_int (fun _ _ => rfl)) (pa_cons (pe_ix (kix K) (kv (i := 1) v_tree_law_p) pe_int (fun _ _ => rfl)) pa_nil)))))))) pss_nil)
      (pss_cons (ps_if (pt_cmpR op_eq (kcB b_len (by decide) (by decide) (kc_len K) g_tree_len T.n_len (pa_cons (kv (i := 1) v_tree_law_p) pa_nil)) pe_int (nomark _)) (pss_one (ps_ret (StX.pe_makeR T.mk_Tree (ok_Tree_init T) (hr.mono (by first | decide | omega)) g_tree_Tree T.m_Tree (passes_call (takes_of rfl rfl rfl rfl) (fun _ _ _ _ h => h)) (pa_cons (kv (i := 0) v_tree_law_rule) (pa_cons (pe_ix (kix K) (kv (i := 1) v_tree_law_p) pe_int (fun _ _ => rfl)) (pa_cons (pe_ix (kix K) (kv (i := 1) v_tree_law_p) pe_int (fun _ _ => rfl)) (pa_cons (pe_ix (kix K) (kv (i := 1) v_tree_law_p) pe_int (fun _ _ => rfl)) (pa_cons (pe_ix (kix K) (kv (i := 1) v_tree_law_p) pe_int (fun _ _ => rfl)) (pa_cons (pe_ix (kix K) (kv (i := 1) v_tree_law_p) pe_int (fun _ _ => rfl)) pa_nil))))))))) pss_nil)
      (pss_cons (ps_if (pt_cmpR op_eq (kcB b_len (by decide) (by decide) (kc_len K) g_tree_len T.n_len (pa_cons (kv (i := 1) v_tree_law_p) pa_nil)) pe_int (nomark _)) (pss_one (ps_ret (StX.pe_makeR T.mk_Tree (ok_Tree_init T) (hr.mono (by first | decide | omega)) g_tree_Tree T.m_Tree (passes_call (takes_of rfl rfl rfl rfl) (fun _ _ _ _ h => h)) (pa_cons (kv (i := 0) v_tree_law_rule) (pa_cons (pe_ix (kix K) (kv (i := 1) v_tree_law_p) pe_int (fun _ _ => rfl)) (pa_cons (pe_ix (kix K) (kv (i := 1) v_tree_law_p) pe_int (fun _ _ => rfl)) (pa_cons (pe_ix (kix K) (kv (i := 1) v_tree_law_p) pe_int (fun _ _ => rfl)) (pa_cons (pe_ix (kix K) (kv (i := 1) v_tree_law_p) pe_int (fun _ _ => rfl)) (pa_cons (pe_ix (kix K) (kv (i := 1) v_tree_law_p) pe_int (fun _ _ => rfl)) (pa_cons (pe_ix (kix K) (kv (i := 1) v_tree_law_p) pe_int (fun _ _ => rfl)) pa_nil)))))))))) pss_nil)
      (pss_cons (ps_if (pt_cmpR op_eq (kcB b_len (by decide) (by decide) (kc_len K) g_tree_len T.n_len (pa_cons (kv (i := 1) v_tree_law_p) pa_nil)) pe_int (nomark _)) (pss_one (ps_ret (StX.pe_makeR T.mk_Tree (ok_Tree_init T) (hr.mono (by first | decide | omega)) g_tree_Tree T.m_Tree (passes_call (takes_of rfl rfl rfl rfl) (fun _ _ _ _ h => h)) (pa_cons (kv (i := 0) v_tree_law_rule) (pa_cons (pe_ix (kix K) (kv (i := 1) v_tree_law_p) pe_int (fun _ _ => rfl)) (pa_cons (pe_ix (kix K) (kv (i := 1) v_tree_law_p) pe_int (fun _ _ => rfl)) (pa_cons (pe_ix (kix K) (kv (i := 1) v_tree_law_p) pe_int (fun _ _ => rfl)) (pa_cons (pe_ix (kix K) (kv (i := 1) v_tree_law_p) pe_int (fun _ _ => rfl)) (pa_cons (pe_ix (kix K) (kv (i := 1) v_tree_law_p) pe_int (fun _ _ => rfl)) (pa_cons (pe_ix (kix K) (kv (i := 1) v_tree_law_p) pe_int (fun _ _ => rfl)) (pa_cons (pe_ix (kix K) (kv (i := 1) v_tree_law_p) pe_int (fun _ _ => rfl)) pa_nil))))))))))) pss_nil)
      (pss_cons (ps_if (pt_cmpR op_eq (kcB b_len (by decide) (by decide) (kc_len K) g_tree_len T.n_len (pa_cons (kv (i := 1) v_tree_law_p) pa_nil)) pe_int (nomark _)) (pss_one (ps_ret (StX.pe_makeR T.mk_Tree (ok_Tree_init T) (hr.mono (by first | decide | omega)) g_tree_Tree T.m_Tree (passes_call (takes_of rfl rfl rfl rfl) (fun _ _ _ _ h => h)) (pa_cons (kv (i := 0) v_tree_law_rule) (pa_cons (pe_ix (kix K) (kv (i := 1) v_tree_law_p) pe_int (fun _ _ => rfl)) (pa_cons (pe_ix (kix K) (kv (i := 1) v_tree_law_p) pe_int (fun _ _ => rfl)) (pa_cons (pe_ix (kix K) (kv (i := 1) v_tree_law_p) pe_int (fun _ _ => rfl)) (pa_cons (pe_ix (kix K) (kv (i := 1) v_tree_law_p) pe_int (fun _ _ => rfl)) (pa_cons (pe_ix (kix K) (kv (i := 1) v_tree_law_p) pe_int (fun _ _ => rfl)) (pa_cons (pe_ix (kix K) (kv (i := 1) v_tree_law_p) pe_int (fun _ _ => rfl)) (pa_cons (pe_ix (kix K) (kv (i := 1) v_tree_law_p) pe_int (fun _ _ => rfl)) (pa_cons (pe_ix (kix K) (kv (i := 1) v_tree_law_p) pe_int (fun _ _ => rfl)) pa_nil)))))))))))) pss_nil)
      (pss_cons (ps_if (pt_cmpR op_eq (kcB b_len (by decide) (by decide) (kc_len K) g_tree_len T.n_len (pa_cons (kv (i := 1) v_tree_law_p) pa_nil)) pe_int (nomark _)) (pss_one (ps_ret (StX.pe_makeR T.mk_Tree (ok_Tree_init T) (hr.mono (by first | decide | omega)) g_tree_Tree T.m_Tree (passes_call (takes_of rfl rfl rfl rfl) (fun _ _ _ _ h => h)) (pa_cons (kv (i := 0) v_tree_law_rule) (pa_cons (pe_ix (kix K) (kv (i := 1) v_tree_law_p) pe_int (fun _ _ => rfl)) (pa_cons (pe_ix (kix K) (kv (i := 1) v_tree_law_p) pe_int (fun _ _ => rfl)) (pa_cons (pe_ix (kix K) (kv (i := 1) v_tree_law_p) pe_int (fun _ _ => rfl)) (pa_cons (pe_ix (kix K) (kv (i := 1) v_tree_law_p) pe_int (fun _ _ => rfl)) (pa_cons (pe_ix (kix K) (kv (i := 1) v_tree_law_p) pe_int (fun _ _ => rfl)) (pa_cons (pe_ix (kix K) (kv (i := 1) v_tree_law_p) pe_int (fun _ _ => rfl)) (pa_cons (pe_ix (kix K) (kv (i := 1) v_tree_law_p) pe_int (fun _ _ => rfl)) (pa_cons (pe_ix (kix K) (kv (i := 1) v_tree_law_p) pe_int (fun _ _ => rfl)) (pa_cons (pe_ix (kix K) (kv (i := 1) v_tree_law_p) pe_int (fun _ _ => rfl)) pa_nil))))))))))))) pss_nil)
      (pss_cons (ps_if (pt_cmpR op_eq (kcB b_len (by decide) (by decide) (kc_len K) g_tree_len T.n_len (pa_cons (kv (i := 1) v_tree_law_p) pa_nil)) pe_int (nomark _)) (pss_one (ps_ret (StX.pe_makeR T.mk_Tree (ok_Tree_init T) (hr.mono (by first | decide | omega)) g_tree_Tree T.m_Tree (passes_call (takes_of rfl rfl rfl rfl) (fun _ _ _ _ h => h)) (pa_cons (kv (i := 0) v_tree_law_rule) (pa_cons (pe_ix (kix K) (kv (i := 1) v_tree_law_p) pe_int (fun _ _ => rfl)) (pa_cons (pe_ix (kix K) (kv (i := 1) v_tree_law_p) pe_int (fun _ _ => rfl)) (pa_cons (pe_ix (kix K) (kv (i := 1) v_tree_law_p) pe_int (fun _ _ => rfl)) (pa_cons (pe_ix (kix K) (kv (i := 1) v_tree_law_p) pe_int (fun _ _ => rfl)) (pa_cons (pe_ix (kix K) (kv (i := 1) v_tree_law_p) pe_int (fun _ _ => rfl)) (pa_cons (pe_ix (kix K) (kv (i := 1) v_tree_law_p) pe_int (fun _ _ => rfl)) (pa_cons (pe_ix (kix K) (kv (i := 1) v_tree_law_p) pe_int (fun _ _ => rfl)) (pa_cons (pe_ix (kix K) (kv (i := 1) v_tree_law_p) pe_int (fun _ _ => rfl)) (pa_cons (pe_ix (kix K) (kv (i := 1) v_tree_law_p) pe_int (fun _ _ => rfl)) (pa_cons (pe_ix (kix K) (kv (i := 1) v_tree_law_p) pe_int (fun _ _ => rfl)) (pa_cons (pe_ix (kix K) (kv (i := 1) v_tree_law_p) pe_int (fun _ _ => rfl)) (pa_cons (pe_ix (kix K) (kv (i := 1) v_tree_law_p) pe_int (fun _ _ => rfl)) (pa_cons (pe_ix (kix K) (kv (i := 1) v_tree_law_p) pe_int (fun _ _ => rfl)) (pa_cons (pe_ix (kix K) (kv (i := 1) v_tree_law_p) pe_int (fun _ _ => rfl)) (pa_cons (pe_ix (kix K) (kv (i := 1) v_tree_law_p) pe_int (fun _ _ => rfl)) (pa_cons (pe_ix (kix K) (kv (i := 1) v_tree_law_p) pe_int (fun _ _ => rfl)) (pa_cons (pe_ix (kix K) (kv (i := 1) v_tree_law_p) pe_int (fun _ _ => rfl)) (pa_cons (pe_ix (kix K) (kv (i := 1) v_tree_law_p) pe_int (fun _ _ => rfl)) (pa_cons (pe_ix (kix K) (kv (i := 1) v_tree_law_p) pe_int (fun _ _ => rfl)) (pa_cons (pe_ix (kix K) (kv (i := 1) v_tree_law_p) pe_int (fun _ _ => rfl)) (pa_cons (pe_ix (kix K) (kv (i := 1) v_tree_law_p) pe_int (fun _ _ => rfl)) (pa_cons (pe_ix (kix K) (kv (i := 1) v_tree_law_p) pe_int (fun _ _ => rfl)) (pa_cons (pe_ix (kix K) (kv (i := 1) v_tree_law_p) pe_int (fun _ _ => rfl)) (pa_cons (pe_ix (kix K) (kv (i := 1) v_tree_law_p) pe_int (fun _ _ => rfl)) pa_nil)))))))))))))))))))))))))))) pss_nil)
      (pss_cons (ps_if (pt_cmpR op_eq (kcB b_len (by decide) (by decide) (kc_len K) g_tree_len T.n_len (pa_cons (kv (i := 1) v_tree_law_p) pa_nil)) pe_int (nomark _)) (pss_one (ps_ret (StX.pe_makeR T.mk_Tree (ok_Tree_init T) (hr.mono (by first | decide | omega)) g_tree_Tree T.m_Tree (passes_call (takes_of rfl rfl rfl rfl) (fun _ _ _ _ h => h)) (pa_cons (kv (i := 0) v_tree_law_rule) (pa_cons (pe_ix (kix K) (kv (i := 1) v_tree_law_p) pe_int (fun _ _ => rfl)) (pa_cons (pe_ix (kix K) (kv (i := 1) v_tree_law_p) pe_int (fun _ _ => rfl)) (pa_cons (pe_ix (kix K) (kv (i := 1) v_tree_law_p) pe_int (fun _ _ => rfl)) (pa_cons (pe_ix (kix K) (kv (i := 1) v_tree_law_p) pe_int (fun _ _ => rfl)) (pa_cons (pe_ix (kix K) (kv (i := 1) v_tree_law_p) pe_int (fun _ _ => rfl)) (pa_cons (pe_ix (kix K) (kv (i := 1) v_tree_law_p) pe_int (fun _ _ => rfl)) (pa_cons (pe_ix (kix K) (kv (i := 1) v_tree_law_p) pe_int (fun _ _ => rfl)) (pa_cons (pe_ix (kix K) (kv (i := 1) v_tree_law_p) pe_int (fun _ _ => rfl)) (pa_cons (pe_ix (kix K) (kv (i := 1) v_tree_law_p) pe_int (fun _ _ => rfl)) (pa_cons (pe_ix (kix K) (kv (i := 1) v_tree_law_p) pe_int (fun _ _ => rfl)) (pa_cons (pe_ix (kix K) (kv (i := 1) v_tree_law_p) pe_int (fun _ _ => rfl)) (pa_cons (pe_ix (kix K) (kv (i := 1) v_tree_law_p) pe_int (fun _ _ => rfl)) (pa_cons (pe_ix (kix K) (kv (i := 1) v_tree_law_p) pe_int (fun _ _ => rfl)) (pa_cons (pe_ix (kix K) (kv (i := 1) v_tree_law_p) pe_int (fun _ _ => rfl)) (pa_cons (pe_ix (kix K) (kv (i := 1) v_tree_law_p) pe_int (fun _ _ => rfl)) (pa_cons (pe_ix (kix K) (kv (i := 1) v_tree_law_p) pe_int (fun _ _ => rfl)) (pa_cons (pe_ix (kix K) (kv (i := 1) v_tree_law_p) pe_int (fun _ _ => rfl)) (pa_cons (pe_ix (kix K) (kv (i := 1) v_tree_law_p) pe_int (fun _ _ => rfl)) (pa_cons (pe_ix (kix K) (kv (i := 1) v_tree_law_p) pe_int (fun _ _ => rfl)) (pa_cons (pe_ix (kix K) (kv (i := 1) v_tree_law_p) pe_int (fun _ _ => rfl)) (pa_cons (pe_ix (kix K) (kv (i := 1) v_tree_law_p) pe_int (fun _ _ => rfl)) (pa_cons (pe_ix (kix K) (kv (i := 1) v_tree_law_p) pe_int (fun _ _ => rfl)) (pa_cons (pe_ix (kix K) (kv (i := 1) v_tree_law_p) pe_int (fun _ _ => rfl)) (pa_cons (pe_ix (kix K) (kv (i := 1) v_tree_law_p) pe_int (fun _ _ => rfl)) (pa_cons (pe_ix (kix K) (kv (i := 1) v_tree_law_p) pe_int (fun _ _ => rfl)) pa_nil))))))))))))))))))))))))))))) pss_nil)
      (pss_one (ps_ret (StX.pe_makeR T.mk_Tree (ok_Tree_init T) (hr.mono (by first | decide | omega)) g_tree_Tree T.m_Tree (passes_call (takes_of rfl rfl rfl rfl) (fun _ _ _ _ h => h)) (pa_cons (kv (i := 0) v_tree_law_rule) (pa_cons (pe_ix (kix K) (kv (i := 1) v_tree_law_p) pe_int (fun _ _ => rfl)) (pa_cons (pe_ix (kix K) (kv (i := 1) v_tree_law_p) pe_int (fun _ _ => rfl)) (pa_cons (pe_ix (kix K) (kv (i := 1) v_tree_law_p) pe_int (fun _ _ => rfl)) (pa_cons (pe_ix (kix K) (kv (i := 1) v_tree_law_p) pe_int (fun _ _ => rfl)) (pa_cons (pe_ix (kix K) (kv (i := 1) v_tree_law_p) pe_int (fun _ _ => rfl)) (pa_cons (pe_ix (kix K) (kv (i := 1) v_tree_law_p) pe_int (fun _ _ => rfl)) (pa_cons (pe_ix (kix K) (kv (i := 1) v_tree_law_p) pe_int (fun _ _ => rfl)) (pa_cons (pe_ix (kix K) (kv (i := 1) v_tree_law_p) pe_int (fun _ _ => rfl)) (pa_cons (pe_ix (kix K) (kv (i := 1) v_tree_law_p) pe_int (fun _ _ => rfl)) (pa_cons (pe_ix (kix K) (kv (i := 1) v_tree_law_p) pe_int (fun _ _ => rfl)) pa_nil))))))))))))))))))))))))), ?_⟩
    have fin : ∀ n, xs.length = n → StX.tMakeR T.C_Tree (fun vs H Q E => ∃ ws rest, vs = ws ++ rest ∧ ws.length = [("self" : Str), ("rule" : Str)].length ∧ rest.length ≤ sizeLine ∧ ∀ p, H p = none → spTreeB T (ws ++ [V.ref p]) (upd H p (.tup rest)) Q E) E (tCons (tVar 0) (tIdx K 0 n)) [some rv, some (.ref lp)] H Q := by
      intro n hn
      show tCons _ _ _ _ _
      refine k_cons ?_
      refine k_var rfl ?_
      refine k_idx (xs := xs) n 0 rfl (SqL.of hl) (by rw [List.drop_zero]; exact hn) ?_
      rw [List.drop_zero]
      intro x dx nx ndx ne
      refine ⟨[.ref x, rv], xs, rfl, rfl, small_size (by omega), fun p np => ?_⟩
      have sM := same_made (C := T.C_Tree) (fs := []) nx ndx ne
      have sP := sM.trans (same_new (o := .tup xs) np)
      have npx : x ≠ p := ne_of_none upd_same np
      have back : ∀ {H'}, SameBut x (upd (upd (upd H dx (.own x)) x (.ins T.C_Tree dx [])) p (.tup xs)) H' → Same H H' := fun sb b o hb => sb _ _ (ne_of_none hb nx) (sP _ _ hb)
      refine ⟨x, dx, p, rv, isR, xs, os, rfl, (upd_ne npx).trans upd_same, upd_same, hR.up sP, hlen, by omega, fun i y o hy ho => (hit i y o hy ho).up sP, fun e he H' d sb hd => kb e he H' d (back sb) hd, fun hn H' sb ht => ⟨rfl, k hn x H' (back sb) ht⟩⟩
    walk_at "ss"
    refine k_d (fun h2 => ?_) (fun h2 => ?_)
    · walk_at "ss"
      refine k_tru ?_
      walk_at "ss"
      refine ⟨!xs.isEmpty, .inl ⟨_, SqL.of hl, rfl⟩, ?_⟩
      cases hx : xs with
      | nil => exact k_f (fin 0 (by rw [hx]; rfl))
      | cons y r =>
        have : xs.length = 1 := by rw [hx] at h2 ⊢; simp only [List.length_cons] at h2 ⊢; omega
        exact k_t (fin 1 this)
    walk_at "ss"
    refine k_d (fun h2 => ?_) (fun h2 => ?_)
    · exact fin 2 (by omega)
    walk_at "ss"
    refine k_d (fun h2 => ?_) (fun h2 => ?_)
    · exact fin 3 (by omega)
    walk_at "ss"
    refine k_d (fun h2 => ?_) (fun h2 => ?_)
    · exact fin 4 (by omega)
    walk_at "ss"
    refine k_d (fun h2 => ?_) (fun h2 => ?_)
    · exact fin 5 (by omega)
    walk_at "ss"
    refine k_d (fun h2 => ?_) (fun h2 => ?_)
    · exact fin 6 (by omega)
    walk_at "ss"
    refine k_d (fun h2 => ?_) (fun h2 => ?_)
    · exact fin 7 (by omega)
    walk_at "ss"
    refine k_d (fun h2 => ?_) (fun h2 => ?_)
    · exact fin 8 (by omega)
    walk_at "ss"
    refine k_d (fun h2 => ?_) (fun h2 => ?_)
    · exact fin 9 (by omega)
    walk_at "ss"
    refine k_d (fun h2 => ?_) (fun h2 => ?_)
    · exact fin 24 (by omega)
    walk_at "ss"
    refine k_d (fun h2 => ?_) (fun h2 => ?_)
    · exact fin 25 (by omega)
    exact fin 10 (by omega)
end

section
variable {w : World} {K : PySem.W.Frag} {mg : Str → Option Value} {base : Heap}
/-! ### like, through and through -/
inductive Sc : V → Prop where
  | int (i : Int) : Sc (.int i)
  | str (s : Str) : Sc (.str s)
  | bl (b : Bool) : Sc (.bl b)
  | non : Sc .non
def OwnX (T : Tx K mg) (H : Hp) (x : V) : Prop := ∃ a, x = .ref a ∧ ((∃ n, WinAt T H a n) ∨ ∃ r, PlaceAt T H a r)
theorem OwnX.up {T : Tx K mg} {H H' : Hp} {x : V} (h : OwnX T H x) (e : Same H H') : OwnX T H' x := by
  obtain ⟨a, rfl, ⟨n, h⟩ | ⟨r, h⟩⟩ := h
  · exact ⟨a, rfl, .inl ⟨n, h.up e⟩⟩
  · exact ⟨a, rfl, .inr ⟨r, h.up e⟩⟩
def Leaf (T : Tx K mg) (H : Hp) (x : V) : Prop := Sc x ∨ OwnX T H x
theorem Leaf.up {T : Tx K mg} {H H' : Hp} {x : V} (h : Leaf T H x) (e : Same H H') : Leaf T H' x := h.imp id fun h => h.up e
def Eqd (T : Tx K mg) (H : Hp) : Nat → V → V → Prop
  | 0, x, y => x = y ∧ Leaf T H x
  | d + 1, x, y => (x = y ∧ Leaf T H x) ∨ (∃ a ks, x = .ref a ∧ y = .ref a ∧ H a = some (.dK ks) ∧ OkD ks) ∨ ∃ a b xs ys, x = .ref a ∧ y = .ref b ∧ ((H a = some (.lst xs) ∧ H b = some (.lst ys)) ∨ (H a = some (.tup xs) ∧ H b = some (.tup ys))) ∧ xs.length = ys.length ∧ xs.length ≤ 50 ∧
      ∀ (i : Nat) u v, xs[i]? = some u → ys[i]? = some v → Eqd T H d u v
theorem Eqd.up {T : Tx K mg} {H H' : Hp} (e : Same H H') : ∀ {d : Nat} {x y : V}, Eqd T H d x y → Eqd T H' d x y
  | 0, _, _, h => ⟨h.1, h.2.up e⟩
  | d + 1, _, _, .inl h => .inl ⟨h.1, h.2.up e⟩
  | d + 1, _, _, .inr (.inl ⟨a, ks, e1, e2, h, k⟩) => .inr (.inl ⟨a, ks, e1, e2, e _ _ h, k⟩)
  | d + 1, _, _, .inr (.inr ⟨a, b, xs, ys, e1, e2, h, hl, hl2, k⟩) => .inr (.inr ⟨a, b, xs, ys, e1, e2, h.imp (fun h => ⟨e _ _ h.1, e _ _ h.2⟩) (fun h => ⟨e _ _ h.1, e _ _ h.2⟩), hl, hl2, fun i u v hu hv => (k i u v hu hv).up e⟩)
theorem Eqd.leaf {T : Tx K mg} {H : Hp} {x : V} (h : Leaf T H x) : ∀ d, Eqd T H d x x
  | 0 => ⟨rfl, h⟩
  | _ + 1 => .inl ⟨rfl, h⟩
theorem Eqd.sc {T : Tx K mg} {H : Hp} {x : V} (h : Sc x) (d : Nat) : Eqd T H d x x := .leaf (.inl h) d
theorem ScB.s {v : V} (h : ScB v) : Sc v := by
  cases h with
  | int i => exact .int i
  | str z h => exact .str z
  | bl b => exact .bl b
  | non => exact .non
theorem Gd.eqd {T : Tx K mg} {F : Addr → Prop} {H : Hp} : ∀ {d : Nat} {v : V}, Gd F H d v → Eqd T H d v v
  | 0, _, h => ⟨rfl, .inl h.s⟩
  | d + 1, _, .inl h => .inl ⟨rfl, .inl h.s⟩
  | d + 1, _, .inr (.inl ⟨a, xs, e1, _, h, hl, k⟩) => .inr (.inr ⟨a, a, xs, xs, e1, e1, h.imp (fun h => ⟨h, h⟩) (fun h => ⟨h, h⟩), rfl, hl, fun i u v hu hv => by
      rw [hu] at hv
      cases hv
      exact (k u (List.mem_of_getElem? hu)).eqd⟩)
  | d + 1, _, .inr (.inr ⟨a, ks, e1, _, h, k⟩) => .inr (.inl ⟨a, ks, e1, e1, h, k⟩)
theorem Eqd.succ {T : Tx K mg} {H : Hp} : ∀ {d : Nat} {x y : V}, Eqd T H d x y → Eqd T H (d + 1) x y
  | 0, _, _, h => .inl h
  | d + 1, _, _, .inl h => .inl h
  | d + 1, _, _, .inr (.inl h) => .inr (.inl h)
  | d + 1, _, _, .inr (.inr ⟨a, b, xs, ys, e1, e2, h, hl, hl2, k⟩) => .inr (.inr ⟨a, b, xs, ys, e1, e2, h, hl, hl2, fun i u v hu hv => (k i u v hu hv).succ⟩)
theorem eqR_same {K : PySem.W.Frag} {H : Hp} {a : Addr} {ks : List (Key × V)} (h : H a = some (.dK ks)) (k : OkD ks) : EqR K H (EqV K H 1) (.ref a) (.ref a) := by
  refine .inr ⟨a, a, ks, ks, rfl, rfl, h, h, rfl, fun p hp => ?_⟩
  rcases k with rfl | ⟨k, v, rfl, hv⟩
  · cases hp
  · rw [List.mem_singleton] at hp
    subst hp
    refine ⟨v, by simp [valV], ?_⟩
    rcases hv with hv | ⟨b, rfl⟩
    · exact .inl ⟨rfl, hv⟩
    · exact .inr (.inl ⟨b, rfl, rfl⟩)
/-- ==: of plain values, of dicts, of windows and places -/
def rEqX (T : Tx K mg) : R2 := fun x y H Q => rEq x y H Q ∨ rEqV K x y H Q ∨ rEqW K T.C_Window (spRestEq T) x y H Q ∨ rEqW K T.C_Place (spPlaceEq T) x y H Q
theorem kop_eqX {X : Cx} (T : Tx K mg) (hu : X.A.units + 64 < cLine) (F1 : FnOk X.prog X.w K X.mg X.base CX0 1 T.a_Rest_eq T.fd_Rest_eq P_Rest_eq (spRestEq T)) (F2 : FnOk X.prog X.w K X.mg X.base CX0 1 T.a_Place_eq T.fd_Place_eq P_Place_eq (spPlaceEq T)) (room : Room 1 X.A) (hK : X.K = K := by rfl) : OpR X (compareOp .Eq) (rEqX T) := by
  subst hK
  intro pins s σ H x y v u Q I rx ry h
  rcases h with h | h | h | h
  · exact op_eq pins s σ H x y v u Q I rx ry h
  · exact op_eqV hu pins s σ H x y v u Q I rx ry h
  · exact op_eqW T.eqf_Window T.eqi_Window F1 room T.b_Rest_eq pass0 pins s σ H x y v u Q I rx ry h
  · exact op_eqW T.eqf_Place T.eqi_Place F2 room T.b_Place_eq pass0 pins s σ H x y v u Q I rx ry h
theorem isoW {H : Hp} {v : V} {C p : Addr} {Q : VK} (ty : TyX K H v (.ref C)) (h : H p = some (.tup [.ty "list", .ty "tuple"])) (h1 : PySem.W.kitOne K (.ref C) (.type "list") = some false) (h2 : PySem.W.kitOne K (.ref C) (.type "tuple") = some false) (k : Q (.bl false) H) : rIsiT K [v, .ref p] H Q :=
  ⟨v, p, _, _, _, false || false, rfl, h, .cons (.ty "list") (.cons (.ty "tuple") .nil), ty, kitAny_cons h1 (fun e => by cases e; exact kitAny_cons h2 (fun e => by cases e; exact kitAny_nil) (fun e => by cases e)) (fun e => by cases e), k⟩
theorem isoO {H : Hp} {v : V} {C : Addr} {s : String} {Q : VK} (ty : TyX K H v (.ref C)) (h1 : PySem.W.kitOne K (.ref C) (.type s) = some false) (k : Q (.bl false) H) : rIsi K [v, .ty s] H Q := ⟨v, .ty s, _, _, false, rfl, .ty s, ty, h1, k⟩
theorem isoI {K : PySem.W.Frag} {H : Hp} {v : V} {tp : String} {b : Bool} {Q : VK} (ty : TyX K H v (.type tp)) {T1 : String} (h1 : kitB tp T1 = some b) (k : Q (.bl b) H) : rIsi K [v, .ty T1] H Q := k_isi ty h1 k
theorem isoT {K : PySem.W.Frag} {H : Hp} {v : V} {tp : String} {p : Addr} {Q : VK} (ty : TyX K H v (.type tp)) (h : H p = some (.tup [.ty "list", .ty "tuple"])) (h1 : kitB tp "list" = some false) (h2 : kitB tp "tuple" = some false) (k : Q (.bl false) H) : rIsiT K [v, .ref p] H Q := k_isiT h ty h1 h2 k
def spLike (T : Tx K mg) : Nat → Sp
  | 0 => fun _ _ _ _ => False
  | d + 1 => fun vs H Q _ => ∃ x y, vs = [x, y] ∧ Eqd T H d x y ∧ ∀ H', Same H H' → Q (.bl true) H'
theorem ok_like0 (T : Tx K mg) (d : Nat) (ih : FnOk P w K mg base CX0 (d + 1) T.a_like T.fd_like P_like (spLike T d)) : FnOk P w K mg base CX0 (d + 2) T.a_like T.fd_like P_like (spLike T (d + 1)) := by
  refine T.F_like.ok sc_like (fun vs H Q E h => ?_) (fun cdv A outer s H vs Q E hr h => ?_)
  · obtain ⟨x, y, rfl, _⟩ := h
    rfl
  · obtain ⟨x, y, rfl, h⟩ := h
    have nd := sc_like.nd
    refine ⟨_, (pss_cons (ps_if (pt_val (kcB b_isinstance (by decide) (by decide) (kc_isiT K) g_like_isinstance T.n_isinstance (pa_cons (kv (i := 1) v_like_law_due_here) (pa_cons (pe_tup (pa_cons (kty_list g_like_list T.n_list) (pa_cons (kty_tuple g_like_tuple T.n_tuple) pa_nil))) pa_nil)))) (pss_cons (ps_if (PW.pt (pw_or (pt_cmpR op_ne (kcB b_isinstance (by decide) (by decide) (kc_isi K) g_like_isinstance T.n_isinstance (pa_cons (kv (i := 0) v_like_law_told) (pa_cons (kty_list g_like_list T.n_list) pa_nil))) (kcB b_isinstance (by decide) (by decide) (kc_isi K) g_like_isinstance T.n_isinstance (pa_cons (kv (i := 1) v_like_law_due_here) (pa_cons (kty_list g_like_list T.n_list) pa_nil))) (nomark _)) (pw_or1 (pt_cmpR op_ne (kcB b_isinstance (by decide) (by decide) (kc_isi K) g_like_isinstance T.n_isinstance (pa_cons (kv (i := 0) v_like_law_told) (pa_cons (kty_tuple g_like_tuple T.n_tuple) pa_nil))) (kcB b_isinstance (by decide) (by decide) (kc_isi K) g_like_isinstance T.n_isinstance (pa_cons (kv (i := 1) v_like_law_due_here) (pa_cons (kty_tuple g_like_tuple T.n_tuple) pa_nil))) (nomark _))))) (pss_one (ps_ret pe_bl)) pss_nil)
      (pss_one (ps_ret (pe_and (pe_cmpR op_eq (kcB b_len (by decide) (by decide) (kc_len K) g_like_len T.n_len (pa_cons (kv (i := 0) v_like_law_told) pa_nil)) (kcB b_len (by decide) (by decide) (kc_len K) g_like_len T.n_len (pa_cons (kv (i := 1) v_like_law_due_here) pa_nil)) (nomark _)) (pe_one (kcB b_all (by decide) (by decide) (cr_all rfl) g_like_all T.n_all (pa_cons (pe_lc (own := [("_law_a", 2), ("_law_b", 3)]) rfl nd (RZ.pi_zipA g_like_zip T.n_zip (pa_cons (kv (i := 0) v_like_law_told) (pa_cons (kv (i := 1) v_like_law_due_here) pa_nil))) ok_cs_like_1 (fun _ _ _ _ _ => (kpg_tup K 2 rfl (pgs_cons (kgL (i := 2) nd l_like_1_law_a) (pgs_cons (kgL (i := 3) nd l_like_1_law_b) pgs_nil)))) (fun _ _ _ _ _ => pts_nil) (fun _ _ _ _ _ => (pe_call ih (hr.mono (by first | decide | omega)) g_like_1_law_like T.m_like T.k_like T.b_like .nil pass0 (pa_cons (kv (i := 2) v_like_1_law_a) (pa_cons (kv (i := 3) v_like_1_law_b) pa_nil))))) pa_nil))))))) pss_nil)
      (pss_cons (ps_if (PW.pt (pw_or (pt_cmpR op_isN (kv (i := 1) v_like_law_due_here) pe_non (nomark _)) (pw_or1 (pt_cmpR op_isN (kv (i := 0) v_like_law_told) pe_non (nomark _))))) (pss_one (ps_ret (pe_and (pe_cmpR op_isN (kv (i := 1) v_like_law_due_here) pe_non (nomark _)) (pe_one (pe_cmpR op_isN (kv (i := 0) v_like_law_told) pe_non (nomark _)))))) pss_nil)
      (pss_cons (ps_if (PW.pt (pw_or (pt_val (kcB b_isinstance (by decide) (by decide) (kc_isiT K) g_like_isinstance T.n_isinstance (pa_cons (kv (i := 0) v_like_law_told) (pa_cons (pe_tup (pa_cons (kty_list g_like_list T.n_list) (pa_cons (kty_tuple g_like_tuple T.n_tuple) pa_nil))) pa_nil)))) (pw_or1 (pt_cmpR op_ne (kcB b_isinstance (by decide) (by decide) (kc_isi K) g_like_isinstance T.n_isinstance (pa_cons (kv (i := 0) v_like_law_told) (pa_cons (kty_bool g_like_bool T.n_bool) pa_nil))) (kcB b_isinstance (by decide) (by decide) (kc_isi K) g_like_isinstance T.n_isinstance (pa_cons (kv (i := 1) v_like_law_due_here) (pa_cons (kty_bool g_like_bool T.n_bool) pa_nil))) (nomark _))))) (pss_one (ps_ret pe_bl)) pss_nil)
      (pss_cons (ps_if (PW.pt (pw_or (pt_cmpR op_ne (kcB b_isinstance (by decide) (by decide) (kc_isi K) g_like_isinstance T.n_isinstance (pa_cons (kv (i := 0) v_like_law_told) (pa_cons (kty_str g_like_str T.n_str) pa_nil))) (kcB b_isinstance (by decide) (by decide) (kc_isi K) g_like_isinstance T.n_isinstance (pa_cons (kv (i := 1) v_like_law_due_here) (pa_cons (kty_str g_like_str T.n_str) pa_nil))) (nomark _)) (pw_or1 (pt_cmpR op_ne (kcB b_isinstance (by decide) (by decide) (kc_isi K) g_like_isinstance T.n_isinstance (pa_cons (kv (i := 0) v_like_law_told) (pa_cons (kty_int g_like_int T.n_int) pa_nil))) (kcB b_isinstance (by decide) (by decide) (kc_isi K) g_like_isinstance T.n_isinstance (pa_cons (kv (i := 1) v_like_law_due_here) (pa_cons (kty_int g_like_int T.n_int) pa_nil))) (nomark _))))) (pss_one (ps_ret pe_bl)) pss_nil)
      (pss_cons (ps_if (pt_cmpR op_ne (kcB b_isinstance (by decide) (by decide) (kc_isi K) g_like_isinstance T.n_isinstance (pa_cons (kv (i := 0) v_like_law_told) (pa_cons (kty_dict g_like_dict T.n_dict) pa_nil))) (kcB b_isinstance (by decide) (by decide) (kc_isi K) g_like_isinstance T.n_isinstance (pa_cons (kv (i := 1) v_like_law_due_here) (pa_cons (kty_dict g_like_dict T.n_dict) pa_nil))) (nomark _)) (pss_one (ps_ret pe_bl)) pss_nil)
      (pss_one (ps_ret (kcT b_bool (by decide) (by decide) kc_bool g_like_bool T.n_bool (pa_cons (pe_cmpR (kop_eqX T hr.units (ok_Rest_eq T) (ok_Place_eq T) (hr.mono (by omega))) (kv (i := 0) v_like_law_told) (kv (i := 1) v_like_law_due_here) (nomark _)) pa_nil))))))))), ?_⟩
    have nn : ∀ z : Int, ¬ V.int z = V.non := fun z e => by cases e
    have ns : ∀ z : Str, ¬ V.str z = V.non := fun z e => by cases e
    have nb : ∀ z : Bool, ¬ V.bl z = V.non := fun z e => by cases e
    obtain ⟨hE, k⟩ := h
    have nr : ∀ z : Addr, ¬ V.ref z = V.non := fun z e => by cases e
    have key : (x = y ∧ Leaf T H x) ∨ (∃ a ks, x = .ref a ∧ y = .ref a ∧ H a = some (.dK ks) ∧ OkD ks) ∨ ∃ (m : Nat) (a b : Addr) (xs ys : List V), d = m + 1 ∧ x = .ref a ∧ y = .ref b ∧ ((H a = some (.lst xs) ∧ H b = some (.lst ys)) ∨ (H a = some (.tup xs) ∧ H b = some (.tup ys))) ∧ xs.length = ys.length ∧ xs.length ≤ 50 ∧
        ∀ (i : Nat) u v, xs[i]? = some u → ys[i]? = some v → Eqd T H m u v := by
      cases d with
      | zero => exact .inl hE
      | succ m =>
        rcases hE with h | h | ⟨a, b, xs, ys, e1, e2, h, hl, hl2, kk⟩
        · exact .inl h
        · exact .inr (.inl h)
        · exact .inr (.inr ⟨m, a, b, xs, ys, rfl, e1, e2, h, hl, hl2, kk⟩)
    clear hE
    rcases key with ⟨rfl, hx | ⟨a, rfl, ⟨n0, hw⟩ | ⟨r0, hp⟩⟩⟩ | ⟨a, ks, rfl, rfl, hd, hk⟩ | ⟨m, a, b, xs, ys, rfl, rfl, rfl, hh, hlen, hl, hs⟩
    · walk_at "ss"
      intro p1 n1
      cases hx with
      | int i =>
        walk_at "ss"
        refine ⟨rfl, ?_⟩
        walk_at "ss"
        refine k_df (fun e => by cases e) ?_
        walk_at "ss"
        refine ⟨rfl, ?_⟩
        walk_at "ss"
        refine k_df (fun e => by cases e) ?_
        walk_at "ss"
        intro p2 n2
        walk_at "ss"
        refine k_ne rfl ?_
        walk_at "ss"
        refine k_nt rfl ?_
        walk_at "ss"
        refine k_ne rfl ?_
        walk_at "ss"
        refine k_nt rfl ?_
        walk_at "ss"
        refine k_ne rfl ?_
        walk_at "ss"
        refine k_nt rfl ?_
        walk_at "ss"
        refine k_ne rfl ?_
        walk_at "ss"
        refine k_nt rfl ?_
        walk_at "ss"
        first
          | (refine .inl (k_eq rfl ?_)
             rw [decide_eq_true rfl]
             exact k _ ((same_new n1).trans (same_new n2)))
      | str i =>
        walk_at "ss"
        refine ⟨rfl, ?_⟩
        walk_at "ss"
        refine k_df (fun e => by cases e) ?_
        walk_at "ss"
        refine ⟨rfl, ?_⟩
        walk_at "ss"
        refine k_df (fun e => by cases e) ?_
        walk_at "ss"
        intro p2 n2
        walk_at "ss"
        refine k_ne rfl ?_
        walk_at "ss"
        refine k_nt rfl ?_
        walk_at "ss"
        refine k_ne rfl ?_
        walk_at "ss"
        refine k_nt rfl ?_
        walk_at "ss"
        refine k_ne rfl ?_
        walk_at "ss"
        refine k_nt rfl ?_
        walk_at "ss"
        refine k_ne rfl ?_
        walk_at "ss"
        refine k_nt rfl ?_
        walk_at "ss"
        first
          | (refine .inl (k_eq rfl ?_)
             rw [decide_eq_true rfl]
             exact k _ ((same_new n1).trans (same_new n2)))
      | bl i =>
        walk_at "ss"
        refine ⟨rfl, ?_⟩
        walk_at "ss"
        refine k_df (fun e => by cases e) ?_
        walk_at "ss"
        refine ⟨rfl, ?_⟩
        walk_at "ss"
        refine k_df (fun e => by cases e) ?_
        walk_at "ss"
        intro p2 n2
        walk_at "ss"
        refine k_ne rfl ?_
        walk_at "ss"
        refine k_nt rfl ?_
        walk_at "ss"
        refine k_ne rfl ?_
        walk_at "ss"
        refine k_nt rfl ?_
        walk_at "ss"
        refine k_ne rfl ?_
        walk_at "ss"
        refine k_nt rfl ?_
        walk_at "ss"
        refine k_ne rfl ?_
        walk_at "ss"
        refine k_nt rfl ?_
        walk_at "ss"
        first
          | (refine .inl (k_eq rfl ?_)
             rw [decide_eq_true rfl]
             exact k _ ((same_new n1).trans (same_new n2)))
      | non =>
        walk_at "ss"
        refine ⟨rfl, ?_⟩
        walk_at "ss"
        refine k_dt rfl ?_
        walk_at "ss"
        refine ⟨rfl, ?_⟩
        walk_at "ss"
        refine k_dt rfl ?_
        walk_at "ss"
        refine ⟨rfl, ?_⟩
        rw [decide_eq_true rfl]
        exact k _ (same_new n1)
    · walk_at "ss"
      intro p1 n1
      have s1 := same_new (o := .tup [V.ty "list", V.ty "tuple"]) n1
      obtain ⟨dx1, hw1⟩ := hw.up s1
      walk_at "ss"
      refine isoW (ty_own T.ty_Window hw1) upd_same T.ktt_Window_list T.ktt_Window_tuple ?_
      walk_at "ss"
      refine ⟨rfl, ?_⟩
      walk_at "ss"
      refine k_df (nr _) ?_
      walk_at "ss"
      refine ⟨rfl, ?_⟩
      walk_at "ss"
      refine k_df (nr _) ?_
      walk_at "ss"
      intro p2 n2
      obtain ⟨dx2, hw2⟩ := hw.up (s1.trans (same_new (o := .tup [V.ty "list", V.ty "tuple"]) n2))
      walk_at "ss"
      refine isoW (ty_own T.ty_Window hw2) upd_same T.ktt_Window_list T.ktt_Window_tuple ?_
      walk_at "ss"
      refine isoO (ty_own T.ty_Window hw2) T.ktt_Window_bool ?_
      walk_at "ss"
      refine isoO (ty_own T.ty_Window hw2) T.ktt_Window_bool ?_
      refine k_ne rfl ?_
      refine ⟨_, rfl, ?_⟩
      refine k_nt rfl ?_
      walk_at "ss"
      refine isoO (ty_own T.ty_Window hw2) T.ktt_Window_str ?_
      walk_at "ss"
      refine isoO (ty_own T.ty_Window hw2) T.ktt_Window_str ?_
      refine k_ne rfl ?_
      refine ⟨_, rfl, ?_⟩
      refine k_nt rfl ?_
      walk_at "ss"
      refine isoO (ty_own T.ty_Window hw2) T.ktt_Window_int ?_
      walk_at "ss"
      refine isoO (ty_own T.ty_Window hw2) T.ktt_Window_int ?_
      refine k_ne rfl ?_
      refine ⟨_, rfl, ?_⟩
      refine k_nt rfl ?_
      walk_at "ss"
      refine isoO (ty_own T.ty_Window hw2) T.ktt_Window_dict ?_
      walk_at "ss"
      refine isoO (ty_own T.ty_Window hw2) T.ktt_Window_dict ?_
      refine k_ne rfl ?_
      refine ⟨_, rfl, ?_⟩
      refine k_nt rfl ?_
      walk_at "ss"
      first
        | refine .inr (.inr (.inl ⟨a, dx2, _, rfl, hw2, .ins hw2 T.nf_Window, ⟨a, _, rfl, ⟨dx2, hw2⟩, ?_⟩⟩))
        | refine .inr (.inr (.inr ⟨a, dx2, _, rfl, hw2, .ins hw2 T.nf_Place, ⟨a, _, rfl, ⟨dx2, hw2⟩, ?_⟩⟩))
      walk_at "ss"
      exact k _ ((same_new n1).trans (same_new n2))
    · walk_at "ss"
      intro p1 n1
      have s1 := same_new (o := .tup [V.ty "list", V.ty "tuple"]) n1
      obtain ⟨dx1, hw1⟩ := hp.up s1
      walk_at "ss"
      refine isoW (ty_own T.ty_Place hw1) upd_same T.ktt_Place_list T.ktt_Place_tuple ?_
      walk_at "ss"
      refine ⟨rfl, ?_⟩
      walk_at "ss"
      refine k_df (nr _) ?_
      walk_at "ss"
      refine ⟨rfl, ?_⟩
      walk_at "ss"
      refine k_df (nr _) ?_
      walk_at "ss"
      intro p2 n2
      obtain ⟨dx2, hw2⟩ := hp.up (s1.trans (same_new (o := .tup [V.ty "list", V.ty "tuple"]) n2))
      walk_at "ss"
      refine isoW (ty_own T.ty_Place hw2) upd_same T.ktt_Place_list T.ktt_Place_tuple ?_
      walk_at "ss"
      refine isoO (ty_own T.ty_Place hw2) T.ktt_Place_bool ?_
      walk_at "ss"
      refine isoO (ty_own T.ty_Place hw2) T.ktt_Place_bool ?_
      refine k_ne rfl ?_
      refine ⟨_, rfl, ?_⟩
      refine k_nt rfl ?_
      walk_at "ss"
      refine isoO (ty_own T.ty_Place hw2) T.ktt_Place_str ?_
      walk_at "ss"
      refine isoO (ty_own T.ty_Place hw2) T.ktt_Place_str ?_
      refine k_ne rfl ?_
      refine ⟨_, rfl, ?_⟩
      refine k_nt rfl ?_
      walk_at "ss"
      refine isoO (ty_own T.ty_Place hw2) T.ktt_Place_int ?_
      walk_at "ss"
      refine isoO (ty_own T.ty_Place hw2) T.ktt_Place_int ?_
      refine k_ne rfl ?_
      refine ⟨_, rfl, ?_⟩
      refine k_nt rfl ?_
      walk_at "ss"
      refine isoO (ty_own T.ty_Place hw2) T.ktt_Place_dict ?_
      walk_at "ss"
      refine isoO (ty_own T.ty_Place hw2) T.ktt_Place_dict ?_
      refine k_ne rfl ?_
      refine ⟨_, rfl, ?_⟩
      refine k_nt rfl ?_
      walk_at "ss"
      first
        | refine .inr (.inr (.inl ⟨a, dx2, _, rfl, hw2, .ins hw2 T.nf_Window, ⟨a, _, rfl, ⟨dx2, hw2⟩, ?_⟩⟩))
        | refine .inr (.inr (.inr ⟨a, dx2, _, rfl, hw2, .ins hw2 T.nf_Place, ⟨a, _, rfl, ⟨dx2, hw2⟩, ?_⟩⟩))
      walk_at "ss"
      exact k _ ((same_new n1).trans (same_new n2))
    · walk_at "ss"
      intro p1 n1
      have s1 := same_new (o := .tup [V.ty "list", V.ty "tuple"]) n1
      have hd1 := s1 _ _ hd
      walk_at "ss"
      try refine isoT (TyX.base (.dK hd1)) upd_same kb_dict_list kb_dict_tuple ?_
      walk_at "ss"
      refine ⟨rfl, ?_⟩
      walk_at "ss"
      refine k_df (nr _) ?_
      walk_at "ss"
      refine ⟨rfl, ?_⟩
      walk_at "ss"
      refine k_df (nr _) ?_
      walk_at "ss"
      intro p2 n2
      have hd2 := same_new (o := .tup [V.ty "list", V.ty "tuple"]) n2 _ _ hd1
      walk_at "ss"
      try refine isoT (TyX.base (.dK hd2)) upd_same kb_dict_list kb_dict_tuple ?_
      walk_at "ss"
      refine k_ne rfl ?_
      walk_at "ss"
      refine k_nt rfl ?_
      walk_at "ss"
      refine k_ne rfl ?_
      walk_at "ss"
      refine k_nt rfl ?_
      walk_at "ss"
      refine k_ne rfl ?_
      walk_at "ss"
      refine k_nt rfl ?_
      walk_at "ss"
      refine k_ne rfl ?_
      walk_at "ss"
      refine k_nt rfl ?_
      walk_at "ss"
      refine .inr (.inl ⟨1, by decide, eqR_same hd2 hk, ?_⟩)
      walk_at "ss"
      exact k _ ((same_new n1).trans (same_new n2))
    · rcases hh with ⟨ha, hb⟩ | ⟨ha, hb⟩
      · walk_at "ss"
        intro p np
        generalize e1 : upd H p _ = H1
        have s1 := upd_sm e1 np
        have hp := upd_at e1
        clear e1
        have ha1 := s1 _ _ ha
        have hb1 := s1 _ _ hb
        walk_at "ss"
        refine k_ne rfl ?_
        walk_at "ss"
        refine k_nt rfl ?_
        walk_at "ss"
        refine k_ne rfl ?_
        walk_at "ss"
        refine k_nt rfl ?_
        walk_at "ss"
        refine k_dt (by omega) ?_
        walk_at "ss"
        refine k_iZipA ?_
        walk_at "ss"
        refine ⟨a, b, xs, ys, rfl, zL ⟨SqL.of ha1, SqL.of hb1, ?_⟩⟩
        intro D nD
        refine k_lcIt (n := xs.length) (walk_zipL (xs := xs) (ys := ys) (by omega)) (fun i H' => ∃ bs : List Bool, H' D = some (.lst (bs.map V.bl)) ∧ bs.length = i ∧ (∀ z ∈ bs, z = true) ∧ Same H1 H') ⟨[], upd_same, rfl, fun z hz => (by cases hz), same_new nD⟩ ?_ ?_ ?_
        · rintro i H' _ ⟨bs, _, _, _, sm⟩
          exact ⟨SqL.of (sm _ _ ha1), SqL.of (sm _ _ hb1)⟩
        · rintro i x H' H'' hi ⟨bs, hD, hlen, hall, sm⟩ ⟨tp, y1, y2, rfl, nt, rfl, ey1, ey2⟩
          have hyt : (upd H' tp (.tup [y1, y2])) tp = some (.tup [y1, y2]) := upd_same
          walk_at "ss"
          refine ⟨rfl, ?_⟩
          walk_at "ss"
          refine ⟨y1, y2, rfl, (hs i y1 y2 ey1 ey2).up ((s1.trans sm).trans (same_new nt)), fun H3 s3 => ?_⟩
          have hD3 := s3 _ _ (same_new nt _ _ hD)
          refine ⟨_, hD3, small_lt (by rw [List.length_map]; omega), bs ++ [true], by rw [upd_same, List.map_append]; rfl, by simp [hlen], ?_, same_put ((sm.trans (same_new nt)).trans s3) nD⟩
          intro z hz
          rcases List.mem_append.mp hz with hz | hz
          · exact hall z hz
          · exact List.mem_singleton.mp hz
        · rintro H' ⟨bs, hD, hlen, hall, sm⟩
          walk_at "ss"
          refine ⟨D, bs, rfl, SqL.of hD, ?_⟩
          have : bs.all id = true := List.all_eq_true.mpr fun z hz => hall z hz
          rw [this]
          exact k _ (s1.trans sm)
      · walk_at "ss"
        intro p np
        generalize e1 : upd H p _ = H1
        have s1 := upd_sm e1 np
        have hp := upd_at e1
        clear e1
        have ha1 := s1 _ _ ha
        have hb1 := s1 _ _ hb
        walk_at "ss"
        refine k_ne rfl ?_
        walk_at "ss"
        refine k_nt rfl ?_
        walk_at "ss"
        refine k_ne rfl ?_
        walk_at "ss"
        refine k_nt rfl ?_
        walk_at "ss"
        refine k_dt (by omega) ?_
        walk_at "ss"
        refine k_iZipA ?_
        walk_at "ss"
        refine ⟨a, b, xs, ys, rfl, zT ⟨SqT.of ha1, SqT.of hb1, ?_⟩⟩
        intro D nD
        refine k_lcIt (n := xs.length) (walk_zipT (xs := xs) (ys := ys) (by omega)) (fun i H' => ∃ bs : List Bool, H' D = some (.lst (bs.map V.bl)) ∧ bs.length = i ∧ (∀ z ∈ bs, z = true) ∧ Same H1 H') ⟨[], upd_same, rfl, fun z hz => (by cases hz), same_new nD⟩ ?_ ?_ ?_
        · rintro i H' _ ⟨bs, _, _, _, sm⟩
          exact ⟨SqT.of (sm _ _ ha1), SqT.of (sm _ _ hb1)⟩
        · rintro i x H' H'' hi ⟨bs, hD, hlen, hall, sm⟩ ⟨tp, y1, y2, rfl, nt, rfl, ey1, ey2⟩
          have hyt : (upd H' tp (.tup [y1, y2])) tp = some (.tup [y1, y2]) := upd_same
          walk_at "ss"
          refine ⟨rfl, ?_⟩
          walk_at "ss"
          refine ⟨y1, y2, rfl, (hs i y1 y2 ey1 ey2).up ((s1.trans sm).trans (same_new nt)), fun H3 s3 => ?_⟩
          have hD3 := s3 _ _ (same_new nt _ _ hD)
          refine ⟨_, hD3, small_lt (by rw [List.length_map]; omega), bs ++ [true], by rw [upd_same, List.map_append]; rfl, by simp [hlen], ?_, same_put ((sm.trans (same_new nt)).trans s3) nD⟩
          intro z hz
          rcases List.mem_append.mp hz with hz | hz
          · exact hall z hz
          · exact List.mem_singleton.mp hz
        · rintro H' ⟨bs, hD, hlen, hall, sm⟩
          walk_at "ss"
          refine ⟨D, bs, rfl, SqL.of hD, ?_⟩
          have : bs.all id = true := List.all_eq_true.mpr fun z hz => hall z hz
          rw [this]
          exact k _ (s1.trans sm)
theorem okr_like (T : Tx K mg) : ∀ d, FnOk P w K mg base CX0 (d + 1) T.a_like T.fd_like P_like (spLike T d)
  | 0 => ⟨fun _ _ _ _ h => h.elim, fun _ _ _ _ _ _ _ _ _ _ _ _ _ h => h.elim⟩
  | d + 1 => ok_like0 T d (okr_like T d)
theorem ok_like (T : Tx K mg) : FnOk P w K mg base CX0 5 T.a_like T.fd_like P_like (spLike T 4) := okr_like T 4
end

section
variable {w : World} {K : PySem.W.Frag} {mg : Str → Option Value} {base : Heap}
/-! ### drawn values -/
theorem k_disp1 {tk tv : TE} {σ : L2.St} {H : Hp} {Q : VK} (h : ∀ p, H p = none → tk σ (upd H p (.dK [])) fun x H1 => tv σ H1 fun y H2 => H2 p = some (.dK []) ∧ ∃ kvs : List (Key × V), [(x, y)] = kvs.map (fun kv => (kV kv.1, kv.2)) ∧ kvs.length ≤ 15 ∧ Q (.ref p) (upd H2 p (.dK (mergeK [] kvs)))) : tDisp [(tk, tv)] σ H Q := h
def It (G G' : Hp) (x : V) : Prop := ScB x ∨ ∃ a, x = .ref a ∧ G' a = some (.tup [.int 1, .int 2]) ∧ G a = none
theorem It.gd {F : Addr → Prop} {G G' : Hp} {x : V} (h : It G G' x) (hFG : ∀ a, F a → G a = none → False) : Gd F G' 1 x := by
  rcases h with h | ⟨a, rfl, h, n⟩
  · exact .inl h
  · refine .inr (.inl ⟨a, _, rfl, fun z => hFG a z n, .inr h, by decide, fun x hx => ?_⟩)
    simp only [List.mem_cons, List.not_mem_nil, or_false] at hx
    rcases hx with rfl | rfl <;> exact .int _
/-- data of depth 2 at most -/
def Ov (F : Addr → Prop) (G : Hp) (v : V) : Prop := Gd F G 2 v
theorem ov {F : Addr → Prop} {G : Hp} {v : V} (h : Gd F G 2 v) : Ov F G v := h
def spOdd (K : PySem.W.Frag) : Sp := fun vs H Q _ => ∃ (F : Addr → Prop) (G0 G : Hp) (b : Addr) (β : HO), vs = [.ref b] ∧ H = upd G b β ∧ Bag K G0 G b β ∧ (∀ a, F a → G a = none → False) ∧ ∀ (v : V) (G' : Hp) (β' : HO), Same G G' → Bag K G0 G' b β' → Ov F G' v → Q v (upd G' b β')
theorem ok_odd (T : Tx K mg) : FnOk P w K mg base CX0 3 T.a_odd T.fd_odd P_odd (spOdd K) := by
  refine T.F_odd.ok sc_odd (fun vs H Q E h => ?_) (fun cdv A outer s H vs Q E hr h => ?_)
  · obtain ⟨F, G0, G, b, β, rfl, _⟩ := h
    rfl
  · obtain ⟨F, G0, G, b, β, rfl, rfl, hb, hFG, k⟩ := h
    have nd := sc_odd.nd
    refine ⟨_, (pss_cons (ks_setL (i := 1) nd l_odd_law_pick (pe_call (ok_draw T) (hr.mono (by first | decide | omega)) g_odd_law_draw T.m_draw T.k_draw T.b_draw .nil pass0 (pa_cons (kv (i := 0) v_odd_law_bag_here) (pa_cons pe_int pa_nil))))
      (pss_cons (ps_if (pt_cmpR op_eq (kv (i := 1) v_odd_law_pick) pe_int (nomark _)) (pss_one (ps_ret (pe_call (ok_of T) (hr.mono (by first | decide | omega)) g_odd_law_of T.m_of T.k_of T.b_of .nil pass0 (pa_cons (kv (i := 0) v_odd_law_bag_here) (pa_cons (pe_lst (pa_cons pe_non (pa_cons pe_bl (pa_cons pe_bl pa_nil)))) pa_nil))))) pss_nil)
      (pss_cons (ps_if (pt_cmpR op_eq (kv (i := 1) v_odd_law_pick) pe_int (nomark _)) (pss_one (ps_ret (pe_call (ok_of T) (hr.mono (by first | decide | omega)) g_odd_law_of T.m_of T.k_of T.b_of .nil pass0 (pa_cons (kv (i := 0) v_odd_law_bag_here) (pa_cons (pe_lst (pa_cons pe_int (pa_cons pe_int (pa_cons (pe_un un_neg pe_int) (pa_cons pe_int (pa_cons pe_int (pa_cons pe_int (pa_cons pe_int (pa_cons (pe_un un_neg pe_int) pa_nil))))))))) pa_nil))))) pss_nil)
      (pss_cons (ps_if (pt_cmpR op_eq (kv (i := 1) v_odd_law_pick) pe_int (nomark _)) (pss_one (ps_ret (pe_call (ok_of T) (hr.mono (by first | decide | omega)) g_odd_law_of T.m_of T.k_of T.b_of .nil pass0 (pa_cons (kv (i := 0) v_odd_law_bag_here) (pa_cons (pe_lst (pa_cons pe_str (pa_cons pe_str (pa_cons pe_str (pa_cons pe_str (pa_cons pe_str (pa_cons pe_str (pa_cons pe_str (pa_cons pe_str pa_nil))))))))) pa_nil))))) pss_nil)
      (pss_cons (ps_if (pt_cmpR op_eq (kv (i := 1) v_odd_law_pick) pe_int (nomark _)) (pss_one (ps_ret (kcT b_tuple (by decide) (by decide) (kc_tuple K) g_odd_tuple T.n_tuple (pa_cons (pe_lc (own := [("_law_k", 2)]) rfl nd (pi_range1 g_odd_range T.n_range (pa_cons (pe_call (ok_draw T) (hr.mono (by first | decide | omega)) g_odd_law_draw T.m_draw T.k_draw T.b_draw .nil pass0 (pa_cons (kv (i := 0) v_odd_law_bag_here) (pa_cons pe_int pa_nil))) pa_nil)) ok_cs_odd_2 (fun _ _ _ _ _ => (kgL (i := 2) nd l_odd_2_law_k)) (fun _ _ _ _ _ => pts_nil) (fun _ _ _ _ _ => (pe_call (ok_of T) (hr.mono (by first | decide | omega)) g_odd_2_law_of T.m_of T.k_of T.b_of .nil pass0 (pa_cons (kv (i := 0) v_odd_2_law_bag_here) (pa_cons (pe_lst (pa_cons pe_int (pa_cons pe_str (pa_cons pe_non (pa_cons pe_bl (pa_cons pe_int pa_nil)))))) pa_nil))))) pa_nil)))) pss_nil)
      (pss_cons (ps_if (pt_cmpR op_eq (kv (i := 1) v_odd_law_pick) pe_int (nomark _)) (pss_one (ps_ret (pe_lc (own := [("_law_k", 2)]) rfl nd (pi_range1 g_odd_range T.n_range (pa_cons (pe_call (ok_draw T) (hr.mono (by first | decide | omega)) g_odd_law_draw T.m_draw T.k_draw T.b_draw .nil pass0 (pa_cons (kv (i := 0) v_odd_law_bag_here) (pa_cons pe_int pa_nil))) pa_nil)) ok_cs_odd_1 (fun _ _ _ _ _ => (kgL (i := 2) nd l_odd_1_law_k)) (fun _ _ _ _ _ => pts_nil) (fun _ _ _ _ _ => (pe_call (ok_of T) (hr.mono (by first | decide | omega)) g_odd_1_law_of T.m_of T.k_of T.b_of .nil pass0 (pa_cons (kv (i := 0) v_odd_1_law_bag_here) (pa_cons (pe_lst (pa_cons pe_int (pa_cons pe_str (pa_cons pe_non (pa_cons pe_bl (pa_cons (pe_tup (pa_cons pe_int (pa_cons pe_int pa_nil))) pa_nil)))))) pa_nil))))))) pss_nil)
      (pss_one (ps_ret (pe_call (ok_of T) (hr.mono (by first | decide | omega)) g_odd_law_of T.m_of T.k_of T.b_of .nil pass0 (pa_cons (kv (i := 0) v_odd_law_bag_here) (pa_cons (pe_lst (pa_cons pe_dnewK (pa_cons (pe_disp (pps_cons pe_str pe_int pps_nil) (by rfl) (by rfl) (fun z => by cases z) (by decide)) (pa_cons (pe_disp (pps_cons pe_int (pe_lst (pa_cons pe_int pa_nil)) pps_nil) (by rfl) (by rfl) (fun z => by cases z) (by decide)) (pa_cons (pe_disp (pps_cons pe_str (pe_disp (pps_cons pe_str (pe_tup (pa_cons pe_int (pa_cons pe_non pa_nil))) pps_nil) (by rfl) (by rfl) (fun z => by cases z) (by decide)) pps_nil) (by rfl) (by rfl) (fun z => by cases z) (by decide)) pa_nil))))) pa_nil))))))))))), ?_⟩
    walk_at "ss"
    refine k_draw hb (by decide) (by decide) fun pick β1 e0 e1 hb1 => ?_
    walk_at "ss"
    refine k_d (fun _ => ?_) (fun _ => ?_)
    · walk_at "ss"
      intro l nt_l
      rw [upd_swap (up_none nt_l).2]
      generalize eG_l : upd _ l _ = G1
      obtain ⟨nb1, sm1, hl, nt_l, nG_l⟩ := new_facts hb1.nb nt_l eG_l
      clear eG_l
      have hb2 := hb1.up sm1 nb1
      walk_at "ss"
      refine k_of hb2 (SqL.of hl) (by simp) (by simp) fun v β3 hv hb3 => ?_
      refine k v G1 β3 sm1 hb3 ?_
      simp only [List.mem_cons, List.not_mem_nil, or_false] at hv
      rcases hv with rfl | rfl | rfl
      · exact ov (Gd.sc .non 2)
      · exact ov (Gd.sc (.bl _) 2)
      · exact ov (Gd.sc (.bl _) 2)
    walk_at "ss"
    refine k_d (fun _ => ?_) (fun _ => ?_)
    · walk_at "ss"
      intro l nt_l
      rw [upd_swap (up_none nt_l).2]
      generalize eG_l : upd _ l _ = G1
      obtain ⟨nb1, sm1, hl, nt_l, nG_l⟩ := new_facts hb1.nb nt_l eG_l
      clear eG_l
      have hb2 := hb1.up sm1 nb1
      walk_at "ss"
      refine k_of hb2 (SqL.of hl) (by simp) (by simp) fun v β3 hv hb3 => ?_
      refine k v G1 β3 sm1 hb3 ?_
      simp only [List.mem_cons, List.not_mem_nil, or_false] at hv
      rcases hv with rfl | rfl | rfl | rfl | rfl | rfl | rfl | rfl <;> exact ov (Gd.sc (.int _) 2)
    walk_at "ss"
    refine k_d (fun _ => ?_) (fun _ => ?_)
    · walk_at "ss"
      intro l nt_l
      rw [upd_swap (up_none nt_l).2]
      generalize eG_l : upd _ l _ = G1
      obtain ⟨nb1, sm1, hl, nt_l, nG_l⟩ := new_facts hb1.nb nt_l eG_l
      clear eG_l
      have hb2 := hb1.up sm1 nb1
      walk_at "ss"
      refine k_of hb2 (SqL.of hl) (by simp) (by simp) fun v β3 hv hb3 => ?_
      refine k v G1 β3 sm1 hb3 ?_
      simp only [List.mem_cons, List.not_mem_nil, or_false] at hv
      rcases hv with rfl | rfl | rfl | rfl | rfl | rfl | rfl | rfl <;> exact ov (Gd.sc (.str _ (by decide +kernel)) 2)
    walk_at "ss"
    refine k_d (fun _ => ?_) (fun _ => ?_)
    · walk_at "ss"
      refine k_draw hb1 (by decide) (by decide) fun n β2 n0 n1 hb2 => ?_
      walk_at "ss"
      refine k_r1 ⟨by omega, by omega⟩ ?_
      intro D nD
      obtain ⟨nD1, nDb⟩ := up_none nD
      refine k_lcRange (n := n.toNat) (fun i H' => ∃ (xs : List V) (G' : Hp) (β' : HO), H' = upd G' b β' ∧ Bag K G0 G' b β' ∧ Same G G' ∧ G' D = some (.lst xs) ∧ xs.length = i ∧ ∀ x ∈ xs, ScB x)
        ⟨[], _, β2, upd_swap nDb, hb2.up (same_new nD1) (by rw [upd_ne (Ne.symm nDb)]; exact hb2.nb), same_new nD1, upd_same, rfl, fun x hx => (by cases hx)⟩ ?_ ?_
      · rintro i H' hi ⟨xs, G1, β3, rfl, hb3, sm1, hD, hlen, hall⟩
        refine k_gName ?_
        refine ⟨rfl, ?_⟩
        walk_at "ss"
        intro l nt_l
        rw [upd_swap (up_none nt_l).2]
        generalize eG_l : upd _ l _ = G2
        obtain ⟨nb2, sm2, hl, nt_l, nG_l⟩ := new_facts hb3.nb nt_l eG_l
        clear eG_l
        have hb4 := hb3.up sm2 nb2
        walk_at "ss"
        refine k_of hb4 (SqL.of hl) (by simp) (by simp) fun v β5 hv hb5 => ?_
        refine ⟨_, up_get hb5.nb (sm2 _ _ hD), small_lt (by omega), xs ++ [v], upd G2 D (.lst (xs ++ [v])), β5, upd_swap nDb, hb5.up0 (same_put hb5.sm (g_none hb.sm nD1)) (by rw [upd_ne (Ne.symm nDb)]; exact nb2), same_put (sm1.trans sm2) nD1, upd_same, by simp [hlen], fun x hx => ?_⟩
        rcases List.mem_append.mp hx with hx | hx
        · exact hall x hx
        · rw [List.mem_singleton.mp hx]
          simp only [List.mem_cons, List.not_mem_nil, or_false] at hv
          rcases hv with rfl | rfl | rfl | rfl | rfl <;> first | exact .int _ | exact .non | exact .bl _ | exact .str _ (by decide +kernel)
      · rintro H' ⟨xs, G1, β3, rfl, hb3, sm1, hD, hlen, hall⟩
        walk_at "ss"
        refine k_tupleL (SqL.of (up_get hb3.nb hD)) ?_
        intro t nt_t
        rw [upd_swap (up_none nt_t).2]
        generalize eG_t : upd _ t _ = G2
        obtain ⟨nb2, sm2, ht, nt_t, nG_t⟩ := new_facts hb3.nb nt_t eG_t
        clear eG_t
        exact k _ G2 β3 (sm1.trans sm2) (hb3.up sm2 nb2) (ov (.inr (.inl ⟨t, xs, rfl, fun z => hFG t z (g_none sm1 nG_t), .inr ht, by omega, fun x hx => Gd.sc (hall x hx) 1⟩)))
    walk_at "ss"
    refine k_d (fun _ => ?_) (fun _ => ?_)
    · walk_at "ss"
      refine k_draw hb1 (by decide) (by decide) fun n β2 n0 n1 hb2 => ?_
      walk_at "ss"
      refine k_r1 ⟨by omega, by omega⟩ ?_
      intro D nD
      obtain ⟨nD1, nDb⟩ := up_none nD
      refine k_lcRange (n := n.toNat) (fun i H' => ∃ (xs : List V) (G' : Hp) (β' : HO), H' = upd G' b β' ∧ Bag K G0 G' b β' ∧ Same G G' ∧ G' D = some (.lst xs) ∧ xs.length = i ∧ ∀ x ∈ xs, It G G' x)
        ⟨[], _, β2, upd_swap nDb, hb2.up (same_new nD1) (by rw [upd_ne (Ne.symm nDb)]; exact hb2.nb), same_new nD1, upd_same, rfl, fun x hx => (by cases hx)⟩ ?_ ?_
      · rintro i H' hi ⟨xs, G1, β3, rfl, hb3, sm1, hD, hlen, hall⟩
        refine k_gName ?_
        refine ⟨rfl, ?_⟩
        walk_at "ss"
        intro t nt_t
        rw [upd_swap (up_none nt_t).2]
        generalize eG_t : upd _ t _ = G2
        obtain ⟨nb2, sm2, ht, nt_t, nG_t⟩ := new_facts hb3.nb nt_t eG_t
        clear eG_t
        walk_at "ss"
        intro l nt_l
        rw [upd_swap (up_none nt_l).2]
        generalize eG_l : upd _ l _ = G3
        obtain ⟨nb3, sm3, hl, nt_l, nG_l⟩ := new_facts nb2 nt_l eG_l
        clear eG_l
        have hb4 := hb3.up (sm2.trans sm3) nb3
        walk_at "ss"
        refine k_of hb4 (SqL.of hl) (by simp) (by simp) fun v β5 hv hb5 => ?_
        have hD3 := sm3 _ _ (sm2 _ _ hD)
        refine ⟨_, up_get hb5.nb (sm3 _ _ (sm2 _ _ hD)), small_lt (by omega), xs ++ [v], upd G3 D (.lst (xs ++ [v])), β5, upd_swap nDb, hb5.up0 (same_put hb5.sm (g_none hb.sm nD1)) (by rw [upd_ne (Ne.symm nDb)]; exact nb3), same_put ((sm1.trans sm2).trans sm3) nD1, upd_same, by simp [hlen], fun x hx => ?_⟩
        rcases List.mem_append.mp hx with hx | hx
        · rcases hall x hx with h | ⟨a, rfl, h, n⟩
          · exact .inl h
          · have h3 := sm3 _ _ (sm2 _ _ h)
            exact .inr ⟨a, rfl, (upd_ne (ne_of h3 hD3 (by intro q; cases q))).trans h3, n⟩
        · rw [List.mem_singleton.mp hx]
          simp only [List.mem_cons, List.not_mem_nil, or_false] at hv
          rcases hv with rfl | rfl | rfl | rfl | rfl
          · exact .inl (.int _)
          · exact .inl (.str _ (by decide +kernel))
          · exact .inl .non
          · exact .inl (.bl _)
          · have h3 := sm3 _ _ ht
            exact .inr ⟨t, rfl, (upd_ne (ne_of h3 hD3 (by intro q; cases q))).trans h3, g_none sm1 nG_t⟩
      · rintro H' ⟨xs, G1, β3, rfl, hb3, sm1, hD, hlen, hall⟩
        walk_at "ss"
        exact k _ G1 β3 sm1 hb3 (ov (.inr (.inl ⟨D, xs, rfl, fun z => hFG D z nD1, .inl hD, by omega, fun x hx => (hall x hx).gd hFG⟩)))
    walk_at "ss"
    refine k_dnew ?_
    intro q1 nt_q1
    rw [upd_swap (up_none nt_q1).2]
    generalize eG_q1 : upd _ q1 _ = G1
    obtain ⟨nb1, sm1, hq1, nt_q1, nG_q1⟩ := new_facts hb1.nb nt_q1 eG_q1
    clear eG_q1
    walk_at "ss"
    refine k_disp1 ?_
    intro q2 nt_q2
    rw [upd_swap (up_none nt_q2).2]
    generalize eG_q2 : upd _ q2 _ = G2
    obtain ⟨nb2, sm2, hq2, nt_q2, nG_q2⟩ := new_facts nb1 nt_q2 eG_q2
    clear eG_q2
    walk_at "ss"
    refine ⟨(up_get nb2 hq2), [(.inr "a", _)], rfl, Nat.le_of_ble_eq_true rfl, ?_⟩
    rw [upd_swap nt_q2]
    generalize eG : upd G2 q2 _ = G3
    have s13 : Same G1 G3 := eG ▸ same_put sm2 nG_q2
    have hq2 := upd_at eG
    have nb3 : G3 b = none := by rw [← eG, upd_ne (Ne.symm nt_q2)]; exact nb2
    clear eG
    walk_at "ss"
    refine k_disp1 ?_
    intro q3 nt_q3
    rw [upd_swap (up_none nt_q3).2]
    generalize eG_q3 : upd _ q3 _ = G4
    obtain ⟨nb4, sm4, hq3, nt_q3, nG_q3⟩ := new_facts nb3 nt_q3 eG_q3
    clear eG_q3
    walk_at "ss"
    intro l5 nt_l5
    rw [upd_swap (up_none nt_l5).2]
    generalize eG_l5 : upd _ l5 _ = G5
    obtain ⟨nb5, sm5, hl5, nt_l5, nG_l5⟩ := new_facts nb4 nt_l5 eG_l5
    clear eG_l5
    refine ⟨(up_get nb5 (sm5 _ _ hq3)), [(.inl 1, _)], rfl, Nat.le_of_ble_eq_true rfl, ?_⟩
    rw [upd_swap nt_q3]
    generalize eG : upd G5 q3 _ = G6
    have s36 : Same G3 G6 := eG ▸ same_put (sm4.trans sm5) nG_q3
    have hq3 := upd_at eG
    have nb6 : G6 b = none := by rw [← eG, upd_ne (Ne.symm nt_q3)]; exact nb5
    clear eG
    walk_at "ss"
    refine k_disp1 ?_
    intro q4 nt_q4
    rw [upd_swap (up_none nt_q4).2]
    generalize eG_q4 : upd _ q4 _ = G7
    obtain ⟨nb7, sm7, hq4, nt_q4, nG_q4⟩ := new_facts nb6 nt_q4 eG_q4
    clear eG_q4
    walk_at "ss"
    refine k_disp1 ?_
    intro q5 nt_q5
    rw [upd_swap (up_none nt_q5).2]
    generalize eG_q5 : upd _ q5 _ = G8
    obtain ⟨nb8, sm8, hq5, nt_q5, nG_q5⟩ := new_facts nb7 nt_q5 eG_q5
    clear eG_q5
    walk_at "ss"
    intro t9 nt_t9
    rw [upd_swap (up_none nt_t9).2]
    generalize eG_t9 : upd _ t9 _ = G9
    obtain ⟨nb9, sm9, ht9, nt_t9, nG_t9⟩ := new_facts nb8 nt_t9 eG_t9
    clear eG_t9
    refine ⟨(up_get nb9 (sm9 _ _ hq5)), [(.inr "b", _)], rfl, Nat.le_of_ble_eq_true rfl, ?_⟩
    rw [upd_swap nt_q5]
    generalize eG : upd G9 q5 _ = GA
    have s7A : Same G7 GA := eG ▸ same_put (sm8.trans sm9) nG_q5
    have nbA : GA b = none := by rw [← eG, upd_ne (Ne.symm nt_q5)]; exact nb9
    clear eG
    refine ⟨(up_get nbA (s7A _ _ hq4)), [(.inr "a", _)], rfl, Nat.le_of_ble_eq_true rfl, ?_⟩
    rw [upd_swap nt_q4]
    generalize eG : upd GA q4 _ = GB
    have s6B : Same G6 GB := eG ▸ same_put (sm7.trans s7A) nG_q4
    have hq4 := upd_at eG
    have nbB : GB b = none := by rw [← eG, upd_ne (Ne.symm nt_q4)]; exact nbA
    clear eG
    walk_at "ss"
    intro l nt_l
    rw [upd_swap (up_none nt_l).2]
    generalize eG_l : upd _ l _ = GC
    obtain ⟨nbC, smC, hl, nt_l, nG_l⟩ := new_facts nbB nt_l eG_l
    clear eG_l
    have s3C := (s36.trans s6B).trans smC
    have s0C := (sm1.trans s13).trans s3C
    have hbC := hb1.up s0C nbC
    walk_at "ss"
    refine k_of hbC (SqL.of hl) (by simp) (by simp) fun v β3 hv hb3 => ?_
    refine k v GC β3 s0C hb3 ?_
    simp only [List.mem_cons, List.not_mem_nil, or_false] at hv
    rcases hv with rfl | rfl | rfl | rfl
    · exact ov (.inr (.inr ⟨q1, _, rfl, fun z => hFG q1 z nG_q1, (s13.trans s3C) _ _ hq1, .inl rfl⟩))
    · exact ov (.inr (.inr ⟨q2, _, rfl, fun z => hFG q2 z (g_none sm1 nG_q2), s3C _ _ hq2, .inr ⟨_, _, rfl, .inl rfl⟩⟩))
    · exact ov (.inr (.inr ⟨q3, _, rfl, fun z => hFG q3 z (g_none (sm1.trans s13) nG_q3), (s6B.trans smC) _ _ hq3, .inr ⟨_, _, rfl, .inr ⟨_, rfl⟩⟩⟩))
    · exact ov (.inr (.inr ⟨q4, _, rfl, fun z => hFG q4 z (g_none ((sm1.trans s13).trans s36) nG_q4), smC _ _ hq4, .inr ⟨_, _, rfl, .inr ⟨_, rfl⟩⟩⟩))
end

section
/-! ### what a deed gives, or its error -/
def AskE {K : PySem.W.Frag} {mg : Str → Option Value} (T : Tx K mg) (Q : VK) : XK := fun cls d H1 => ∃ (e : Ev) (dd : Addr), cls = .ref (e.C T) ∧ d = some dd ∧ H1 dd = some (.xd e.fs) ∧
  ∀ (f t : Addr) (H2 : Hp), Same H1 H2 → H2 f = some (.lst e.row) → H2 t = some (.tup [.non, .ref f]) → Q (.ref t) H2
def AskQ (Q : VK) : VK := fun v H1 => ∀ (t : Addr) (H2 : Hp), Same H1 H2 → H2 t = some (.tup [v, .non]) → Q (.ref t) H2
def TT_ask {K : PySem.W.Frag} {mg : Str → Option Value} (T : Tx K mg) : (XK → Hp → VK → Prop) → Hp → VK → Prop := fun tl H Q =>
  ∀ (H1 : Hp) (E : XK) (Q' : VK), Same H H1 → (∀ cls d H', AskE T Q cls d H' → E cls d H') → (∀ v H', AskQ Q v H' → Q' v H') → tl E H1 Q'
theorem gives_ask {K0 : PySem.W.Frag} {mg0 : Str → Option Value} (T : Tx K0 mg0) {X : Cx} (hK : X.K = K0 := by rfl) (hm : X.mg = mg0 := by rfl) {cdv : Value} {q : Str} : GivesA X N_ask "_law_ask" (defScope s_ask) T.a_ask cdv (defBody s_ask) "_law_deed" q (TT_ask T) := by
  subst hK
  subst hm
  intro lf lc s H Q tl act hlc hTT
  have nd := sc_ask.nd
  let K : PySem.W.Frag := X.K
  refine ⟨_, (pss_cons (ps_asg (pe_tup (pa_cons pe_non (pa_cons pe_non pa_nil))) (kpg_tup K 2 rfl (pgs_cons (kgL (i := 1) nd l_ask_law_told) (pgs_cons (kgL (i := 2) nd l_ask_law_fault) pgs_nil))))
      (pss_cons (ps_try_manyA rfl rfl nd takes_none5 (fun W pn xe tk _ => (pss_one (ks_setL (i := 1) nd l_ask_law_told (act W pn xe _ _ tk)))) (.cons (i := 3) rfl (locB_ok l_ask_error) ⟨g_ask_InvalidName, by decide, .inl T.m_InvalidName⟩ (fun a oe cls d pn hz hf => (pss_one (ks_setL (i := 2) nd l_ask_law_fault (pe_lst (pa_cons pe_str (pa_cons (pe_xf T.xf_InvalidName T.no_InvalidName_value hz hf (kv (i := 3) v_ask_error)) pa_nil)))))) (.cons (i := 3) rfl (locB_ok l_ask_error) ⟨g_ask_InvalidRule, by decide, .inl T.m_InvalidRule⟩ (fun a oe cls d pn hz hf => (pss_one (ks_setL (i := 2) nd l_ask_law_fault (pe_lst (pa_cons pe_str (pa_cons (pe_xf T.xf_InvalidRule T.no_InvalidRule_value hz hf (kv (i := 3) v_ask_error)) pa_nil)))))) (.cons (i := 3) rfl (locB_ok l_ask_error) ⟨g_ask_InvalidPlace, by decide, .inl T.m_InvalidPlace⟩ (fun a oe cls d pn hz hf => (pss_one (ks_setL (i := 2) nd l_ask_law_fault (pe_lst (pa_cons pe_str (pa_cons (pe_xf T.xf_InvalidPlace T.no_InvalidPlace_at hz hf (kv (i := 3) v_ask_error)) pa_nil)))))) (.cons (i := 3) rfl (locB_ok l_ask_error) ⟨g_ask_BadTree, by decide, .inl T.m_BadTree⟩ (fun a oe cls d pn hz hf => (pss_one (ks_setL (i := 2) nd l_ask_law_fault (pe_lst (pa_cons pe_str (pa_cons (pe_xf T.xf_BadTree T.no_BadTree_place hz hf (kv (i := 3) v_ask_error)) pa_nil)))))) (.cons (i := 3) rfl (locB_ok l_ask_error) ⟨g_ask_TooMany, by decide, .inl T.m_TooMany⟩ (fun a oe cls d pn hz hf => (pss_one (ks_setL (i := 2) nd l_ask_law_fault (pe_lst (pa_cons pe_str (pa_cons (pe_xf T.xf_TooMany T.no_TooMany_what hz hf (kv (i := 3) v_ask_error)) (pa_cons (pe_xf T.xf_TooMany T.no_TooMany_count hz hf (kv (i := 3) v_ask_error)) pa_nil))))))) (.cons (i := 3) rfl (locB_ok l_ask_error) ⟨g_ask_SureletError, by decide, .inl T.m_SureletError⟩ (fun a oe cls d pn hz hf => (pss_one (ks_setL (i := 2) nd l_ask_law_fault (pe_lst (pa_cons pe_str (pa_cons (pe_xf T.xf_InvalidName T.no_InvalidName_code hz hf (kv (i := 3) v_ask_error)) pa_nil)))))) .nil)))))))
      (pss_one (ps_ret (pe_tup (pa_cons (kv (i := 1) v_ask_law_told) (pa_cons (kv (i := 2) v_ask_law_fault) pa_nil))))))), ?_⟩
  walk_at "ss"
  intro p np
  have s1 := same_new (o := .tup [V.non, V.non]) np
  refine k_gTup (SqT.of upd_same) rfl ?_
  walk_at "ss"
  refine ⟨rfl, s1 _ _ hlc, hTT _ _ _ s1 (fun cls d H' hE => ?_) fun v H' hQ => ?_⟩
  · obtain ⟨e, dd, rfl, rfl, hd, kk⟩ := hE
    have fin : ∀ (f t : Addr) (nf : H' f = none) (nt : upd H' f (.lst e.row) t = none), Q (.ref t) (upd (upd H' f (.lst e.row)) t (.tup [.non, .ref f])) := fun f t nf nt => kk f t _ ((same_new nf).trans (same_new nt)) (same_new nt _ _ upd_same) upd_same
    cases e with
    | name v =>
      refine ⟨true, T.exm_InvalidName_InvalidName, fun _ a na => ?_, fun h => nomatch h⟩
      walk_at "ss"
      refine ⟨_, rfl, rfl, rfl, dd, _, _, rfl, hd, rfl, ?_⟩
      walk_at "ss"
      intro f nf
      walk_at "ss"
      intro t nt
      exact fin f t nf nt
    | rule v =>
      refine ⟨false, T.exm_InvalidRule_InvalidName, (fun h => nomatch h), fun _ => ?_⟩
      refine ⟨true, T.exm_InvalidRule_InvalidRule, fun _ a na => ?_, fun h => nomatch h⟩
      walk_at "ss"
      refine ⟨_, rfl, rfl, rfl, dd, _, _, rfl, hd, rfl, ?_⟩
      walk_at "ss"
      intro f nf
      walk_at "ss"
      intro t nt
      exact fin f t nf nt
    | place v =>
      refine ⟨false, T.exm_InvalidPlace_InvalidName, (fun h => nomatch h), fun _ => ?_⟩
      refine ⟨false, T.exm_InvalidPlace_InvalidRule, (fun h => nomatch h), fun _ => ?_⟩
      refine ⟨true, T.exm_InvalidPlace_InvalidPlace, fun _ a na => ?_, fun h => nomatch h⟩
      walk_at "ss"
      refine ⟨_, rfl, rfl, rfl, dd, _, _, rfl, hd, rfl, ?_⟩
      walk_at "ss"
      intro f nf
      walk_at "ss"
      intro t nt
      exact fin f t nf nt
    | bad v =>
      refine ⟨false, T.exm_BadTree_InvalidName, (fun h => nomatch h), fun _ => ?_⟩
      refine ⟨false, T.exm_BadTree_InvalidRule, (fun h => nomatch h), fun _ => ?_⟩
      refine ⟨false, T.exm_BadTree_InvalidPlace, (fun h => nomatch h), fun _ => ?_⟩
      refine ⟨true, T.exm_BadTree_BadTree, fun _ a na => ?_, fun h => nomatch h⟩
      walk_at "ss"
      refine ⟨_, rfl, rfl, rfl, dd, _, _, rfl, hd, rfl, ?_⟩
      walk_at "ss"
      intro f nf
      walk_at "ss"
      intro t nt
      exact fin f t nf nt
    | many z n =>
      refine ⟨false, T.exm_TooMany_InvalidName, (fun h => nomatch h), fun _ => ?_⟩
      refine ⟨false, T.exm_TooMany_InvalidRule, (fun h => nomatch h), fun _ => ?_⟩
      refine ⟨false, T.exm_TooMany_InvalidPlace, (fun h => nomatch h), fun _ => ?_⟩
      refine ⟨false, T.exm_TooMany_BadTree, (fun h => nomatch h), fun _ => ?_⟩
      refine ⟨true, T.exm_TooMany_TooMany, fun _ a na => ?_, fun h => nomatch h⟩
      walk_at "ss"
      refine ⟨_, rfl, rfl, rfl, dd, _, _, rfl, hd, rfl, ?_⟩
      walk_at "ss"
      refine ⟨_, rfl, rfl, rfl, dd, _, _, rfl, hd, rfl, ?_⟩
      walk_at "ss"
      intro f nf
      walk_at "ss"
      intro t nt
      exact fin f t nf nt
  · walk_at "ss"
    intro t nt
    exact hQ t _ (same_new nt) upd_same
end

section
variable {w : World} {K : PySem.W.Frag} {mg : Str → Option Value} {base : Heap}
/-! ### the law's own look at names and trees -/
theorem an_eq : (("abcdefghijklmnopqrstuvwxyz0123456789" : Str)).cps.toList = lets ++ digs := by decide +kernel
theorem spNamed_sp : True := trivial
def spNamed (K : PySem.W.Frag) : Sp := fun vs H Q _ => ∃ v : V, vs = [v] ∧ Gw K H v ∧ ∀ H', Same H H' → Q (.bl (nameV v)) H'
theorem ok_named (T : Tx K mg) : FnOk P w K mg base CX0 1 T.a_named T.fd_named P_named (spNamed K) := by
  refine T.F_named.ok sc_named (fun vs H Q E h => ?_) (fun cdv A outer s H vs Q E hr h => ?_)
  · obtain ⟨v, rfl, _⟩ := h
    rfl
  · obtain ⟨v, rfl, hv, k⟩ := h
    have nd := sc_named.nd
    refine ⟨_, (pss_cons (ps_if (PW.pt (pw_or (pt_not (pt_val (kcB b_isinstance (by decide) (by decide) (kc_isi K) g_named_isinstance T.n_isinstance (pa_cons (kv (i := 0) v_named_law_thing) (pa_cons (kty_str g_named_str T.n_str) pa_nil))))) (pw_or (pt_not (pt_chain op_le op_le pe_int (kcB b_len (by decide) (by decide) (kc_len K) g_named_len T.n_len (pa_cons (kv (i := 0) v_named_law_thing) pa_nil)) pe_int)) (pw_or1 (pt_cmpR op_in_sign (pe_ix (kix K) (kv (i := 0) v_named_law_thing) pe_int (fun _ _ => rfl)) pe_str (by rfl)))))) (pss_one (ps_ret pe_bl)) pss_nil)
      (pss_one (ps_ret (kcB b_all (by decide) (by decide) (cr_all rfl) g_named_all T.n_all (pa_cons (pe_lc (own := [("_law_sign", 1)]) rfl nd (pi_str (kv (i := 0) v_named_law_thing)) ok_cs_named_1 (fun _ _ _ _ _ => (kgL (i := 1) nd l_named_1_law_sign)) (fun _ _ _ _ _ => pts_nil) (fun _ _ _ _ _ => (pe_cmpR op_in_sign (kv (i := 1) v_named_1_law_sign) pe_str (by rfl)))) pa_nil))))), ?_⟩
    walk_at "ss"
    refine k_gwStr hv ?_
    walk_at "ss"
    have other : isStr v = false → nameV v = false := fun h => by cases v <;> first | rfl | cases h
    have hz : (∃ z, v = .str z ∧ z.length ≤ 100) ∨ isStr v = false := by
      rcases hv with hv | ⟨a, C, dx, fs, rfl, _⟩
      · cases hv <;> first | exact .inl ⟨_, rfl, by assumption⟩ | exact .inr rfl
      · exact .inr rfl
    rcases hz with ⟨z, rfl, hl⟩ | hz
    · show if (!true) = true then _ else _
      walk_at "ss"
      refine k_lenS (small_size (by omega)) ?_
      walk_at "ss"
      have hsl := str_len z
      have en : nameV (.str z) = nameD z.cps.toList := rfl
      cases hc : z.cps.toList with
      | nil =>
        rw [hc] at hsl en
        refine k_df (by rw [hsl]; decide) ?_
        walk_at "ss"
        rw [en] at k
        exact k _ (Same.refl _)
      | cons c r =>
        rw [hc] at hsl en
        simp only [List.length_cons] at hsl
        refine k_dt (by omega) ?_
        walk_at "ss"
        refine k_n (fun h8 => ?_) (fun h8 => ?_)
        · walk_at "ss"
          refine k_ixS (small_size (by omega)) (c := c) (by rw [hc]; exact atI_nat (j := 0) rfl) ?_
          walk_at "ss"
          refine ⟨c, _, rfl, rfl, ?_⟩
          rw [digs_eq]
          refine ⟨_, rfl, ?_⟩
          refine k_d (fun hcd => ?_) (fun hcd => ?_)
          · walk_at "ss"
            have e : nameV (.str z) = false := by
              rw [en]
              show (decide (r.length + 1 ≤ 8) && inL c && _) = false
              have : ¬ c ∈ lets := fun q => by have h1 := (mem_lets c).mp q; have h2 := (mem_digs c).mp hcd; omega
              rw [inL, decide_eq_false this, Bool.and_false, Bool.false_and]
            rw [e] at k
            exact k _ (Same.refl _)
          · walk_at "ss"
            refine k_iStr ?_
            walk_at "ss"
            refine ⟨z, rfl, ?_⟩
            intro D nD
            refine k_lcIt walk_str (fun i H' => H' D = some (.lst (((z.cps.toList.take i).map fun d => inL d || inD d).map V.bl)) ∧ Same H H') ⟨upd_same, same_new nD⟩ (fun _ _ _ _ => True.intro) ?_ ?_
            · rintro i x H1 H2 hi ⟨hD, sm⟩ ⟨rfl, d, hd, rfl⟩
              have hd2 : z.cps.toList[i]? = some d := by rw [← Array.getElem?_toList] at hd; exact hd
              walk_at "ss"
              refine ⟨rfl, ?_⟩
              walk_at "ss"
              refine ⟨d, _, rfl, rfl, ?_⟩
              have ht : (z.cps.toList.take i).length ≤ z.cps.toList.length := by rw [List.length_take]; omega
              rw [← str_len] at ht
              refine ⟨_, hD, small_lt (by simp only [List.length_map]; omega), ?_, same_put sm nD⟩
              rw [upd_same, List.take_add_one, hd2, an_eq]
              simp [inL, inD, Bool.decide_or]
            · rintro H1 ⟨hD, sm1⟩
              rw [← Array.length_toList, List.take_length] at hD
              walk_at "ss"
              refine ⟨D, _, rfl, SqL.of hD, ?_⟩
              have e : ((z.cps.toList.map fun d => inL d || inD d).all id) = nameV (.str z) := by
                rw [en, hc]
                show _ = (decide (r.length + 1 ≤ 8) && inL c && _)
                rw [List.all_map, decide_eq_true (show r.length + 1 ≤ 8 by omega), Bool.true_and]
                show ((c :: r).all fun d => inL d || inD d) = _
                cases hL : inL c with
                | true => rfl
                | false =>
                  have : inD c = false := decide_eq_false hcd
                  rw [List.all_cons, hL, this]
                  rfl
              rw [e]
              exact k _ sm1
        · walk_at "ss"
          have e : nameV (.str z) = false := by
            rw [en]
            show (decide (r.length + 1 ≤ 8) && inL c && _) = false
            rw [decide_eq_false (show ¬ r.length + 1 ≤ 8 by omega), Bool.false_and, Bool.false_and]
          rw [e] at k
          exact k _ (Same.refl _)
    · rw [hz]
      walk_at "ss"
      rw [other hz] at k
      exact k _ (Same.refl _)
theorem cut_pre {α : Type} (f : α → V) (l : List α) {j : Nat} (h : j ≤ l.length) : cutV (l.map f) none (some ((j : Nat) : Int)) = (l.take j).map f := by
  have e : HT.sIx (l.map f).length (l.map f).length (some ((j : Nat) : Int)) = j := by
    rw [List.length_map]
    unfold HT.sIx
    dsimp only
    rw [if_neg (by omega)]
    omega
  unfold cutV
  rw [e, List.map_take]
  rfl
def fEl (r : PlRow) (y : Addr × PlRow) : Bool := decide (V.str y.2.nm = vO r.el)
theorem fit_el {ah : PL} {r : PlRow} (hn : r.nm ∉ (ah.map (·.2)).map (·.nm)) (hne : ah ≠ []) : fitR (ah.map (·.2)) r = (match ah.filter (fEl r) with
    | [] => false
    | u :: _ => if u.2.me = true then false else if u.2.sv = r.sv then true else (!r.me && !decide (r.sv ∈ (ah.map (·.2)).map (·.sv)))) := by
  unfold fitR
  rw [if_neg hn, if_neg (by simpa using hne)]
  cases he : r.el with
  | none =>
    have : ah.filter (fEl r) = [] := List.filter_eq_nil_iff.mpr fun y hy => by
      unfold fEl
      rw [he]
      simp [vO]
    rw [this]
  | some e =>
    dsimp only
    rw [find_rows]
    have e2 : (fun z : Addr × PlRow => decide (z.2.nm = e)) = fEl r := by
      funext y
      unfold fEl
      rw [he]
      simp [vO]
    rw [e2, ← List.head?_filter]
    cases ah.filter (fEl r) with
    | nil => rfl
    | cons u us => rfl
def spAtF : Sp := fun vs H Q _ => ∃ (p : Addr) (l : PL) (j : Nat) (z : Addr × PlRow), vs = [.ref p, .int (j : Nat)] ∧ RowsAt H p l ∧ l.length ≤ 30 ∧ l[j]? = some z ∧ ∀ H', Same H H' → Q (.bl (!fitR ((l.take j).map (·.2)) z.2)) H'
theorem ok_at_fault (T : Tx K mg) : FnOk P w K mg base CX0 2 T.a_at_fault T.fd_at_fault P_at_fault spAtF := by
  refine T.F_at_fault.ok sc_at_fault (fun vs H Q E h => ?_) (fun cdv A outer s H vs Q E hr h => ?_)
  · obtain ⟨p, l, j, z, rfl, _⟩ := h
    rfl
  · obtain ⟨p, l, j, z, rfl, hR, hl, hj, k⟩ := h
    have nd := sc_at_fault.nd
    refine ⟨_, (pss_cons (ps_asg (pe_tup (pa_cons (pe_ix (kix K) (kv (i := 0) v_at_fault_law_rows) (kv (i := 1) v_at_fault_law_j) (fun _ _ => rfl)) (pa_cons (pe_slice (ksl_list K) (kv (i := 0) v_at_fault_law_rows) po_none (po_some (kv (i := 1) v_at_fault_law_j))) pa_nil))) (kpg_tup K 2 rfl (pgs_cons (kgC (i := 2) nd c_at_fault_law_row_here) (pgs_cons (kgL (i := 3) nd l_at_fault_law_ahead) pgs_nil))))
      (pss_cons (ps_if (pt_cmpR (kop_in K) (pe_ix (kix K) (kv (i := 2) v_at_fault_law_row_here) pe_int (fun _ _ => rfl)) (pe_lc (own := [("_law_one", 5)]) rfl nd (kpi_list K (kv (i := 3) v_at_fault_law_ahead)) ok_cs_at_fault_3 (fun _ _ _ _ _ => (kgL (i := 5) nd l_at_fault_3_law_one)) (fun _ _ _ _ _ => pts_nil) (fun _ _ _ _ _ => (pe_ix (kix K) (kv (i := 5) v_at_fault_3_law_one) pe_int (fun _ _ => rfl)))) (by rfl)) (pss_one (ps_ret pe_bl)) pss_nil)
      (pss_cons (ps_if (pt_cmpR op_eq (kv (i := 1) v_at_fault_law_j) pe_int (nomark _)) (pss_one (ps_ret (pe_or (pe_cmpR op_notN (pe_ix (kix K) (kv (i := 2) v_at_fault_law_row_here) pe_int (fun _ _ => rfl)) pe_non (nomark _)) (pe_or (pe_ix (kix K) (kv (i := 2) v_at_fault_law_row_here) pe_int (fun _ _ => rfl)) (pe_one (pe_cmpR op_notN (pe_ix (kix K) (kv (i := 2) v_at_fault_law_row_here) pe_int (fun _ _ => rfl)) pe_non (nomark _))))))) pss_nil)
      (pss_cons (ps_setLc (i := 4) (own := [("_law_one", 5)]) rfl nd rfl (locB_ok l_at_fault_law_above) (sw_true rfl (locB_ok l_at_fault_law_above) rfl (by decide +kernel)) (kpi_list K (kv (i := 3) v_at_fault_law_ahead)) ok_cs_at_fault_2 (fun _ _ _ _ _ => (kgL (i := 5) nd l_at_fault_2_law_one)) (fun _ _ _ _ _ => (pts_one (pt_cmpR op_eq (pe_ix (kix K) (kv (i := 5) v_at_fault_2_law_one) pe_int (fun _ _ => rfl)) (pe_ix (kix K) (kv (i := 2) v_at_fault_2_law_row_here) pe_int (fun _ _ => rfl)) (nomark _)))) (fun _ _ _ _ _ => (kv (i := 5) v_at_fault_2_law_one)))
      (pss_cons (ps_if (PW.pt (pw_or (pt_not (kpt_truth K (kv (i := 4) v_at_fault_law_above))) (pw_or1 (kpt_truth K (pe_ix (kix K) (pe_ix (kix K) (kv (i := 4) v_at_fault_law_above) pe_int (fun _ _ => rfl)) pe_int (fun _ _ => rfl)))))) (pss_one (ps_ret pe_bl)) pss_nil)
      (pss_cons (ps_if (pt_cmpR op_eq (pe_ix (kix K) (pe_ix (kix K) (kv (i := 4) v_at_fault_law_above) pe_int (fun _ _ => rfl)) pe_int (fun _ _ => rfl)) (pe_ix (kix K) (kv (i := 2) v_at_fault_law_row_here) pe_int (fun _ _ => rfl)) (nomark _)) (pss_one (ps_ret pe_bl)) pss_nil)
      (pss_one (ps_ret (pe_or (pe_ix (kix K) (kv (i := 2) v_at_fault_law_row_here) pe_int (fun _ _ => rfl)) (pe_one (pe_cmpR (kop_in K) (pe_ix (kix K) (kv (i := 2) v_at_fault_law_row_here) pe_int (fun _ _ => rfl)) (pe_lc (own := [("_law_one", 5)]) rfl nd (kpi_list K (kv (i := 3) v_at_fault_law_ahead)) ok_cs_at_fault_1 (fun _ _ _ _ _ => (kgL (i := 5) nd l_at_fault_1_law_one)) (fun _ _ _ _ _ => pts_nil) (fun _ _ _ _ _ => (pe_ix (kix K) (kv (i := 5) v_at_fault_1_law_one) pe_int (fun _ _ => rfl)))) (by rfl)))))))))))), ?_⟩
    have hjl : j < l.length := (List.getElem?_eq_some_iff.mp hj).1
    have hzr := hR.rows z (List.mem_of_getElem? hj)
    walk_at "ss"
    refine k_ixL (SqL.of hR.at_) (v := .ref z.1) (atI_nat (by rw [List.getElem?_map, hj]; rfl)) ?_
    walk_at "ss"
    refine k_slL (SqL.of hR.at_) ?_
    rw [cut_pre (fun z : Addr × PlRow => V.ref z.1) l (by omega)]
    intro A nA
    generalize eA : upd H A _ = H1
    have s1 := upd_sm eA nA
    have hA := upd_at eA
    clear eA
    walk_at "ss"
    intro t2 n2
    generalize eA : upd H1 t2 _ = H2
    have s2 := upd_sm eA n2
    have ht2 := upd_at eA
    clear eA
    refine k_gTup (SqT.of ht2) rfl ?_
    have hA2 := s2 _ _ hA
    have hz2 := (hzr.up s1).up s2
    have hR2 := (hR.up s1).up s2
    have hrows : ∀ y ∈ l.take j, RowAt H2 y.1 y.2 := fun y hy => hR2.rows y (List.mem_of_mem_take hy)
    have hal : (l.take j).length ≤ 30 := by rw [List.length_take]; omega
    have s02 := s1.trans s2
    generalize hah : l.take j = ah at hA2 hrows hal k
    walk_at "ss"
    refine k_iL (SqL.of hA2) ?_
    intro D1 nD1
    refine k_lcList (ah.map fun z => V.ref z.1) (fun i H' => H' D1 = some (.lst ((((ah.take i).map (·.2)).map (·.nm)).map V.str)) ∧ Same H2 H') ⟨upd_same, same_new nD1⟩ (fun i H' _ h => SqL.of (h.2 _ _ hA2)) ?_ ?_
    · rintro i x H' hx ⟨hD, sm⟩
      rw [List.getElem?_map] at hx
      obtain ⟨y, hy, rfl⟩ := Option.map_eq_some_iff.mp hx
      have hy' := (hrows y (List.mem_of_getElem? hy)).up sm
      have hi := (List.getElem?_eq_some_iff.mp hy).1
      walk_at "ss"
      refine ⟨rfl, ?_⟩
      walk_at "ss"
      refine ⟨_, hD, small_lt (by simp only [List.length_map, List.length_take]; omega), ?_, same_put sm nD1⟩
      rw [upd_same, List.take_add_one, hy]
      simp
    rintro H3 ⟨hD1, s3⟩
    rw [List.length_map, List.take_length] at hD1
    have hz3 := hz2.up s3
    have hA3 := s3 _ _ hA2
    have hrows3 : ∀ y ∈ ah, RowAt H3 y.1 y.2 := fun y hy => (hrows y hy).up s3
    have s03 := s02.trans s3
    clear hA2 hz2 hrows
    refine ⟨D1, _, rfl, .inl (SqL.of hD1), rfl, flat_strs _, ?_⟩
    rw [if_neg (show ¬ false = true from fun e => by cases e), inV_strs]
    refine ⟨_, rfl, ?_⟩
    refine k_d (fun hin => ?_) (fun hout => ?_)
    · walk_at "ss"
      have e : fitR (ah.map (·.2)) z.2 = false := by unfold fitR; rw [if_pos hin]
      rw [e] at k
      exact k _ s03
    · walk_at "ss"
      refine k_d (fun h0 => ?_) (fun h0 => ?_)
      · have hah0 : ah = [] := by
          rw [← hah, show j = 0 by omega]
          rfl
        have e : fitR (ah.map (·.2)) z.2 = (decide (z.2.el = none) && (!z.2.me && decide (z.2.cu = none))) := by rw [hah0]; rfl
        rw [e] at k
        walk_at "ss"
        refine ⟨rfl, ?_⟩
        refine ⟨_, rfl, ?_⟩
        refine k_n (fun h1 => ?_) (fun h1 => ?_)
        · rw [decide_eq_true ((vO_non _).mp h1), Bool.true_and] at k
          walk_at "ss"
          cases hm : z.2.me with
          | true =>
            rw [hm] at k
            exact k _ s03
          | false =>
            rw [hm] at k
            refine k_f ?_
            walk_at "ss"
            refine ⟨rfl, ?_⟩
            rw [decide_eq_decide.mpr (vO_non z.2.cu)]
            exact k _ s03
        · rw [decide_eq_false (fun q => h1 ((vO_non _).mpr q)), Bool.false_and] at k
          exact k _ s03
      · have hne : ah ≠ [] := fun q => by
          have := congrArg List.length hah
          rw [q, List.length_take, List.length_nil] at this
          omega
        have ef := fit_el hout hne
        walk_at "ss"
        refine k_iL (SqL.of hA3) ?_
        intro D2 nD2
        refine k_lcList (ah.map fun z => V.ref z.1) (fun i H' => H' D2 = some (.lst (((ah.take i).filter (fEl z.2)).map fun z => V.ref z.1)) ∧ Same H3 H') ⟨upd_same, same_new nD2⟩ (fun i H' _ h => SqL.of (h.2 _ _ hA3)) ?_ ?_
        · rintro i x H' hx ⟨hD, sm⟩
          rw [List.getElem?_map] at hx
          obtain ⟨y, hy, rfl⟩ := Option.map_eq_some_iff.mp hx
          have hy' := (hrows3 y (List.mem_of_getElem? hy)).up sm
          have hz' := hz3.up sm
          have hi := (List.getElem?_eq_some_iff.mp hy).1
          have step : ((ah.take (i + 1)).filter (fEl z.2)) = ((ah.take i).filter (fEl z.2)) ++ (if fEl z.2 y = true then [y] else []) := by
            rw [List.take_add_one, hy, List.filter_append]
            simp [List.filter_cons]
          walk_at "ss"
          refine ⟨rfl, ?_⟩
          walk_at "ss"
          refine k_eq (by cases z.2.el <;> rfl) ?_
          refine ⟨_, rfl, ?_⟩
          refine k_b (fun hf => ?_) (fun hf => ?_)
          · walk_at "ss"
            refine ⟨_, hD, small_lt (by rw [List.length_map]; have := List.length_filter_le (fEl z.2) (ah.take i); rw [List.length_take] at this; omega), ?_, same_put sm nD2⟩
            rw [upd_same, step, if_pos (show fEl z.2 y = true from hf), List.map_append]
            rfl
          · refine ⟨?_, sm⟩
            rw [step, if_neg (show ¬ fEl z.2 y = true from fun q => by rw [show fEl z.2 y = false from hf] at q; cases q), List.append_nil]
            exact hD
        · rintro H4 ⟨hD2, s4⟩
          rw [List.length_map, List.take_length] at hD2
          have hz4 := hz3.up s4
          have hA4 := s4 _ _ hA3
          have s04 := s03.trans s4
          walk_at "ss"
          refine k_tru ?_
          walk_at "ss"
          refine ⟨!_, .inl ⟨_, SqL.of hD2, rfl⟩, ?_⟩
          cases hfl : ah.filter (fEl z.2) with
          | nil =>
            rw [hfl] at ef
            rw [ef] at k
            refine k_t ?_
            walk_at "ss"
            exact k _ s04
          | cons u us =>
            have hu : u ∈ ah := (List.mem_filter.mp (hfl ▸ List.mem_cons_self)).1
            have hu4 := (hrows3 u hu).up s4
            rw [hfl] at ef hD2
            dsimp only at ef
            rw [ef] at k
            refine k_f ?_
            refine k_tru ?_
            walk_at "ss"
            refine k_ixL (SqL.of hD2) (v := .ref u.1) (atI_nat (j := 0) rfl) ?_
            walk_at "ss"
            refine ⟨u.2.me, rfl, ?_⟩
            cases hum : u.2.me with
            | true =>
              rw [if_pos hum] at k
              refine k_t ?_
              walk_at "ss"
              exact k _ s04
            | false =>
              rw [if_neg (by rw [hum]; decide)] at k
              refine k_f ?_
              walk_at "ss"
              refine k_ixL (SqL.of hD2) (v := .ref u.1) (atI_nat (j := 0) rfl) ?_
              walk_at "ss"
              refine k_eq rfl ?_
              rw [show decide (V.str u.2.sv = V.str z.2.sv) = decide (u.2.sv = z.2.sv) by simp]
              refine ⟨_, rfl, ?_⟩
              refine k_d (fun hs => ?_) (fun hs => ?_)
              · rw [if_pos hs] at k
                walk_at "ss"
                exact k _ s04
              · rw [if_neg hs] at k
                walk_at "ss"
                cases hzm : z.2.me with
                | true =>
                  rw [hzm] at k
                  exact k _ s04
                | false =>
                  rw [hzm] at k
                  refine k_f ?_
                  walk_at "ss"
                  refine k_iL (SqL.of hA4) ?_
                  intro D3 nD3
                  refine k_lcList (ah.map fun z => V.ref z.1) (fun i H' => H' D3 = some (.lst ((((ah.take i).map (·.2)).map (·.sv)).map V.str)) ∧ Same H4 H') ⟨upd_same, same_new nD3⟩ (fun i H' _ h => SqL.of (h.2 _ _ hA4)) ?_ ?_
                  · rintro i x H' hx ⟨hD, sm⟩
                    rw [List.getElem?_map] at hx
                    obtain ⟨y, hy, rfl⟩ := Option.map_eq_some_iff.mp hx
                    have hy' := ((hrows3 y (List.mem_of_getElem? hy)).up s4).up sm
                    have hi := (List.getElem?_eq_some_iff.mp hy).1
                    walk_at "ss"
                    refine ⟨rfl, ?_⟩
                    walk_at "ss"
                    refine ⟨_, hD, small_lt (by simp only [List.length_map, List.length_take]; omega), ?_, same_put sm nD3⟩
                    rw [upd_same, List.take_add_one, hy]
                    simp
                  · rintro H5 ⟨hD3, s5⟩
                    rw [List.length_map, List.take_length] at hD3
                    refine ⟨D3, _, rfl, .inl (SqL.of hD3), rfl, flat_strs _, ?_⟩
                    rw [if_neg (show ¬ false = true from fun e => by cases e), inV_strs]
                    have e : (!(!false && !decide (z.2.sv ∈ (ah.map (·.2)).map (·.sv)))) = decide (z.2.sv ∈ (ah.map (·.2)).map (·.sv)) := by simp
                    rw [e] at k
                    exact k _ (s04.trans s5)
end

section
variable {w : World} {K : PySem.W.Frag} {mg : Str → Option Value} {base : Heap}
/-! ### the error that is due; bent rows -/
def rowsDue (rs : List PlRow) : Option Ev := if rs = [] then some (.bad .non) else if 24 < rs.length then some (.many "places" (rs.length : Nat)) else match misfit [] rs with
  | some r => some (.bad (.str r.nm))
  | none => none
def spDueR : Sp := fun vs H Q _ => ∃ (p : Addr) (l : PL), vs = [.ref p] ∧ RowsAt H p l ∧ l.length ≤ 30 ∧ (rowsDue (l.map (·.2)) = none → ∀ H', Same H H' → Q .non H') ∧ (∀ e, rowsDue (l.map (·.2)) = some e → ∀ (f : Addr) (H' : Hp), Same H H' → H' f = some (.lst e.row) → Q (.ref f) H')
theorem ok_due (T : Tx K mg) : FnOk P w K mg base CX0 3 T.a_due T.fd_due P_due spDueR := by
  refine T.F_due.ok sc_due (fun vs H Q E h => ?_) (fun cdv A outer s H vs Q E hr h => ?_)
  · obtain ⟨p, l, rfl, _⟩ := h
    rfl
  · obtain ⟨p, l, rfl, hR, hl, kn, kb⟩ := h
    have nd := sc_due.nd
    refine ⟨_, (pss_cons (ps_if (pt_not (kpt_truth K (kv (i := 0) v_due_law_rows))) (pss_one (ps_ret (pe_lst (pa_cons pe_str (pa_cons pe_non pa_nil))))) pss_nil)
      (pss_cons (ps_if (pt_cmpR op_gt (kcB b_len (by decide) (by decide) (kc_len K) g_due_len T.n_len (pa_cons (kv (i := 0) v_due_law_rows) pa_nil)) pe_int (nomark _)) (pss_one (ps_ret (pe_lst (pa_cons pe_str (pa_cons pe_str (pa_cons (kcB b_len (by decide) (by decide) (kc_len K) g_due_len T.n_len (pa_cons (kv (i := 0) v_due_law_rows) pa_nil)) pa_nil)))))) pss_nil)
      (pss_cons (ps_for PassesOwn.never rfl (pi_range1 g_due_range T.n_range (pa_cons (kcB b_len (by decide) (by decide) (kc_len K) g_due_len T.n_len (pa_cons (kv (i := 0) v_due_law_rows) pa_nil)) pa_nil)) (kgL (i := 1) nd l_due_law_j) (pss_one (ps_if (pt_val (pe_call (ok_at_fault T) (hr.mono (by first | decide | omega)) g_due_law_at_fault T.m_at_fault T.k_at_fault T.b_at_fault .nil pass0 (pa_cons (kv (i := 0) v_due_law_rows) (pa_cons (kv (i := 1) v_due_law_j) pa_nil)))) (pss_one (ps_ret (pe_lst (pa_cons pe_str (pa_cons (pe_ix (kix K) (pe_ix (kix K) (kv (i := 0) v_due_law_rows) (kv (i := 1) v_due_law_j) (fun _ _ => rfl)) pe_int (fun _ _ => rfl)) pa_nil))))) pss_nil)))
      (pss_one (ps_ret pe_non))))), ?_⟩
    walk_at "ss"
    refine k_tru ?_
    walk_at "ss"
    refine ⟨!_, .inl ⟨_, SqL.of hR.at_, rfl⟩, ?_⟩
    cases hc : l with
    | nil =>
      refine k_t ?_
      walk_at "ss"
      intro f nf
      exact kb (.bad .non) (by rw [hc]; rfl) f _ (same_new nf) upd_same
    | cons z0 l0 =>
      have hne : ¬ l.map (·.2) = [] := by rw [hc]; intro q; cases q
      rw [if_neg (show ¬ (!(!List.isEmpty ((z0 :: l0).map fun z => V.ref z.1))) = true from fun e => by cases e)]
      walk_at "ss"
      refine k_lenL (SqL.of hR.at_) ?_
      walk_at "ss"
      refine k_d (fun h24 => ?_) (fun h24 => ?_)
      · rw [List.length_map] at h24
        walk_at "ss"
        refine k_lenL (SqL.of hR.at_) ?_
        walk_at "ss"
        intro f nf
        refine kb (.many "places" (l.length : Nat)) ?_ f _ (same_new nf) ?_
        · unfold rowsDue
          rw [if_neg hne, List.length_map, if_pos (by omega)]
        · rw [upd_same, List.length_map]
          rfl
      · rw [List.length_map] at h24
        have ed : rowsDue (l.map (·.2)) = match misfit [] (l.map (·.2)) with
            | some r => some (.bad (.str r.nm))
            | none => none := by
          unfold rowsDue
          rw [if_neg hne, List.length_map, if_neg (by omega)]
        walk_at "ss"
        refine k_lenL (SqL.of hR.at_) ?_
        walk_at "ss"
        refine k_r1 (by rw [List.length_map]; exact ⟨by omega, by omega⟩) ?_
        refine k_forRange (fun i σ H' => Same H H' ∧ (∃ u, σ = [some (.ref p), u]) ∧ misfit [] (l.map (·.2)) = misfit ((l.take i).map (·.2)) ((l.drop i).map (·.2))) ⟨Same.refl _, ⟨_, rfl⟩, rfl⟩ ?_ ?_
        · rintro i σ H' hi ⟨sm, ⟨u, rfl⟩, hm⟩
          have hi : i < l.length := by
            have : i < Int.toNat ((l.map fun z => V.ref z.1).length : Nat) := hi
            rw [List.length_map] at this
            omega
          have hz : l[i]? = some l[i] := List.getElem?_eq_getElem hi
          have hR' := hR.up sm
          walk_at "ss"
          refine ⟨p, l, i, l[i], by rw [Int.zero_add]; rfl, hR', hl, hz, fun H2 s2 => ?_⟩
          refine ⟨_, rfl, ?_⟩
          have hdr : l.drop i = l[i] :: l.drop (i + 1) := List.drop_eq_getElem_cons hi
          have htk : l.take (i + 1) = l.take i ++ [l[i]] := by rw [List.take_add_one, hz]; rfl
          rw [hdr] at hm
          have hm : misfit [] (l.map (·.2)) = if fitR ((l.take i).map (·.2)) l[i].2 = true then misfit ((l.take i).map (·.2) ++ [l[i].2]) ((l.drop (i + 1)).map (·.2)) else some l[i].2 := hm
          cases hf : fitR ((l.take i).map (·.2)) l[i].2 with
          | true =>
            rw [hf, if_pos rfl] at hm
            refine k_f ?_
            walk_at "ss"
            refine ⟨sm.trans s2, ⟨_, rfl⟩, ?_⟩
            rw [hm, htk, List.map_append]
            rfl
          | false =>
            rw [hf, if_neg (by decide)] at hm
            have hR2 := hR'.up s2
            have hzr := hR2.rows l[i] (List.getElem_mem hi)
            refine k_t ?_
            walk_at "ss"
            refine k_ixL (SqL.of hR2.at_) (v := .ref l[i].1) (by rw [Int.zero_add]; exact atI_nat (by rw [List.getElem?_map, hz]; rfl)) ?_
            walk_at "ss"
            intro f nf
            exact kb (.bad (.str l[i].2.nm)) (by rw [ed, hm]) f _ ((sm.trans s2).trans (same_new nf)) upd_same
        · rintro σ H' ⟨sm, ⟨u, rfl⟩, hm⟩
          have e : Int.toNat ((l.map fun z => V.ref z.1).length : Nat) = l.length := by rw [List.length_map]; omega
          rw [e, List.take_length, List.drop_length] at hm
          walk_at "ss"
          exact kn (by rw [ed, hm]; rfl) H' sm
theorem ixN_i {n : Nat} {d : Int} (h0 : 0 ≤ d) (h1 : d < (n : Int)) : ∃ j : Nat, ixN n d = some j ∧ j < n ∧ (j : Int) = d := by
  obtain ⟨j, rfl⟩ := Int.eq_ofNat_of_zero_le h0
  refine ⟨j, ?_, by omega, rfl⟩
  unfold ixN
  rw [if_pos (by omega)]
  simp; omega
theorem last_at (xs : List V) (h : xs ≠ []) : atI xs (-1) = xs.getLast? := by
  rw [← List.dropLast_concat_getLast h, atI_last]
  simp
theorem at_pre {xs : List V} {d : Int} (h0 : 0 ≤ d) (h1 : d < (xs.length : Int)) : ∃ v, v ∈ xs ∧ atI xs (d - 1) = some v := by
  by_cases hd : d = 0
  · subst hd
    have hne : xs ≠ [] := fun e => by rw [e] at h1; simp at h1
    refine ⟨xs.getLast hne, List.getLast_mem hne, ?_⟩
    show atI xs (-1) = _
    rw [last_at xs hne, List.getLast?_eq_some_getLast hne]
  · obtain ⟨j, hj⟩ := Int.eq_ofNat_of_zero_le (show 0 ≤ d - 1 by omega)
    have hj2 : j < xs.length := by omega
    refine ⟨xs[j], List.getElem_mem hj2, ?_⟩
    rw [hj]
    exact atI_nat (by simp [hj2])
theorem cut_post {α : Type} (f : α → V) (l : List α) {j : Nat} (h : j ≤ l.length) : cutV (l.map f) (some ((j : Nat) : Int)) none = (l.drop j).map f := by
  unfold cutV
  rw [HT.sIx_none, HT.sIx_nat, List.length_map, Nat.min_eq_left h, ← List.map_drop, List.take_of_length_le (by rw [List.length_map, List.length_drop]; exact Nat.le_refl _)]
theorem map_erase {α β : Type} (f : α → β) : ∀ (l : List α) (j : Nat), (l.map f).eraseIdx j = (l.eraseIdx j).map f
  | [], _ => rfl
  | _ :: _, 0 => rfl
  | a :: l, j + 1 => congrArg (List.cons (f a)) (map_erase f l j)
theorem RowsAt.set {G : Hp} {L pa : Addr} {l : PL} {r : PlRow} (h : RowsAt G L l) (hr : RowAt G pa r) (j : Nat) : RowsAt (upd G L (.lst ((l.map fun z => V.ref z.1).set j (.ref pa)))) L (l.set j (pa, r)) := by
  refine ⟨by rw [upd_same, List.map_set], fun z hz => ?_⟩
  have key : RowAt G z.1 z.2 := by
    rcases List.mem_or_eq_of_mem_set hz with hz | rfl
    · exact h.rows z hz
    · exact hr
  exact (upd_ne (ne_of key h.at_ (by intro q; cases q))).trans key
theorem good_set {l : PL} {pa : Addr} {r : PlRow} (h : ∀ z ∈ l, GoodR z.2) (hr : GoodR r) (j : Nat) : ∀ z ∈ l.set j (pa, r), GoodR z.2 := fun z hz => by
  rcases List.mem_or_eq_of_mem_set hz with hz | rfl
  · exact h z hz
  · exact hr
def spBent (K : PySem.W.Frag) : Sp := fun vs H Q _ => ∃ (G0 G : Hp) (b p q : Addr) (β : HO) (l : PL) (hs : List Str), vs = [.ref b, .ref p, .ref q] ∧ H = upd G b β ∧ Bag K G0 G b β ∧ RowsAt G p l ∧ l ≠ [] ∧ l.length ≤ 30 ∧ (∀ z ∈ l, GoodR z.2) ∧ G q = some (.lst (hs.map V.str)) ∧ hs.length ≤ 6 ∧ (∀ z ∈ hs, GoodN z) ∧
  ∀ (L : Addr) (l' : PL) (G' : Hp) (β' : HO), Same G G' → Bag K G0 G' b β' → RowsAt G' L l' → l'.length ≤ l.length + 1 → l.length ≤ l'.length + 1 → (∀ z ∈ l', GoodR z.2) → Q (.ref L) (upd G' b β')
theorem ok_bent (T : Tx K mg) : FnOk P w K mg base CX0 3 T.a_bent T.fd_bent P_bent (spBent K) := by
  refine T.F_bent.ok sc_bent (fun vs H Q E h => ?_) (fun cdv A outer s H vs Q E hr h => ?_)
  · obtain ⟨G0, G, b, p, q, β, l, hs, rfl, _⟩ := h
    rfl
  · obtain ⟨G0, G, b, p, q, β, l, hs, rfl, rfl, hb, hR, hne, hl, hg, hq, hql, hgh, k⟩ := h
    have nd := sc_bent.nd
    refine ⟨_, (pss_cons (ps_par (i := 3) (j := 4) rfl nd rfl rfl (by decide) (locB_ok l_bent_law_some) (locB_ok l_bent_law_j) (pa_cons (kcT b_list (by decide) (by decide) (kc_list K) g_bent_list T.n_list (pa_cons (kv (i := 1) v_bent_law_rows) pa_nil)) (pa_cons (pe_call (ok_draw T) (hr.mono (by first | decide | omega)) g_bent_law_draw T.m_draw T.k_draw T.b_draw .nil pass0 (pa_cons (kv (i := 0) v_bent_law_bag_here) (pa_cons (kcB b_len (by decide) (by decide) (kc_len K) g_bent_len T.n_len (pa_cons (kv (i := 1) v_bent_law_rows) pa_nil)) pa_nil))) pa_nil)) (by rfl))
      (pss_cons (ps_par (i := 5) (j := 6) rfl nd rfl rfl (by decide) (locB_ok l_bent_law_row_here) (locB_ok l_bent_law_other) (pa_cons (pe_ix (kix K) (kv (i := 3) v_bent_law_some) (kv (i := 4) v_bent_law_j) (fun _ _ => rfl)) (pa_cons (pe_call (ok_of T) (hr.mono (by first | decide | omega)) g_bent_law_of T.m_of T.k_of T.b_of .nil pass0 (pa_cons (kv (i := 0) v_bent_law_bag_here) (pa_cons (kv (i := 1) v_bent_law_rows) pa_nil))) pa_nil)) (by rfl))
      (pss_cons (ks_setL (i := 7) nd l_bent_law_pick (pe_call (ok_draw T) (hr.mono (by first | decide | omega)) g_bent_law_draw T.m_draw T.k_draw T.b_draw .nil pass0 (pa_cons (kv (i := 0) v_bent_law_bag_here) (pa_cons pe_int pa_nil))))
      (pss_cons (ps_if (pt_cmpR op_eq (kv (i := 7) v_bent_law_pick) pe_int (nomark _)) (pss_cons (ks_setL (i := 8) nd l_bent_law_k (pe_call (ok_draw T) (hr.mono (by first | decide | omega)) g_bent_law_draw T.m_draw T.k_draw T.b_draw .nil pass0 (pa_cons (kv (i := 0) v_bent_law_bag_here) (pa_cons (kcB b_len (by decide) (by decide) (kc_len K) g_bent_len T.n_len (pa_cons (kv (i := 3) v_bent_law_some) pa_nil)) pa_nil))))
      (pss_one (ps_asg (pe_tup (pa_cons (pe_ix (kix K) (kv (i := 3) v_bent_law_some) (kv (i := 8) v_bent_law_k) (fun _ _ => rfl)) (pa_cons (pe_ix (kix K) (kv (i := 3) v_bent_law_some) (kv (i := 4) v_bent_law_j) (fun _ _ => rfl)) pa_nil))) (kpg_tup K 2 rfl (pgs_cons (pg_sub (kv (i := 3) v_bent_law_some) (kv (i := 4) v_bent_law_j) set_list) (pgs_cons (pg_sub (kv (i := 3) v_bent_law_some) (kv (i := 8) v_bent_law_k) set_list) pgs_nil)))))) (pss_one (ps_if (pt_cmpR op_eq (kv (i := 7) v_bent_law_pick) pe_int (nomark _)) (pss_one (ps_expr (pe_bm PySem.F.plainAttrs_list PySem.F.slot_list_pop PySem.F.type_list_pop mt_popAt (kv (i := 3) v_bent_law_some) (pa_cons (kv (i := 4) v_bent_law_j) pa_nil)))) (pss_one (ps_if (pt_cmpR op_eq (kv (i := 7) v_bent_law_pick) pe_int (nomark _)) (pss_one (ps_asg (pe_tup (pa_cons (pe_ix (kix K) (kv (i := 6) v_bent_law_other) pe_int (fun _ _ => rfl)) (pa_cons (pe_ix (kix K) (kv (i := 5) v_bent_law_row_here) pe_int (fun _ _ => rfl)) (pa_cons (pe_ix (kix K) (kv (i := 5) v_bent_law_row_here) pe_int (fun _ _ => rfl)) (pa_cons (pe_ix (kix K) (kv (i := 5) v_bent_law_row_here) pe_int (fun _ _ => rfl)) (pa_cons (pe_ix (kix K) (kv (i := 5) v_bent_law_row_here) pe_int (fun _ _ => rfl)) pa_nil)))))) (pg_sub (kv (i := 3) v_bent_law_some) (kv (i := 4) v_bent_law_j) set_list))) (pss_one (ps_if (pt_cmpR op_eq (kv (i := 7) v_bent_law_pick) pe_int (nomark _)) (pss_one (ps_asg (pe_tup (pa_cons (pe_ix (kix K) (kv (i := 5) v_bent_law_row_here) pe_int (fun _ _ => rfl)) (pa_cons (pe_ix (kix K) (kv (i := 5) v_bent_law_row_here) pe_int (fun _ _ => rfl)) (pa_cons (pe_call (ok_of T) (hr.mono (by first | decide | omega)) g_bent_law_of T.m_of T.k_of T.b_of .nil pass0 (pa_cons (kv (i := 0) v_bent_law_bag_here) (pa_cons (pe_lst (pa_cons (pe_ix (kix K) (kv (i := 6) v_bent_law_other) pe_int (fun _ _ => rfl)) (pa_cons pe_str (pa_cons pe_non (pa_cons (pe_ix (kix K) (kv (i := 5) v_bent_law_row_here) pe_int (fun _ _ => rfl)) (pa_cons (pe_ix (kix K) (pe_ix (kix K) (kv (i := 3) v_bent_law_some) (pe_un un_neg pe_int) (fun _ _ => rfl)) pe_int (fun _ _ => rfl)) pa_nil)))))) pa_nil))) (pa_cons (pe_ix (kix K) (kv (i := 5) v_bent_law_row_here) pe_int (fun _ _ => rfl)) (pa_cons (pe_ix (kix K) (kv (i := 5) v_bent_law_row_here) pe_int (fun _ _ => rfl)) pa_nil)))))) (pg_sub (kv (i := 3) v_bent_law_some) (kv (i := 4) v_bent_law_j) set_list))) (pss_one (ps_if (pt_cmpR op_eq (kv (i := 7) v_bent_law_pick) pe_int (nomark _)) (pss_one (ps_asg (pe_tup (pa_cons (pe_ix (kix K) (kv (i := 5) v_bent_law_row_here) pe_int (fun _ _ => rfl)) (pa_cons (pe_ix (kix K) (kv (i := 5) v_bent_law_row_here) pe_int (fun _ _ => rfl)) (pa_cons (pe_ix (kix K) (kv (i := 5) v_bent_law_row_here) pe_int (fun _ _ => rfl)) (pa_cons (pe_not (pe_ix (kix K) (kv (i := 5) v_bent_law_row_here) pe_int (fun _ _ => rfl))) (pa_cons (pe_ix (kix K) (kv (i := 5) v_bent_law_row_here) pe_int (fun _ _ => rfl)) pa_nil)))))) (pg_sub (kv (i := 3) v_bent_law_some) (kv (i := 4) v_bent_law_j) set_list))) (pss_one (ps_if (pt_cmpR op_eq (kv (i := 7) v_bent_law_pick) pe_int (nomark _)) (pss_one (ps_asg (pe_tup (pa_cons (pe_ix (kix K) (kv (i := 5) v_bent_law_row_here) pe_int (fun _ _ => rfl)) (pa_cons (pe_call (ok_of T) (hr.mono (by first | decide | omega)) g_bent_law_of T.m_of T.k_of T.b_of .nil pass0 (pa_cons (kv (i := 0) v_bent_law_bag_here) (pa_cons (pe_op kop_add (kv (i := 2) v_bent_law_hosts) (pe_lst (pa_cons pe_str pa_nil))) pa_nil))) (pa_cons (pe_ix (kix K) (kv (i := 5) v_bent_law_row_here) pe_int (fun _ _ => rfl)) (pa_cons (pe_ix (kix K) (kv (i := 5) v_bent_law_row_here) pe_int (fun _ _ => rfl)) (pa_cons (pe_ix (kix K) (kv (i := 5) v_bent_law_row_here) pe_int (fun _ _ => rfl)) pa_nil)))))) (pg_sub (kv (i := 3) v_bent_law_some) (kv (i := 4) v_bent_law_j) set_list))) (pss_one (ps_if (pt_cmpR op_eq (kv (i := 7) v_bent_law_pick) pe_int (nomark _)) (pss_one (ps_asg (pe_tup (pa_cons (pe_ix (kix K) (kv (i := 5) v_bent_law_row_here) pe_int (fun _ _ => rfl)) (pa_cons (pe_ix (kix K) (kv (i := 5) v_bent_law_row_here) pe_int (fun _ _ => rfl)) (pa_cons (pe_ix (kix K) (kv (i := 5) v_bent_law_row_here) pe_int (fun _ _ => rfl)) (pa_cons (pe_ix (kix K) (kv (i := 5) v_bent_law_row_here) pe_int (fun _ _ => rfl)) (pa_cons (pe_call (ok_of T) (hr.mono (by first | decide | omega)) g_bent_law_of T.m_of T.k_of T.b_of .nil pass0 (pa_cons (kv (i := 0) v_bent_law_bag_here) (pa_cons (pe_lst (pa_cons pe_non (pa_cons pe_str (pa_cons (pe_ix (kix K) (kv (i := 5) v_bent_law_row_here) pe_int (fun _ _ => rfl)) pa_nil)))) pa_nil))) pa_nil)))))) (pg_sub (kv (i := 3) v_bent_law_some) (kv (i := 4) v_bent_law_j) set_list))) (pss_one (ps_if (pt_cmpR op_eq (kv (i := 7) v_bent_law_pick) pe_int (nomark _)) (pss_one (ks_setL (i := 3) nd l_bent_law_some (pe_op kop_add (pe_op kop_add (pe_slice (ksl_list K) (kv (i := 3) v_bent_law_some) po_none (po_some (kv (i := 4) v_bent_law_j))) (pe_lst (pa_cons (pe_tup (pa_cons pe_str (pa_cons (pe_ix (kix K) (kv (i := 5) v_bent_law_row_here) pe_int (fun _ _ => rfl)) (pa_cons (pe_ix (kix K) (kv (i := 6) v_bent_law_other) pe_int (fun _ _ => rfl)) (pa_cons (pe_cmpR op_eq (pe_call (ok_draw T) (hr.mono (by first | decide | omega)) g_bent_law_draw T.m_draw T.k_draw T.b_draw .nil pass0 (pa_cons (kv (i := 0) v_bent_law_bag_here) (pa_cons pe_int pa_nil))) pe_int (nomark _)) (pa_cons pe_non pa_nil)))))) pa_nil))) (pe_slice (ksl_list K) (kv (i := 3) v_bent_law_some) (po_some (kv (i := 4) v_bent_law_j)) po_none)))) (pss_cons (ks_setL (i := 9) nd l_bent_law_first (pe_ix (kix K) (kv (i := 3) v_bent_law_some) pe_int (fun _ _ => rfl)))
      (pss_one (ps_asg (pe_tup (pa_cons (pe_ix (kix K) (kv (i := 9) v_bent_law_first) pe_int (fun _ _ => rfl)) (pa_cons (pe_ix (kix K) (kv (i := 9) v_bent_law_first) pe_int (fun _ _ => rfl)) (pa_cons (pe_call (ok_of T) (hr.mono (by first | decide | omega)) g_bent_law_of T.m_of T.k_of T.b_of .nil pass0 (pa_cons (kv (i := 0) v_bent_law_bag_here) (pa_cons (pe_lst (pa_cons pe_non (pa_cons (pe_ix (kix K) (kv (i := 9) v_bent_law_first) pe_int (fun _ _ => rfl)) (pa_cons pe_str pa_nil)))) pa_nil))) (pa_cons (pe_cmpR op_eq (pe_call (ok_draw T) (hr.mono (by first | decide | omega)) g_bent_law_draw T.m_draw T.k_draw T.b_draw .nil pass0 (pa_cons (kv (i := 0) v_bent_law_bag_here) (pa_cons pe_int pa_nil))) pe_int (nomark _)) (pa_cons (pe_call (ok_of T) (hr.mono (by first | decide | omega)) g_bent_law_of T.m_of T.k_of T.b_of .nil pass0 (pa_cons (kv (i := 0) v_bent_law_bag_here) (pa_cons (pe_lst (pa_cons pe_non (pa_cons pe_str pa_nil))) pa_nil))) pa_nil)))))) (pg_sub (kv (i := 3) v_bent_law_some) pe_int set_list)))))))))))))))))))
      (pss_one (ps_ret (kv (i := 3) v_bent_law_some))))))), ?_⟩
    have hRu := up_get (β := β) hb.nb hR.at_
    have hlp : 0 < l.length := List.length_pos_iff.mpr hne
    walk_at "ss"
    refine k_listL (SqL.of hRu) ?_
    intro L nt_L
    rw [upd_swap (up_none nt_L).2]
    generalize eG_L : upd _ L _ = G1
    obtain ⟨nb1, sm1, hL, nt_L, nG_L⟩ := new_facts hb.nb nt_L eG_L
    clear eG_L
    have hb1 := hb.up sm1 nb1
    have hR1 := hR.up sm1
    walk_at "ss"
    refine k_lenL (SqL.of (up_get hb1.nb hR1.at_)) ?_
    walk_at "ss"
    refine k_draw (n := ((l.map fun z : Addr × PlRow => V.ref z.1).length : Nat)) hb1 (by rw [List.length_map]; omega) (by rw [List.length_map]; omega) fun d β2 d0 d1 hb2 => ?_
    rw [List.length_map] at d1
    obtain ⟨j, rfl⟩ := Int.eq_ofNat_of_zero_le d0
    have hj : j < l.length := by omega
    have hjz : l[j]? = some l[j] := List.getElem?_eq_getElem hj
    have hjm : l[j] ∈ l := List.getElem_mem hj
    refine k_pair ?_
    walk_at "ss"
    have hLu := up_get (β := β2) nb1 hL
    refine k_ixL (SqL.of hLu) (v := .ref l[j].1) (atI_nat (by rw [List.getElem?_map, hjz]; rfl)) ?_
    walk_at "ss"
    refine k_of hb2 (SqL.of hR1.at_) (by rw [List.length_map]; omega) (by rw [List.length_map]; omega) fun v β3 hv hb3 => ?_
    obtain ⟨o, ho, rfl⟩ := List.mem_map.mp hv
    refine k_pair ?_
    walk_at "ss"
    refine k_draw hb3 (by decide) (by decide) fun pick β4 p0 p1 hb4 => ?_
    have hz1 : RowAt G1 l[j].1 l[j].2 := hR1.rows _ hjm
    have ho1 : RowAt G1 o.1 o.2 := hR1.rows _ ho
    have hgz := hg _ hjm
    have hgo := hg _ ho
    have hq1 := sm1 _ _ hq
    have hRL : RowsAt G1 L l := ⟨hL, hR1.rows⟩
    have nL0 : G0 L = none := g_none hb.sm nG_L
    have nLb : L ≠ b := nt_L
    -- a row put at j
    have fin : ∀ (G' : Hp) (β' : HO) (pa : Addr) (r : PlRow), Bag K G0 G' b β' → Same G1 G' → RowAt G' pa r → GoodR r → ∀ i, Q (.ref L) (upd (upd G' b β') L (.lst ((l.map fun z => V.ref z.1).set i (.ref pa)))) := fun G' β' pa r hb' sm hr hgr i => by
      rw [upd_swap nLb]
      have hRL' := hRL.up sm
      refine k L (l.set i (pa, r)) _ β' (same_put (sm1.trans sm) nG_L) (hb'.up0 (same_put hb'.sm nL0) (by rw [upd_ne (Ne.symm nLb)]; exact hb'.nb)) (hRL'.set hr i) (by rw [List.length_set]; omega) (by rw [List.length_set]; omega) (good_set hg hgr i)
    have eix : ixN (l.map fun z => V.ref z.1).length ((j : Nat) : Int) = some j := by
      obtain ⟨j', e1, _, e2⟩ := ixN_i (n := (l.map fun z : Addr × PlRow => V.ref z.1).length) (d := ((j : Nat) : Int)) (by omega) (by rw [List.length_map]; omega)
      rw [e1]
      congr 1
      omega
    have keep : ∀ (G' : Hp) (β' : HO) (X : HO), Bag K G0 G' b β' → Same G G' → Bag K G0 (upd G' L X) b β' ∧ Same G (upd G' L X) := fun G' β' X hb' sm => ⟨hb'.up0 (same_put hb'.sm nL0) (by rw [upd_ne (Ne.symm nLb)]; exact hb'.nb), same_put sm nG_L⟩
    have gnn : GoodN "nn" := by unfold GoodN; decide +kernel
    have gann : GoodN "ann" := by unfold GoodN; decide +kernel
    have gmore : GoodN "more" := by unfold GoodN; decide +kernel
    walk_at "ss"
    refine k_d (fun _ => ?_) (fun _ => ?_)
    · walk_at "ss"
      refine k_draw (n := ((l.map fun z : Addr × PlRow => V.ref z.1).length : Nat)) hb4 (by rw [List.length_map]; omega) (by rw [List.length_map]; omega) fun d2 β5 e0 e1 hb5 => ?_
      rw [List.length_map] at e1
      obtain ⟨j2, rfl⟩ := Int.eq_ofNat_of_zero_le e0
      have hj2 : j2 < l.length := by omega
      have hjz2 : l[j2]? = some l[j2] := List.getElem?_eq_getElem hj2
      have hjm2 : l[j2] ∈ l := List.getElem_mem hj2
      have eix2 : ∀ n : Nat, n = l.length → ixN n ((j2 : Nat) : Int) = some j2 := fun n hn => by
        obtain ⟨j', e1, _, e2⟩ := ixN_i (n := n) (d := ((j2 : Nat) : Int)) (by omega) (by omega)
        rw [e1]
        congr 1
        omega
      have hLu5 := up_get (β := β5) nb1 hL
      walk_at "ss"
      refine k_ixL (SqL.of hLu5) (v := .ref l[j2].1) (atI_nat (by rw [List.getElem?_map, hjz2]; rfl)) ?_
      walk_at "ss"
      refine k_ixL (SqL.of hLu5) (v := .ref l[j].1) (atI_nat (by rw [List.getElem?_map, hjz]; rfl)) ?_
      walk_at "ss"
      intro pt nt_pt
      rw [upd_swap (up_none nt_pt).2]
      generalize eG_pt : upd _ pt _ = G2
      obtain ⟨nb2, sm2, hpt, nt_pt, nG_pt⟩ := new_facts nb1 nt_pt eG_pt
      clear eG_pt
      refine k_gTup (SqT.of (up_get nb2 hpt)) rfl ?_
      have hRL2 := hRL.up sm2
      have hX1 := hRL2.set (hRL2.rows _ hjm2) j
      have hX2 := hX1.set (r := l[j].2) (pa := l[j].1) (by
        have h := hRL2.rows _ hjm
        exact (upd_ne (ne_of h hRL2.at_ (by intro q; cases q))).trans h) j2
      walk_at "ss"
      refine k_setL (up_get nb2 (sm2 _ _ hL)) eix ?_
      walk_at "ss"
      refine k_setL upd_same (eix2 _ (by simp)) ?_
      walk_at "ss"
      rw [upd_swap nLb, upd_swap nLb]
      have hb2' := hb5.up sm2 nb2
      obtain ⟨k1, k2⟩ := keep G2 β5 (.lst ((l.map fun z => V.ref z.1).set j (.ref l[j2].1))) hb2' (sm1.trans sm2)
      obtain ⟨k3, k4⟩ := keep _ β5 (.lst (((l.map fun z => V.ref z.1).set j (.ref l[j2].1)).set j2 (.ref l[j].1))) k1 k2
      rw [List.map_set] at hX2
      exact k L _ _ β5 k4 k3 hX2 (by simp only [List.length_set]; omega) (by simp only [List.length_set]; omega) (good_set (good_set hg (hg _ hjm2) j) hgz j2)
    walk_at "ss"
    refine k_d (fun _ => ?_) (fun _ => ?_)
    · walk_at "ss"
      refine k_bm ?_
      walk_at "ss"
      refine ⟨.inl ⟨rfl, _, SqL.of (up_get nb1 hL)⟩, ?_⟩
      walk_at "ss"
      refine ⟨L, _, ((j : Nat) : Int), j, .ref l[j].1, rfl, rfl, up_get nb1 hL, by omega, by omega, ?_, by rw [List.getElem?_map, hjz]; rfl, ?_⟩
      · exact (ixN_seq eix).1
      · walk_at "ss"
        rw [upd_swap nLb]
        obtain ⟨k1, k2⟩ := keep G1 β4 (.lst ((l.map fun z => V.ref z.1).eraseIdx j)) hb4 sm1
        have he : ∀ z ∈ l.eraseIdx j, z ∈ l := fun z hz => List.mem_of_mem_eraseIdx hz
        have hle : (l.eraseIdx j).length = l.length - 1 := List.length_eraseIdx_of_lt hj
        refine k L (l.eraseIdx j) _ β4 k2 k1 ⟨by rw [upd_same, map_erase], fun z hz => ?_⟩ (by omega) (by omega) fun z hz => hg z (he z hz)
        have h := hRL.rows z (he z hz)
        exact (upd_ne (ne_of h hRL.at_ (by intro q; cases q))).trans h
    walk_at "ss"
    refine k_d (fun _ => ?_) (fun _ => ?_)
    · walk_at "ss"
      intro pt nt_pt
      rw [upd_swap (up_none nt_pt).2]
      generalize eG_pt : upd _ pt _ = G2
      obtain ⟨nb2, sm2, hpt, nt_pt, nG_pt⟩ := new_facts nb1 nt_pt eG_pt
      clear eG_pt
      walk_at "ss"
      refine k_setL (up_get nb2 (sm2 _ _ hL)) eix ?_
      walk_at "ss"
      exact fin G2 β4 pt ⟨o.2.nm, l[j].2.sv, l[j].2.el, l[j].2.me, l[j].2.cu⟩ (hb4.up sm2 nb2) sm2 hpt ⟨hgo.nm, hgz.sv, hgz.el, hgz.cu⟩ j
    walk_at "ss"
    refine k_d (fun _ => ?_) (fun _ => ?_)
    · walk_at "ss"
      have hne2 : (l.map fun z => V.ref z.1) ≠ [] := by simpa using hne
      have hla : atI (l.map fun z => V.ref z.1) (-1) = some (.ref (l.getLast hne).1) := by
        rw [last_at _ hne2, List.getLast?_map, List.getLast?_eq_some_getLast hne]
        rfl
      have hlm : l.getLast hne ∈ l := List.getLast_mem hne
      have hl1 : RowAt G1 (l.getLast hne).1 (l.getLast hne).2 := hR1.rows _ hlm
      refine k_ixL (SqL.of (up_get nb1 hL)) hla ?_
      walk_at "ss"
      intro t5 nt_t5
      rw [upd_swap (up_none nt_t5).2]
      generalize eG_t5 : upd _ t5 _ = G2
      obtain ⟨nb2, sm2, ht5, nt_t5, nG_t5⟩ := new_facts nb1 nt_t5 eG_t5
      clear eG_t5
      have hb5 := hb4.up sm2 nb2
      walk_at "ss"
      refine k_of hb5 (SqL.of ht5) (by simp) (by simp) fun v β5 hv hb6 => ?_
      obtain ⟨el, rfl, hel⟩ : ∃ el : Option Str, v = vO el ∧ ∀ e, el = some e → GoodN e := by
        simp only [List.mem_cons, List.not_mem_nil, or_false] at hv
        rcases hv with rfl | rfl | rfl | rfl | rfl
        · exact ⟨some _, rfl, fun e h => by cases h; exact hgo.nm⟩
        · exact ⟨some _, rfl, fun e h => by cases h; exact gnn⟩
        · exact ⟨none, rfl, fun e h => by cases h⟩
        · exact ⟨some _, rfl, fun e h => by cases h; exact hgz.nm⟩
        · exact ⟨some _, rfl, fun e h => by cases h; exact (hg _ hlm).nm⟩
      have hz2 := hz1.up sm2
      walk_at "ss"
      intro pt nt_pt
      rw [upd_swap (up_none nt_pt).2]
      generalize eG_pt : upd _ pt _ = G3
      obtain ⟨nb3, sm3, hpt, nt_pt, nG_pt⟩ := new_facts nb2 nt_pt eG_pt
      clear eG_pt
      walk_at "ss"
      refine k_setL (up_get nb3 (sm3 _ _ (sm2 _ _ hL))) eix ?_
      walk_at "ss"
      exact fin G3 β5 pt ⟨l[j].2.nm, l[j].2.sv, el, l[j].2.me, l[j].2.cu⟩ (hb6.up sm3 nb3) (sm2.trans sm3) hpt ⟨hgz.nm, hgz.sv, hel, hgz.cu⟩ j
    walk_at "ss"
    refine k_d (fun _ => ?_) (fun _ => ?_)
    · walk_at "ss"
      intro pt nt_pt
      rw [upd_swap (up_none nt_pt).2]
      generalize eG_pt : upd _ pt _ = G2
      obtain ⟨nb2, sm2, hpt, nt_pt, nG_pt⟩ := new_facts nb1 nt_pt eG_pt
      clear eG_pt
      walk_at "ss"
      refine k_setL (up_get nb2 (sm2 _ _ hL)) eix ?_
      walk_at "ss"
      exact fin G2 β4 pt ⟨l[j].2.nm, l[j].2.sv, l[j].2.el, !l[j].2.me, l[j].2.cu⟩ (hb4.up sm2 nb2) sm2 hpt ⟨hgz.nm, hgz.sv, hgz.el, hgz.cu⟩ j
    walk_at "ss"
    refine k_d (fun _ => ?_) (fun _ => ?_)
    · walk_at "ss"
      intro tn nt_tn
      rw [upd_swap (up_none nt_tn).2]
      generalize eG_tn : upd _ tn _ = G2
      obtain ⟨nb2, sm2, htn, nt_tn, nG_tn⟩ := new_facts nb1 nt_tn eG_tn
      clear eG_tn
      refine k_addL (up_get nb2 (sm2 _ _ hq1)) (up_get nb2 htn) (by rw [List.length_map]; show _ + 1 ≤ _; omega) ?_
      intro to nt_to
      rw [upd_swap (up_none nt_to).2]
      generalize eG_to : upd _ to _ = G3
      obtain ⟨nb3, sm3, hto, nt_to, nG_to⟩ := new_facts nb2 nt_to eG_to
      clear eG_to
      have hb5 := hb4.up (sm2.trans sm3) nb3
      walk_at "ss"
      refine k_of hb5 (SqL.of hto) (by simp) (by rw [List.length_append, List.length_map]; show _ + 1 < _; omega) fun v β5 hv hb6 => ?_
      obtain ⟨sv, rfl, hsv⟩ : ∃ sv : Str, v = .str sv ∧ GoodN sv := by
        rcases List.mem_append.mp hv with hv | hv
        · obtain ⟨c, hc, rfl⟩ := List.mem_map.mp hv
          exact ⟨c, rfl, hgh c hc⟩
        · exact ⟨_, List.mem_singleton.mp hv, gnn⟩
      have hz2 := (hz1.up sm2).up sm3
      walk_at "ss"
      intro pt nt_pt
      rw [upd_swap (up_none nt_pt).2]
      generalize eG_pt : upd _ pt _ = G4
      obtain ⟨nb4, sm4, hpt, nt_pt, nG_pt⟩ := new_facts nb3 nt_pt eG_pt
      clear eG_pt
      walk_at "ss"
      refine k_setL (up_get nb4 (sm4 _ _ (sm3 _ _ (sm2 _ _ hL)))) eix ?_
      walk_at "ss"
      exact fin G4 β5 pt ⟨l[j].2.nm, sv, l[j].2.el, l[j].2.me, l[j].2.cu⟩ (hb6.up sm4 nb4) ((sm2.trans sm3).trans sm4) hpt ⟨hgz.nm, hsv, hgz.el, hgz.cu⟩ j
    walk_at "ss"
    refine k_d (fun _ => ?_) (fun _ => ?_)
    · walk_at "ss"
      intro tn nt_tn
      rw [upd_swap (up_none nt_tn).2]
      generalize eG_tn : upd _ tn _ = G2
      obtain ⟨nb2, sm2, htn, nt_tn, nG_tn⟩ := new_facts nb1 nt_tn eG_tn
      clear eG_tn
      have hb5 := hb4.up sm2 nb2
      walk_at "ss"
      refine k_of hb5 (SqL.of htn) (by simp) (by simp) fun v β5 hv hb6 => ?_
      obtain ⟨cu, rfl, hcu⟩ : ∃ cu : Option Str, v = vO cu ∧ ∀ e, cu = some e → GoodN e := by
        simp only [List.mem_cons, List.not_mem_nil, or_false] at hv
        rcases hv with rfl | rfl | rfl
        · exact ⟨none, rfl, fun e h => by cases h⟩
        · exact ⟨some _, rfl, fun e h => by cases h; exact gann⟩
        · exact ⟨some _, rfl, fun e h => by cases h; exact hgz.nm⟩
      walk_at "ss"
      intro pt nt_pt
      rw [upd_swap (up_none nt_pt).2]
      generalize eG_pt : upd _ pt _ = G3
      obtain ⟨nb3, sm3, hpt, nt_pt, nG_pt⟩ := new_facts nb2 nt_pt eG_pt
      clear eG_pt
      walk_at "ss"
      refine k_setL (up_get nb3 (sm3 _ _ (sm2 _ _ hL))) eix ?_
      walk_at "ss"
      exact fin G3 β5 pt ⟨l[j].2.nm, l[j].2.sv, l[j].2.el, l[j].2.me, cu⟩ (hb6.up sm3 nb3) (sm2.trans sm3) hpt ⟨hgz.nm, hgz.sv, hgz.el, hcu⟩ j
    walk_at "ss"
    refine k_d (fun _ => ?_) (fun _ => ?_)
    · walk_at "ss"
      refine k_slL (SqL.of (up_get nb1 hL)) ?_
      rw [cut_pre (fun z : Addr × PlRow => V.ref z.1) l (by omega)]
      intro A nt_A
      rw [upd_swap (up_none nt_A).2]
      generalize eG_A : upd _ A _ = G2
      obtain ⟨nb2, sm2, hA, nt_A, nG_A⟩ := new_facts nb1 nt_A eG_A
      clear eG_A
      have hz2 := hz1.up sm2
      have ho2 := ho1.up sm2
      have hb5 := hb4.up sm2 nb2
      walk_at "ss"
      refine k_draw hb5 (by decide) (by decide) fun d3 β5 _ _ hb6 => ?_
      walk_at "ss"
      intro pt nt_pt
      rw [upd_swap (up_none nt_pt).2]
      generalize eG_pt : upd _ pt _ = G3
      obtain ⟨nb3, sm3, hpt, nt_pt, nG_pt⟩ := new_facts nb2 nt_pt eG_pt
      clear eG_pt
      walk_at "ss"
      intro B nt_B
      rw [upd_swap (up_none nt_B).2]
      generalize eG_B : upd _ B _ = G4
      obtain ⟨nb4, sm4, hB, nt_B, nG_B⟩ := new_facts nb3 nt_B eG_B
      clear eG_B
      refine k_addL (up_get nb4 (sm4 _ _ (sm3 _ _ hA))) (up_get nb4 hB) (by rw [List.length_map, List.length_take]; show _ + 1 ≤ _; omega) ?_
      intro C nt_C
      rw [upd_swap (up_none nt_C).2]
      generalize eG_C : upd _ C _ = G5
      obtain ⟨nb5, sm5, hC, nt_C, nG_C⟩ := new_facts nb4 nt_C eG_C
      clear eG_C
      have s25 := (sm3.trans sm4).trans sm5
      walk_at "ss"
      refine k_slL (SqL.of (up_get nb5 (s25 _ _ (sm2 _ _ hL)))) ?_
      rw [cut_post (fun z : Addr × PlRow => V.ref z.1) l (by omega)]
      intro D nt_D
      rw [upd_swap (up_none nt_D).2]
      generalize eG_D : upd _ D _ = G6
      obtain ⟨nb6, sm6, hD, nt_D, nG_D⟩ := new_facts nb5 nt_D eG_D
      clear eG_D
      refine k_addL (up_get nb6 (sm6 _ _ hC)) (up_get nb6 hD) (by simp only [List.length_append, List.length_map, List.length_take, List.length_drop]; show _ + 1 + _ ≤ _; omega) ?_
      intro E7 nt_E7
      rw [upd_swap (up_none nt_E7).2]
      generalize eG_E7 : upd _ E7 _ = G7
      obtain ⟨nb7, sm7, hE, nt_E7, nG_E7⟩ := new_facts nb6 nt_E7 eG_E7
      clear eG_E7
      have s17 := ((sm2.trans s25).trans sm6).trans sm7
      walk_at "ss"
      refine k E7 (l.take j ++ [(pt, ⟨"more", l[j].2.sv, some o.2.nm, decide (d3 = 0), none⟩)] ++ l.drop j) G7 β5 (sm1.trans s17) (hb6.up (((s25.trans sm6)).trans sm7) nb7) ⟨?_, fun z hz => ?_⟩ ?_ ?_ fun z hz => ?_
      · rw [hE]
        simp
      · rcases List.mem_append.mp hz with hz | hz
        · rcases List.mem_append.mp hz with hz | hz
          · exact (hR1.rows z (List.mem_of_mem_take hz)).up s17
          · rw [List.mem_singleton.mp hz]
            exact ((((sm4.trans sm5).trans sm6).trans sm7) _ _ hpt)
        · exact (hR1.rows z (List.mem_of_mem_drop hz)).up s17
      · simp only [List.length_append, List.length_take, List.length_drop, List.length_cons, List.length_nil]
        omega
      · simp only [List.length_append, List.length_take, List.length_drop, List.length_cons, List.length_nil]
        omega
      · rcases List.mem_append.mp hz with hz | hz
        · rcases List.mem_append.mp hz with hz | hz
          · exact hg z (List.mem_of_mem_take hz)
          · rw [List.mem_singleton.mp hz]
            exact ⟨gmore, hgz.sv, fun e h => by cases h; exact hgo.nm, fun e h => by cases h⟩
        · exact hg z (List.mem_of_mem_drop hz)
    · walk_at "ss"
      have hf0 : l[0]? = some l[0] := List.getElem?_eq_getElem hlp
      have hfm : l[0] ∈ l := List.getElem_mem hlp
      have hf1 : RowAt G1 l[0].1 l[0].2 := hR1.rows _ hfm
      have hgf := hg _ hfm
      have eix0 : ixN (l.map fun z => V.ref z.1).length (0 : Int) = some 0 := by
        obtain ⟨j', e1, _, e2⟩ := ixN_i (n := (l.map fun z : Addr × PlRow => V.ref z.1).length) (d := 0) (by omega) (by rw [List.length_map]; omega)
        rw [e1]
        congr 1
        omega
      refine k_ixL (SqL.of (up_get nb1 hL)) (v := .ref l[0].1) (atI_nat (j := 0) (by rw [List.getElem?_map, hf0]; rfl)) ?_
      walk_at "ss"
      intro tn nt_tn
      rw [upd_swap (up_none nt_tn).2]
      generalize eG_tn : upd _ tn _ = G2
      obtain ⟨nb2, sm2, htn, nt_tn, nG_tn⟩ := new_facts nb1 nt_tn eG_tn
      clear eG_tn
      have hb5 := hb4.up sm2 nb2
      walk_at "ss"
      refine k_of hb5 (SqL.of htn) (by simp) (by simp) fun v β5 hv hb6 => ?_
      obtain ⟨el, rfl, hel⟩ : ∃ el : Option Str, v = vO el ∧ ∀ e, el = some e → GoodN e := by
        simp only [List.mem_cons, List.not_mem_nil, or_false] at hv
        rcases hv with rfl | rfl | rfl
        · exact ⟨none, rfl, fun e h => by cases h⟩
        · exact ⟨some _, rfl, fun e h => by cases h; exact hgf.nm⟩
        · exact ⟨some _, rfl, fun e h => by cases h; exact gnn⟩
      have hf2 := hf1.up sm2
      walk_at "ss"
      refine k_draw hb6 (by decide) (by decide) fun d3 β6 _ _ hb7 => ?_
      walk_at "ss"
      intro tm nt_tm
      rw [upd_swap (up_none nt_tm).2]
      generalize eG_tm : upd _ tm _ = G3
      obtain ⟨nb3, sm3, htm, nt_tm, nG_tm⟩ := new_facts nb2 nt_tm eG_tm
      clear eG_tm
      have hb8 := hb7.up sm3 nb3
      walk_at "ss"
      refine k_of hb8 (SqL.of htm) (by simp) (by simp) fun v β7 hv hb9 => ?_
      obtain ⟨cu, rfl, hcu⟩ : ∃ cu : Option Str, v = vO cu ∧ ∀ e, cu = some e → GoodN e := by
        simp only [List.mem_cons, List.not_mem_nil, or_false] at hv
        rcases hv with rfl | rfl
        · exact ⟨none, rfl, fun e h => by cases h⟩
        · exact ⟨some _, rfl, fun e h => by cases h; exact gann⟩
      walk_at "ss"
      intro pt nt_pt
      rw [upd_swap (up_none nt_pt).2]
      generalize eG_pt : upd _ pt _ = G4
      obtain ⟨nb4, sm4, hpt, nt_pt, nG_pt⟩ := new_facts nb3 nt_pt eG_pt
      clear eG_pt
      walk_at "ss"
      refine k_setL (up_get nb4 (sm4 _ _ (sm3 _ _ (sm2 _ _ hL)))) eix0 ?_
      walk_at "ss"
      exact fin G4 β7 pt ⟨l[0].2.nm, l[0].2.sv, el, decide (d3 = 0), cu⟩ (hb9.up sm4 nb4) ((sm2.trans sm3).trans sm4) hpt ⟨hgf.nm, hgf.sv, hel, hcu⟩ 0
end

section
variable {w : World} {K : PySem.W.Frag} {mg : Str → Option Value} {base : Heap}
/-! ### as many rows as a tree can be asked with -/
theorem cut_nat {α : Type} (f : α → V) (l : List α) (j : Nat) : cutV (l.map f) none (some ((j : Nat) : Int)) = (l.take j).map f := by
  unfold cutV
  rw [HT.sIx_none, HT.sIx_nat, List.drop_zero, Nat.sub_zero, List.length_map, List.map_take]
  by_cases h : j ≤ l.length
  · rw [Nat.min_eq_left h]
  · rw [Nat.min_eq_right (by omega), List.take_of_length_le (by rw [List.length_map]; exact Nat.le_refl _), List.take_of_length_le (by rw [List.length_map]; omega)]
def wn (k : Nat) : Str := Str.empty ++ ("w" : Str) ++ Str.ofString (toString ((k : Nat) : Int))
theorem wn_good : ∀ k, k < 3 → GoodN (wn k) := by
  have h : ((List.range 3).all fun k => nameD (wn k).cps.toList) = true := by decide +kernel
  intro k hk
  exact List.all_eq_true.mp h k (List.mem_range.mpr hk)
def spSize (K : PySem.W.Frag) : Sp := fun vs H Q _ => ∃ (G0 G : Hp) (b p q : Addr) (β : HO) (l : PL) (hs : List Str), vs = [.ref b, .ref p, .ref q] ∧ H = upd G b β ∧ Bag K G0 G b β ∧ RowsAt G p l ∧ l ≠ [] ∧ (l.length ≤ 8 ∨ l.length = 24) ∧ (∀ z ∈ l, GoodR z.2) ∧ G q = some (.lst (hs.map V.str)) ∧ hs.length ≤ 6 ∧ (∀ z ∈ hs, GoodN z) ∧
  ∀ (L : Addr) (l' : PL) (G' : Hp) (β' : HO), Same G G' → Bag K G0 G' b β' → RowsAt G' L l' → (l'.length ≤ 10 ∨ l'.length = 24 ∨ l'.length = 25) → (∀ z ∈ l', GoodR z.2) → Q (.ref L) (upd G' b β')
theorem ok_size (T : Tx K mg) : FnOk P w K mg base CX0 4 T.a_size T.fd_size P_size (spSize K) := by
  refine T.F_size.ok sc_size (fun vs H Q E h => ?_) (fun cdv A outer s H vs Q E hr h => ?_)
  · obtain ⟨G0, G, b, p, q, β, l, hs, rfl, _⟩ := h
    rfl
  · obtain ⟨G0, G, b, p, q, β, l, hs, rfl, rfl, hb, hR, hne, hl, hg, hq, hql, hgh, k⟩ := h
    have nd := sc_size.nd
    refine ⟨_, (pss_cons (ks_setL (i := 3) nd l_size_law_some (kv (i := 1) v_size_law_rows))
      (pss_cons (ps_for PassesOwn.never rfl (pi_range1 g_size_range T.n_range (pa_cons (pe_call (ok_of T) (hr.mono (by first | decide | omega)) g_size_law_of T.m_of T.k_of T.b_of .nil pass0 (pa_cons (kv (i := 0) v_size_law_bag_here) (pa_cons (pe_lst (pa_cons pe_int (pa_cons pe_int (pa_cons pe_int (pa_cons pe_int (pa_cons pe_int (pa_cons pe_int pa_nil))))))) pa_nil))) pa_nil)) (kgL (i := 4) nd l_size_law_k) (pss_one (ps_if (kpt_truth K (kv (i := 3) v_size_law_some)) (pss_one (ks_setL (i := 3) nd l_size_law_some (pe_call (ok_bent T) (hr.mono (by first | decide | omega)) g_size_law_bent T.m_bent T.k_bent T.b_bent .nil pass0 (pa_cons (kv (i := 0) v_size_law_bag_here) (pa_cons (kv (i := 3) v_size_law_some) (pa_cons (kv (i := 2) v_size_law_hosts) pa_nil)))))) pss_nil)))
      (pss_cons (ps_if (pt_cmpR op_eq (kcB b_len (by decide) (by decide) (kc_len K) g_size_len T.n_len (pa_cons (kv (i := 1) v_size_law_rows) pa_nil)) pe_int (nomark _)) (pss_cons (ps_setLc (i := 5) (own := [("_law_k", 4)]) rfl nd rfl (locB_ok l_size_law_more) (sw_true rfl (locB_ok l_size_law_more) rfl (by decide +kernel)) (pi_range1 g_size_range T.n_range (pa_cons pe_int pa_nil)) ok_cs_size_1 (fun _ _ _ _ _ => (kgL (i := 4) nd l_size_1_law_k)) (fun _ _ _ _ _ => pts_nil) (fun _ _ _ _ _ => (pe_tup (pa_cons (pe_joined (.cons pe_str (.cons (pe_fmt (kv (i := 4) v_size_1_law_k)) .nil))) (pa_cons (pe_ix (kix K) (pe_ix (kix K) (kv (i := 1) v_size_1_law_rows) pe_int (fun _ _ => rfl)) pe_int (fun _ _ => rfl)) (pa_cons (pe_ix (kix K) (pe_ix (kix K) (kv (i := 1) v_size_1_law_rows) pe_int (fun _ _ => rfl)) pe_int (fun _ _ => rfl)) (pa_cons pe_bl (pa_cons pe_non pa_nil))))))))
      (pss_one (ps_ret (pe_slice (ksl_list K) (pe_op kop_add (kv (i := 3) v_size_law_some) (kv (i := 5) v_size_law_more)) po_none (po_some (pe_call (ok_of T) (hr.mono (by first | decide | omega)) g_size_law_of T.m_of T.k_of T.b_of .nil pass0 (pa_cons (kv (i := 0) v_size_law_bag_here) (pa_cons (pe_lst (pa_cons pe_int (pa_cons pe_int pa_nil))) pa_nil)))))))) pss_nil)
      (pss_one (ps_ret (pe_slice (ksl_list K) (kv (i := 3) v_size_law_some) po_none (po_some pe_int))))))), ?_⟩
    have hlp : 0 < l.length := List.length_pos_iff.mpr hne
    walk_at "ss"
    intro t1 nt_t1
    rw [upd_swap (up_none nt_t1).2]
    generalize eG_t1 : upd _ t1 _ = G1
    obtain ⟨nb1, sm1, ht1, nt_t1, nG_t1⟩ := new_facts hb.nb nt_t1 eG_t1
    clear eG_t1
    have hb1 := hb.up sm1 nb1
    walk_at "ss"
    refine k_of hb1 (SqL.of ht1) (by simp) (by simp) fun v β2 hv hb2 => ?_
    obtain ⟨n, rfl, hn⟩ : ∃ n : Nat, v = V.int (n : Nat) ∧ n ≤ 3 := by
      simp only [List.mem_cons, List.not_mem_nil, or_false] at hv
      rcases hv with rfl | rfl | rfl | rfl | rfl | rfl
      · exact ⟨0, rfl, by decide⟩
      · exact ⟨1, rfl, by decide⟩
      · exact ⟨1, rfl, by decide⟩
      · exact ⟨1, rfl, by decide⟩
      · exact ⟨2, rfl, by decide⟩
      · exact ⟨3, rfl, by decide⟩
    walk_at "ss"
    refine k_r1 ⟨by omega, by omega⟩ ?_
    refine k_forRange (fun i σ H' => ∃ (S : Addr) (ls : PL) (G' : Hp) (β' : HO) (u : Option V), σ = [some (.ref b), some (.ref p), some (.ref q), some (.ref S), u, none] ∧ H' = upd G' b β' ∧ Bag K G0 G' b β' ∧ Same G G' ∧ RowsAt G' S ls ∧ ls.length ≤ l.length + i ∧ l.length ≤ ls.length + i ∧ ∀ z ∈ ls, GoodR z.2)
      ⟨p, l, G1, β2, _, rfl, rfl, hb2, sm1, hR.up sm1, by omega, by omega, hg⟩ ?_ ?_
    · rintro i σ H' hi ⟨S, ls, G3, β3, u, rfl, rfl, hb3, sm3, hS, h1, h2, hgs⟩
      have hi : i < n := hi
      walk_at "ss"
      refine k_tru ?_
      walk_at "ss"
      refine ⟨!_, .inl ⟨_, SqL.of (up_get hb3.nb hS.at_), rfl⟩, ?_⟩
      refine k_b (fun hf => ?_) (fun hf => ?_)
      · have hsn : ls ≠ [] := fun e => by rw [e] at hf; cases hf
        walk_at "ss"
        refine ⟨G0, G3, b, S, q, β3, ls, hs, rfl, rfl, hb3, hS, hsn, by omega, hgs, sm3 _ _ hq, hql, hgh, fun L l' G4 β4 s4 hb4 hR4 h3 h4 h5 => ?_⟩
        exact ⟨L, l', G4, β4, _, rfl, rfl, hb4, sm3.trans s4, hR4, by omega, by omega, h5⟩
      · walk_at "ss"
        exact ⟨S, ls, G3, β3, _, rfl, rfl, hb3, sm3, hS, by omega, by omega, hgs⟩
    · rintro σ H' ⟨S, ls, G3, β3, u, rfl, rfl, hb3, sm3, hS, h1, h2, hgs⟩
      have h1 : ls.length ≤ l.length + 3 := Nat.le_trans h1 (by show l.length + Int.toNat (n : Nat) ≤ _; omega)
      have h2 : l.length ≤ ls.length + 3 := Nat.le_trans h2 (by show ls.length + Int.toNat (n : Nat) ≤ _; omega)
      have hR3 := hR.up sm3
      have hl0 : l[0]? = some l[0] := List.getElem?_eq_getElem hlp
      have hlm : l[0] ∈ l := List.getElem_mem hlp
      have hz3 : RowAt G3 l[0].1 l[0].2 := hR3.rows _ hlm
      walk_at "ss"
      refine k_lenL (SqL.of (up_get hb3.nb hR3.at_)) ?_
      walk_at "ss"
      refine k_d (fun h24 => ?_) (fun h24 => ?_)
      · rw [List.length_map] at h24
        have hRu : RowsAt (upd G3 b β3) p l := hR3.up (up_same hb3.nb)
        walk_at "ss"
        refine k_r1 ⟨by decide, by decide⟩ ?_
        intro D nD
        refine k_lcRange (n := 3) (fun i H' => ∃ ms : PL, H' D = some (.lst (ms.map fun z => V.ref z.1)) ∧ ms.length = i ∧ (∀ z ∈ ms, RowAt H' z.1 z.2 ∧ GoodR z.2) ∧ Same (upd G3 b β3) H') ⟨[], upd_same, rfl, (fun z hz => by cases hz), same_new nD⟩ ?_ ?_
        · rintro i H' hi ⟨ms, hD, hml, hms, sm⟩
          have hRi := hRu.up sm
          have hzi : RowAt H' l[0].1 l[0].2 := hRi.rows _ hlm
          have hw : (Str.ofString (toString (0 + (i : Int)))).length ≤ 5 := len_text (k := 4) (by decide) (by omega)
          have lw : ("w" : Str).length = 1 := by decide +kernel
          walk_at "ss"
          refine ⟨rfl, ?_⟩
          walk_at "ss"
          refine k_jsV (by simp only [PySem.Str.length_append, len_empty, lw]; omega) ?_
          walk_at "ss"
          refine k_fmtI (by omega) ?_
          refine k_jsV (by simp only [PySem.Str.length_append, len_empty, lw]; omega) ?_
          walk_at "ss"
          refine k_ixL (SqL.of hRi.at_) (v := .ref l[0].1) (atI_nat (j := 0) (by rw [List.getElem?_map, hl0]; rfl)) ?_
          walk_at "ss"
          refine k_ixL (SqL.of hRi.at_) (v := .ref l[0].1) (atI_nat (j := 0) (by rw [List.getElem?_map, hl0]; rfl)) ?_
          walk_at "ss"
          intro pt npt
          have snp := same_new (o := .tup [V.str (Str.empty ++ "w" ++ Str.ofString (toString (0 + (i : Int)))), .str l[0].2.sv, .str l[0].2.nm, .bl false, .non]) npt
          have hDp := snp _ _ hD
          refine ⟨_, hDp, small_lt (by rw [List.length_map]; omega), ms ++ [(pt, ⟨wn i, l[0].2.sv, some l[0].2.nm, false, none⟩)], by rw [upd_same]; simp, by simp [hml], fun z hz => ?_, same_put (sm.trans snp) nD⟩
          have key : RowAt (upd H' pt (.tup [V.str (Str.empty ++ "w" ++ Str.ofString (toString (0 + (i : Int)))), .str l[0].2.sv, .str l[0].2.nm, .bl false, .non])) z.1 z.2 ∧ GoodR z.2 := by
            rcases List.mem_append.mp hz with hz | hz
            · exact ⟨(hms z hz).1.up snp, (hms z hz).2⟩
            · rw [List.mem_singleton.mp hz]
              refine ⟨?_, wn_good i hi, (hg _ hlm).sv, (fun e h => by cases h; exact (hg _ hlm).nm), fun e h => by cases h⟩
              refine (upd_same).trans ?_
              rw [Int.zero_add]
              rfl
          exact ⟨(upd_ne (ne_of key.1 hDp (by intro q; cases q))).trans key.1, key.2⟩
        · rintro H' ⟨ms, hD, hml, hms, sm⟩
          obtain ⟨G4, nb4, sm4, rfl⟩ := split_up hb3.nb sm
          have hb4 := hb3.up sm4 nb4
          have hD4 : G4 D = _ := (upd_ne (up_none nD).2).symm.trans hD
          have hS4 := hS.up sm4
          have hm4 : ∀ z ∈ ms, RowAt G4 z.1 z.2 := fun z hz => off_bag (hb4.noT _) (hms z hz).1
          walk_at "ss"
          refine k_addL (up_get nb4 hS4.at_) (up_get nb4 hD4) (by simp only [List.length_map]; omega) ?_
          intro A nt_A
          rw [upd_swap (up_none nt_A).2]
          generalize eG_A : upd _ A _ = G5
          obtain ⟨nb5, sm5, hA, nt_A, nG_A⟩ := new_facts nb4 nt_A eG_A
          clear eG_A
          walk_at "ss"
          intro tt nt_tt
          rw [upd_swap (up_none nt_tt).2]
          generalize eG_tt : upd _ tt _ = G6
          obtain ⟨nb6, sm6, htt, nt_tt, nG_tt⟩ := new_facts nb5 nt_tt eG_tt
          clear eG_tt
          have hb6 := hb4.up (sm5.trans sm6) nb6
          walk_at "ss"
          refine k_of hb6 (SqL.of htt) (by simp) (by simp) fun v β7 hv hb7 => ?_
          obtain ⟨c, rfl, hc⟩ : ∃ c : Nat, v = V.int (c : Nat) ∧ (c = 24 ∨ c = 25) := by
            simp only [List.mem_cons, List.not_mem_nil, or_false] at hv
            rcases hv with rfl | rfl
            · exact ⟨24, rfl, .inl rfl⟩
            · exact ⟨25, rfl, .inr rfl⟩
          walk_at "ss"
          refine k_slL (SqL.of (up_get nb6 (sm6 _ _ hA))) ?_
          rw [← List.map_append, cut_nat (fun z : Addr × PlRow => V.ref z.1) (ls ++ ms) c]
          intro L nt_L
          rw [upd_swap (up_none nt_L).2]
          generalize eG_L : upd _ L _ = G7
          obtain ⟨nb7, sm7, hL, nt_L, nG_L⟩ := new_facts nb6 nt_L eG_L
          clear eG_L
          have s47 := (sm5.trans sm6).trans sm7
          have hmem : ∀ z ∈ (ls ++ ms).take c, RowAt G4 z.1 z.2 ∧ GoodR z.2 := fun z hz => by
            rcases List.mem_append.mp (List.mem_of_mem_take hz) with hz | hz
            · exact ⟨hS4.rows z hz, hgs z hz⟩
            · exact ⟨hm4 z hz, (hms z hz).2⟩
          refine k L ((ls ++ ms).take c) G7 β7 ((sm3.trans sm4).trans s47) (hb7.up sm7 nb7) ⟨hL, fun z hz => (hmem z hz).1.up s47⟩ ?_ fun z hz => (hmem z hz).2
          rw [List.length_take, List.length_append]
          omega
      · rw [List.length_map] at h24
        walk_at "ss"
        refine k_slL (SqL.of (up_get hb3.nb hS.at_)) ?_
        rw [show cutV (ls.map fun z => V.ref z.1) none (some 10) = (ls.take 10).map fun z => V.ref z.1 from cut_nat (fun z : Addr × PlRow => V.ref z.1) ls 10]
        intro L nt_L
        rw [upd_swap (up_none nt_L).2]
        generalize eG_L : upd _ L _ = G7
        obtain ⟨nb7, sm7, hL, nt_L, nG_L⟩ := new_facts hb3.nb nt_L eG_L
        clear eG_L
        refine k L (ls.take 10) G7 β3 (sm3.trans sm7) (hb3.up sm7 nb7) ⟨hL, fun z hz => (hS.rows z (List.mem_of_mem_take hz)).up sm7⟩ (.inl (by rw [List.length_take]; omega)) fun z hz => hgs z (List.mem_of_mem_take hz)
end

section
open LamX
variable {w : World} {K : PySem.W.Frag} {mg : Str → Option Value} {base : Heap}
/-! ### the tables of code objects -/
abbrev lq (q : Str) : Str := (q ++ (".<locals>." : Str)) ++ ("<lambda>" : Str)
def TL_ (T : Tx K mg) : List (Addr × Str) := [(T.tb_so, lq "_law_so"), (T.tb_place_so, lq "_law_place_so")]
theorem TM_so (T : Tx K mg) : (T.tb_so, lq "_law_so") ∈ TL_ T := .head _
theorem TM_place_so (T : Tx K mg) : (T.tb_place_so, lq "_law_place_so") ∈ TL_ T := .tail _ (.head _)
theorem cases_TL {T : Tx K mg} {p : Addr × Str} {R : Prop} (h : p ∈ TL_ T) (h1 : p = (T.tb_so, lq "_law_so") → R) (h2 : p = (T.tb_place_so, lq "_law_place_so") → R) : R := by
  rcases List.mem_cons.mp h with h | h
  · exact h1 h
  · exact h2 (List.mem_singleton.mp h)
theorem TU_so (T : Tx K mg) : ∀ p ∈ TL_ T, p.1 = T.tb_so → p.2 = lq "_law_so" := fun p hp e => cases_TL hp (fun h => by rw [h]) (fun h => by rw [h] at e; exact absurd e (by first | exact T.tne_so_place_so | exact fun z => T.tne_so_place_so z.symm | exact T.tne_place_so_so | exact fun z => T.tne_place_so_so z.symm))
theorem TU_place_so (T : Tx K mg) : ∀ p ∈ TL_ T, p.1 = T.tb_place_so → p.2 = lq "_law_place_so" := fun p hp e => cases_TL hp (fun h => by rw [h] at e; exact absurd e (by first | exact T.tne_so_place_so | exact fun z => T.tne_so_place_so z.symm | exact T.tne_place_so_so | exact fun z => T.tne_place_so_so z.symm)) (fun h => by rw [h])
theorem mem_TL {T : Tx K mg} {p : Addr × Str} (h : p ∈ TL_ T) : p.1 = T.tb_so ∨ p.1 = T.tb_place_so := cases_TL h (fun h => .inl (by rw [h])) (fun h => .inr (by rw [h]))
theorem split_ext {G H1 : Hp} {b : Addr} {β : HO} (hb : G b = none) (nt : ∀ ps, β ≠ .tbl ps) (e : ExtN (upd G b β) H1) : ∃ G1, G1 b = none ∧ ExtN G G1 ∧ H1 = upd G1 b β := by
  refine ⟨fun a => if a = b then none else H1 a, if_pos rfl, fun a o h n => ?_, ?_⟩
  · have hne : a ≠ b := ne_of_none h hb
    show (if a = b then none else H1 a) = some o
    rw [if_neg hne]
    exact e _ _ (up_get hb h) n
  · funext a
    unfold upd
    by_cases h : a = b
    · rw [if_pos h, h]
      exact e _ _ upd_same nt
    · rw [if_neg h]
      show H1 a = if a = b then none else H1 a
      rw [if_neg h]
theorem ext_keep {F : Addr → Prop} {G G1 : Hp} (e : ExtN G G1) : Keep F G G1 := fun a o _ h n => e a o h n
theorem Bag.nt {G0 G : Hp} {b : Addr} {β : HO} (h : Bag K G0 G b β) : ∀ ps, β ≠ .tbl ps := by
  obtain ⟨l, ns, i, r, s, c, rfl, _⟩ := h.ex
  intro ps q
  cases q
theorem Bag.re {G0 G : Hp} {b : Addr} {β : HO} (h : Bag K G0 G b β) : Bag K G G b β := by
  obtain ⟨l, ns, i, r, s, c, rfl, hl, q⟩ := h.ex
  exact ⟨h.nb, Same.refl _, l, ns, i, r, s, c, rfl, h.sm.seq hl, q⟩
theorem seq_ext {G G1 : Hp} {l : Addr} {xs : List V} (h : SqL K G l xs) (e : ExtN G G1) : SqL K G1 l xs :=
  h.elim (fun h => .inl (h.elim (fun h => .inl (e _ _ h (fun ps z => by cases z))) fun ⟨o, h⟩ => .inr ⟨o, e _ _ h (fun ps z => by cases z)⟩)) fun h => .inr h
theorem Bag.ext {G0 G G1 : Hp} {b : Addr} {β : HO} (h : Bag K G0 G b β) (e : ExtN G G1) (n : G1 b = none) : Bag K G1 G1 b β := by
  obtain ⟨l, ns, i, r, s, c, rfl, hl, q⟩ := h.re.ex
  exact ⟨n, Same.refl _, l, ns, i, r, s, c, rfl, seq_ext hl e, q⟩
theorem tabs_bag {T : List (Addr × Str)} {G : Hp} {b : Addr} {β β' : HO} (h : Tabs T (upd G b β)) (nt : ∀ ps, β ≠ .tbl ps) (nc : ∀ q, β ≠ CodeO b q) : Tabs T (upd G b β') := fun p hp => by
  obtain ⟨ps, h1, h2, h3⟩ := h p hp
  have n1 : p.1 ≠ b := fun z => by
    rw [z, upd_same] at h1
    exact nt ps (Option.some.inj h1)
  refine ⟨ps, by rw [upd_ne n1] at h1 ⊢; exact h1, h2, fun pos cv hc => ?_⟩
  obtain ⟨c, e1, e2⟩ := h3 pos cv hc
  have n2 : c ≠ b := fun z => by
    rw [z, upd_same] at e2
    exact nc _ (Option.some.inj e2)
  exact ⟨c, e1, by rw [upd_ne n2] at e2 ⊢; exact e2⟩
theorem Bag.nc {G0 G : Hp} {b c : Addr} {β : HO} (h : Bag K G0 G b β) : ∀ q, β ≠ CodeO c q := by
  obtain ⟨l, ns, i, r, s, cc, rfl, _⟩ := h.ex
  intro q z
  unfold CodeO at z
  cases z
theorem Tabs.bag {T : List (Addr × Str)} {G0 G G' : Hp} {b : Addr} {β β' : HO} (h : Tabs T (upd G b β)) (hb : Bag K G0 G b β) (e : Same G G') (nb : G' b = none) : Tabs T (upd G' b β') := by
  have h1 : Tabs T (upd G' b β) := h.ext fun a o ha => by
    by_cases z : a = b
    · subst z
      rw [upd_same] at ha ⊢
      exact ha
    · rw [upd_ne z] at ha ⊢
      exact e _ _ ha
  exact tabs_bag h1 hb.nt (fun q => hb.nc q)
theorem Tabs.put {T : List (Addr × Str)} {H : Hp} {L : Addr} {xs ys : List V} (h : Tabs T H) (hL : H L = some (.lst xs)) : Tabs T (upd H L (.lst ys)) := fun p hp => by
  obtain ⟨ps, h1, h2, h3⟩ := h p hp
  refine ⟨ps, (upd_ne (ne_of h1 hL (by intro q; cases q))).trans h1, h2, fun pos cv hc => ?_⟩
  obtain ⟨c, e1, e2⟩ := h3 pos cv hc
  exact ⟨c, e1, (upd_ne (ne_of e2 hL (by intro q; unfold CodeO at q; cases q))).trans e2⟩
theorem ask_any {T : Tx K mg} {Gz G1 : Hp} {b : Addr} {β : HO} {bad : Option Ev} {good : Hp → Addr → Prop} {tl : XK → Hp → VK → Prop} {Q0 : VK} (hb : Bag K Gz G1 b β) (hgu : ∀ G G' x, Same G G' → good G x → good G' x)
    (K1 : ∀ (e : Ev), bad = some e → ∀ (G3 : Hp) (β3 : HO) (f t : Addr), Same G1 G3 → Bag K Gz G3 b β3 → G3 f = some (.lst e.row) → G3 t = some (.tup [.non, .ref f]) → Q0 (.ref t) (upd G3 b β3))
    (K2 : ∀ (x : Addr) (G3 : Hp) (β3 : HO) (t : Addr), Same G1 G3 → Bag K Gz G3 b β3 → good G3 x → G3 t = some (.tup [.ref x, .non]) → Q0 (.ref t) (upd G3 b β3))
    (htl : ∀ (E : XK) (Q' : VK) (G2 : Hp), Same G1 G2 → Bag K Gz G2 b β → (∀ e, bad = some e → ∀ (G' : Hp) (β' : HO), Same G1 G' → Bag K Gz G' b β' → Goes T (upd G' b β') E e) → (∀ (x : Addr) (G' : Hp) (β' : HO), Same G1 G' → Bag K Gz G' b β' → good G' x → Q' (.ref x) (upd G' b β')) → tl E (upd G2 b β) Q') :
    TT_ask T tl (upd G1 b β) Q0 := by
  intro H2 E Q' s0 hE hQ
  obtain ⟨G2, nb2, s12, rfl⟩ := split_up hb.nb s0
  refine htl E Q' G2 s12 (hb.up s12 nb2) (fun e hbad G' β' s1 hb' H' d sm hd => ?_) (fun x G' β' s1 hb' hg => ?_)
  · refine hE _ _ _ ⟨e, d, rfl, rfl, hd, fun f t H3 s4 hf ht => ?_⟩
    obtain ⟨G3, nb3, s23, rfl⟩ := split_up hb'.nb (sm.trans s4)
    refine K1 e hbad G3 β' f t (s1.trans s23) (hb'.up s23 nb3) (off_bag ?_ hf) (off_bag (hb'.noT _) ht)
    cases e <;> exact hb'.noS _ _
  · refine hQ _ _ fun t H3 s4 ht => ?_
    obtain ⟨G3, nb3, s23, rfl⟩ := split_up hb'.nb s4
    exact K2 x G3 β' t (s1.trans s23) (hb'.up s23 nb3) (hgu _ _ _ s23 hg) (off_bag (hb'.noT _) ht)
theorem eqd_list {T : Tx K mg} {H : Hp} {a b : Addr} {xs : List V} (ha : H a = some (.lst xs)) (hb : H b = some (.lst xs)) (hl : xs.length ≤ 50) {d : Nat} (h : ∀ x ∈ xs, Eqd T H d x x) : Eqd T H (d + 1) (.ref a) (.ref b) :=
  .inr (.inr ⟨a, b, xs, xs, rfl, rfl, .inl ⟨ha, hb⟩, rfl, hl, fun i u v hu hv => by
    rw [hu] at hv
    cases hv
    exact h u (List.mem_of_getElem? hu)⟩)
theorem eqd_row {T : Tx K mg} {H : Hp} {a b : Addr} {e : Ev} (ha : H a = some (.lst e.row)) (hb : H b = some (.lst e.row)) (g : ∀ v ∈ e.row, Eqd T H 2 v v) : Eqd T H 3 (.ref a) (.ref b) := eqd_list ha hb (by cases e <;> simp [Ev.row]) g
/-- a value is told by way of W -/
theorem k_via {te : TE} {σ : L2.St} {H : Hp} {Q : VK} (W : V → Hp → Prop) (h : ∀ Q0 : VK, (∀ v H', W v H' → Q0 v H') → te σ H Q0) (k : ∀ v H', W v H' → Q v H') : te σ H Q := h Q k
end

section
open LamX
variable {w : World} {K : PySem.W.Frag} {mg : Str → Option Value} {base : Heap}
/-! ### what is handed to a tree -/
abbrev OnlyL (L : Addr) : Addr → Prop := fun a => a = L
theorem keep_put {L : Addr} {G : Hp} {o : HO} : Keep (OnlyL L) G (upd G L o) := fun a u n h _ => by
  rw [upd_ne n]
  exact h
theorem PlaceAt.ext {T : Tx K mg} {G G' : Hp} {a : Addr} {r : PlRow} (h : PlaceAt T G a r) (e : ExtN G G') : PlaceAt T G' a r := by
  obtain ⟨dx, h⟩ := h
  exact ⟨dx, e _ _ h (fun ps z => by cases z)⟩
theorem WinAt.ext {T : Tx K mg} {G G' : Hp} {a : Addr} {n : Int} (h : WinAt T G a n) (e : ExtN G G') : WinAt T G' a n := by
  obtain ⟨dx, h⟩ := h
  exact ⟨dx, e _ _ h (fun ps z => by cases z)⟩
theorem RuleAt.ext {T : Tx K mg} {G G' : Hp} {a : Addr} (h : RuleAt T G a) (e : ExtN G G') : RuleAt T G' a := by
  obtain ⟨dx, v0, v1, v2, h⟩ := h
  exact ⟨dx, v0, v1, v2, e _ _ h (fun ps z => by cases z)⟩
theorem RowsAt.ext {G G' : Hp} {p : Addr} {l : PL} (h : RowsAt G p l) (e : ExtN G G') : RowsAt G' p l := ⟨e _ _ h.at_ (fun ps z => by cases z), fun z hz => e _ _ (h.rows z hz) (fun ps z => by cases z)⟩
theorem PlaceAt.put {T : Tx K mg} {G : Hp} {a D : Addr} {r : PlRow} {xs : List V} {o : HO} (h : PlaceAt T G a r) (hD : G D = some (.lst xs)) : PlaceAt T (upd G D o) a r := by
  obtain ⟨dx, h⟩ := h
  exact ⟨dx, (upd_ne (ne_of h hD (by intro z; cases z))).trans h⟩
theorem RuleAt.put {T : Tx K mg} {G : Hp} {a D : Addr} {xs : List V} {o : HO} (h : RuleAt T G a) (hD : G D = some (.lst xs)) : RuleAt T (upd G D o) a := by
  obtain ⟨dx, v0, v1, v2, h⟩ := h
  exact ⟨dx, v0, v1, v2, (upd_ne (ne_of h hD (by intro z; cases z))).trans h⟩
theorem gd_isPlace {T : Tx K mg} {F : Addr → Prop} {H : Hp} {d : Nat} {x : V} (hg : Gd F H d x) : IsI K T.C_Place H x false := fun H' e => by
  have g := (hg.gv).up e
  cases g with
  | int i => exact ⟨_, TyX.base (.int _), T.kb_int_Place⟩
  | str z _ => exact ⟨_, TyX.base (.str _), T.kb_str_Place⟩
  | bl b => exact ⟨_, TyX.base (.bl _), T.kb_bool_Place⟩
  | non => exact ⟨_, TyX.base .non, T.kb_NoneType_Place⟩
  | lst h => exact ⟨_, TyX.base (.lst h), T.kb_list_Place⟩
  | tup h => exact ⟨_, TyX.base (.tup h), T.kb_tuple_Place⟩
  | dic h => exact ⟨_, TyX.base (.dK h), T.kb_dict_Place⟩
theorem gd_isRule {T : Tx K mg} {F : Addr → Prop} {H : Hp} {d : Nat} {x : V} (hg : Gd F H d x) : IsI K T.C_Rule H x false := fun H' e => by
  have g := (hg.gv).up e
  cases g with
  | int i => exact ⟨_, TyX.base (.int _), T.kb_int_Rule⟩
  | str z _ => exact ⟨_, TyX.base (.str _), T.kb_str_Rule⟩
  | bl b => exact ⟨_, TyX.base (.bl _), T.kb_bool_Rule⟩
  | non => exact ⟨_, TyX.base .non, T.kb_NoneType_Rule⟩
  | lst h => exact ⟨_, TyX.base (.lst h), T.kb_list_Rule⟩
  | tup h => exact ⟨_, TyX.base (.tup h), T.kb_tuple_Rule⟩
  | dic h => exact ⟨_, TyX.base (.dK h), T.kb_dict_Rule⟩
/-- no place: data, or a rule -/
def NoPl (T : Tx K mg) (D : Addr) (G : Hp) (x : V) : Prop := Gd (OnlyL D) G 2 x ∨ ∃ a, x = .ref a ∧ RuleAt T G a
def ItX (T : Tx K mg) (D : Addr) (G : Hp) (x : V) : Option PlRow → Prop
  | some r => ∃ a, x = .ref a ∧ PlaceAt T G a r
  | none => NoPl T D G x
theorem ItX.up {T : Tx K mg} {D : Addr} {G G' : Hp} {x : V} : ∀ {o : Option PlRow}, ItX T D G x o → Same G G' → ItX T D G' x o
  | some _, ⟨a, e1, h⟩, e => ⟨a, e1, h.up e⟩
  | none, .inl h, e => .inl (h.up e)
  | none, .inr ⟨a, e1, h⟩, e => .inr ⟨a, e1, h.up e⟩
theorem ItX.ext {T : Tx K mg} {D : Addr} {G G' : Hp} {x : V} : ∀ {o : Option PlRow}, ItX T D G x o → ExtN G G' → ItX T D G' x o
  | some _, ⟨a, e1, h⟩, e => ⟨a, e1, h.ext e⟩
  | none, .inl h, e => .inl (h.keep (ext_keep e))
  | none, .inr ⟨a, e1, h⟩, e => .inr ⟨a, e1, h.ext e⟩
theorem ItX.put {T : Tx K mg} {D : Addr} {G : Hp} {x : V} {xs : List V} {u : HO} (hD : G D = some (.lst xs)) : ∀ {o : Option PlRow}, ItX T D G x o → ItX T D (upd G D u) x o
  | some _, ⟨a, e1, h⟩ => ⟨a, e1, h.put hD⟩
  | none, .inl h => .inl (h.keep keep_put)
  | none, .inr ⟨a, e1, h⟩ => .inr ⟨a, e1, h.put hD⟩
theorem ItX.is {T : Tx K mg} {D : Addr} {G : Hp} {x : V} : ∀ {o : Option PlRow}, ItX T D G x o → ItemAt T G x o
  | some _, h => h
  | none, .inl h => gd_isPlace h
  | none, .inr ⟨a, e1, dx, v0, v1, v2, h⟩ => by
    subst e1
    exact fun H' e => ⟨_, ty_own T.ty_Rule (e _ _ h), T.kt_Rule_Place⟩
structure Th (T : Tx K mg) (G : Hp) (D : Addr) (xs : List V) (os : List (Option PlRow)) : Prop where
  at_ : G D = some (.lst xs)
  len : xs.length = os.length
  it : ∀ (i : Nat) x o, xs[i]? = some x → os[i]? = some o → ItX T D G x o
theorem Th.up {T : Tx K mg} {G G' : Hp} {D : Addr} {xs : List V} {os : List (Option PlRow)} (h : Th T G D xs os) (e : Same G G') : Th T G' D xs os := ⟨e _ _ h.at_, h.len, fun i x o hx ho => (h.it i x o hx ho).up e⟩
theorem Th.ext {T : Tx K mg} {G G' : Hp} {D : Addr} {xs : List V} {os : List (Option PlRow)} (h : Th T G D xs os) (e : ExtN G G') : Th T G' D xs os := ⟨e _ _ h.at_ (fun ps z => by cases z), h.len, fun i x o hx ho => (h.it i x o hx ho).ext e⟩
theorem Th.set {T : Tx K mg} {G : Hp} {D : Addr} {xs : List V} {os : List (Option PlRow)} (h : Th T G D xs os) {y : V} (hy : NoPl T D G y) (j : Nat) : Th T (upd G D (.lst (xs.set j y))) D (xs.set j y) (os.set j none) := by
  refine ⟨upd_same, by rw [List.length_set, List.length_set]; exact h.len, fun i x o hx ho => ?_⟩
  by_cases e : j = i
  · subst e
    rw [List.getElem?_set_self'] at hx ho
    have hx : x = y := by
      cases hq : xs[j]? with
      | none => rw [hq] at hx; cases hx
      | some _ => rw [hq] at hx; exact (Option.some.inj hx).symm
    have ho : o = none := by
      cases hq : os[j]? with
      | none => rw [hq] at ho; cases ho
      | some _ => rw [hq] at ho; exact (Option.some.inj ho).symm
    subst hx
    subst ho
    exact ItX.put (o := none) h.at_ hy
  · rw [List.getElem?_set_ne e] at hx ho
    exact (h.it i x o hx ho).put h.at_
/-- the value handed in as the rule -/
def RvX (T : Tx K mg) (D : Addr) (G : Hp) (rv : V) : Bool → Prop
  | true => ∃ a, rv = .ref a ∧ RuleAt T G a
  | false => Gd (OnlyL D) G 2 rv ∨ OwnX T G rv
theorem OwnX.ext {T : Tx K mg} {G G' : Hp} {x : V} (h : OwnX T G x) (e : ExtN G G') : OwnX T G' x := by
  obtain ⟨a, rfl, ⟨n, h⟩ | ⟨r, h⟩⟩ := h
  · exact ⟨a, rfl, .inl ⟨n, h.ext e⟩⟩
  · exact ⟨a, rfl, .inr ⟨r, h.ext e⟩⟩
theorem RvX.up {T : Tx K mg} {D : Addr} {G G' : Hp} {rv : V} : ∀ {i : Bool}, RvX T D G rv i → Same G G' → RvX T D G' rv i
  | true, ⟨a, e1, h⟩, e => ⟨a, e1, h.up e⟩
  | false, .inl h, e => .inl (h.up e)
  | false, .inr h, e => .inr (h.up e)
theorem RvX.ext {T : Tx K mg} {D : Addr} {G G' : Hp} {rv : V} : ∀ {i : Bool}, RvX T D G rv i → ExtN G G' → RvX T D G' rv i
  | true, ⟨a, e1, h⟩, e => ⟨a, e1, h.ext e⟩
  | false, .inl h, e => .inl (h.keep (ext_keep e))
  | false, .inr h, e => .inr (h.ext e)
theorem RvX.is {T : Tx K mg} {D : Addr} {G : Hp} {rv : V} : ∀ {i : Bool}, RvX T D G rv i → IsI K T.C_Rule G rv i
  | true, ⟨a, e1, dx, v0, v1, v2, h⟩ => by
    subst e1
    exact fun H' e => ⟨_, ty_own T.ty_Rule (e _ _ h), T.kt_Rule_Rule⟩
  | false, .inl h => gd_isRule h
  | false, .inr ⟨a, e1, .inl ⟨n, dx, h⟩⟩ => by
    subst e1
    exact fun H' e => ⟨_, ty_own T.ty_Window (e _ _ h), T.kt_Window_Rule⟩
  | false, .inr ⟨a, e1, .inr ⟨r, dx, h⟩⟩ => by
    subst e1
    exact fun H' e => ⟨_, ty_own T.ty_Place (e _ _ h), T.kt_Place_Rule⟩
/-- the error that is due, as it stands -/
def DueV (G : Hp) (v : V) : Option Ev → Prop
  | none => v = .non
  | some e => ∃ f, v = .ref f ∧ G f = some (.lst e.row)
theorem DueV.up {G G' : Hp} {v : V} : ∀ {o : Option Ev}, DueV G v o → Same G G' → DueV G' v o
  | none, h, _ => h
  | some _, ⟨f, e1, h⟩, e => ⟨f, e1, e _ _ h⟩
theorem DueV.ext {G G' : Hp} {v : V} : ∀ {o : Option Ev}, DueV G v o → ExtN G G' → DueV G' v o
  | none, h, _ => h
  | some _, ⟨f, e1, h⟩, e => ⟨f, e1, e _ _ h (fun ps z => by cases z)⟩
theorem noPlace_map (l : List PlRow) : ∀ n, noPlace (l.map some) n = none := by
  induction l with
  | nil => exact fun n => rfl
  | cons a l ih => exact fun n => ih (n + 1)
theorem noPlace_all : ∀ {os : List (Option PlRow)} {n : Nat}, noPlace os n = none → ∀ o ∈ os, o ≠ none
  | some r :: os, n, h, o, ho => by
    rcases List.mem_cons.mp ho with rfl | ho
    · exact fun e => by cases e
    · exact noPlace_all (n := n + 1) h o ho
theorem noPlace_at : ∀ {os : List (Option PlRow)} {n i : Nat}, noPlace os n = some i → n ≤ i ∧ os[i - n]? = some none ∧ ∀ j < i - n, ∃ r, os[j]? = some (some r)
  | none :: os, n, i, h => by
    cases h
    refine ⟨Nat.le_refl _, by rw [Nat.sub_self]; rfl, fun j hj => absurd hj (by omega)⟩
  | some r :: os, n, i, h => by
    obtain ⟨h1, h2, h3⟩ := noPlace_at (n := n + 1) (os := os) h
    have e : i - n = (i - (n + 1)) + 1 := by omega
    refine ⟨by omega, by rw [e]; exact h2, fun j hj => ?_⟩
    cases j with
    | zero => exact ⟨r, rfl⟩
    | succ j => exact h3 j (by omega)
theorem rowsOf_map (l : List PlRow) : rowsOf (l.map some) = l := by
  unfold rowsOf
  induction l with
  | nil => rfl
  | cons a l ih =>
    show a :: _ = _
    congr 1
theorem treeBad_rows (rv : V) (l : List PlRow) : treeBad rv true (l.map some) = rowsDue l := by
  unfold treeBad rowsDue
  rw [if_neg (by decide), noPlace_map, rowsOf_map, List.length_map]
  simp only [List.map_eq_nil_iff] <;> (cases misfit [] l <;> rfl)
theorem treeBad_np (rv : V) {os : List (Option PlRow)} {i : Nat} (h : noPlace os 0 = some i) : treeBad rv true os = some (.place (.int (i : Nat))) := by
  unfold treeBad
  rw [if_neg (by decide), h]
theorem plBad_row {r : PlRow} (h : GoodR r) : plBad (.str r.nm) (.str r.sv) (vO r.el) (vO r.cu) = none := by
  have h1 : nameV (.str r.nm) = true := h.nm
  have h2 : nameV (.str r.sv) = true := h.sv
  unfold plBad
  rw [if_neg (by rw [h1]; decide), if_neg (by rw [h2]; decide), if_neg (fun q => ?_), if_neg (fun q => ?_)]
  · cases hc : r.cu with
    | none => rw [hc] at q; exact q.1 rfl
    | some c =>
      rw [hc] at q
      have : nameV (vO (some c)) = true := h.cu c hc
      rw [this] at q
      cases q.2
  · cases hc : r.el with
    | none => rw [hc] at q; exact q.1 rfl
    | some c =>
      rw [hc] at q
      have : nameV (vO (some c)) = true := h.el c hc
      rw [this] at q
      cases q.2
theorem gw_str {H : Hp} {z : Str} (h : GoodN z) : Gw K H (.str z) := .inl (.str z (Nat.le_trans h.len (by decide)))
theorem gw_vO {H : Hp} {o : Option Str} (h : ∀ e, o = some e → GoodN e) : Gw K H (vO o) := by
  cases o with
  | none => exact .inl .non
  | some e => exact gw_str (h e rfl)
theorem TreeAt.up {T : Tx K mg} {H H' : Hp} {t : Addr} {xs : List V} (h : TreeAt T H t xs) (e : Same H H') : TreeAt T H' t xs := by
  obtain ⟨dx, L, D1, D2, D3, rv, h1, h2⟩ := h
  exact ⟨dx, L, D1, D2, D3, rv, e _ _ h1, e _ _ h2⟩
/-- the places of some rows -/
def PlsAt (T : Tx K mg) (G : Hp) (xs : List V) (l : PL) : Prop := xs.length = l.length ∧ ∀ (i : Nat) x z, xs[i]? = some x → l[i]? = some z → ∃ a, x = .ref a ∧ PlaceAt T G a z.2
theorem PlsAt.up {T : Tx K mg} {G G' : Hp} {xs : List V} {l : PL} (h : PlsAt T G xs l) (e : Same G G') : PlsAt T G' xs l := ⟨h.1, fun i x z hx hz => let ⟨a, e1, h2⟩ := h.2 i x z hx hz; ⟨a, e1, h2.up e⟩⟩
theorem PlsAt.ext {T : Tx K mg} {G G' : Hp} {xs : List V} {l : PL} (h : PlsAt T G xs l) (e : ExtN G G') : PlsAt T G' xs l := ⟨h.1, fun i x z hx hz => let ⟨a, e1, h2⟩ := h.2 i x z hx hz; ⟨a, e1, h2.ext e⟩⟩
theorem PlsAt.th {T : Tx K mg} {G : Hp} {D : Addr} {xs : List V} {l : PL} (h : PlsAt T G xs l) (hD : G D = some (.lst xs)) : Th T G D xs ((l.map (·.2)).map some) := by
  refine ⟨hD, by simp [h.1], fun i x o hx ho => ?_⟩
  rw [List.getElem?_map, List.getElem?_map] at ho
  cases hz : l[i]? with
  | none => rw [hz] at ho; cases ho
  | some z =>
    rw [hz] at ho
    obtain rfl : some z.2 = o := Option.some.inj ho
    exact h.2 i x z hx hz
theorem k_plcs3 (T : Tx K mg) {G0 G : Hp} {b S : Addr} {β : HO} {l : PL} {Q : VK} {w1 w2 w4 w5 w6 w7 w8 w9 w10 w11 w12 w13 : Option V} (hb : Bag K G0 G b β) (hS : RowsAt G S l) (hg : ∀ z ∈ l, GoodR z.2) (hl : l.length ≤ 30)
    (k : ∀ (D : Addr) (xs : List V) (G' : Hp) (β' : HO), Same G G' → Bag K G0 G' b β' → G D = none → D ≠ b → G' D = some (.lst xs) → PlsAt T G' xs l → Q (.ref D) (upd G' b β')) :
    tLc (iList K (tVar 3)) (gName 12) tYes (tCall (spPlace T) [] E0 (tCons (tVar 0) (tCons (tVar 12) tNil))) [12] [some (.ref b), w1, w2, some (.ref S), w4, w5, w6, w7, w8, w9, w10, w11, w12, w13] (upd G b β) Q := by
  refine k_lc ?_
  refine k_iList ?_
  refine k_var rfl ?_
  have hRu : RowsAt (upd G b β) S l := hS.up (up_same hb.nb)
  refine k_iL (SqL.of hRu.at_) ?_
  intro D nD
  obtain ⟨nD1, nDb⟩ := up_none nD
  have nD0 : G0 D = none := g_none hb.sm nD1
  refine k_lcList (l.map fun z => V.ref z.1) (fun i H' => ∃ (xs : List V) (G' : Hp) (β' : HO), H' = upd G' b β' ∧ Bag K G0 G' b β' ∧ Same G G' ∧ G' D = some (.lst xs) ∧ xs.length = i ∧ ∀ (j : Nat) x z, xs[j]? = some x → l[j]? = some z → ∃ a, x = .ref a ∧ PlaceAt T G' a z.2)
    ⟨[], _, β, upd_swap nDb, hb.up (same_new nD1) (by rw [upd_ne (Ne.symm nDb)]; exact hb.nb), same_new nD1, upd_same, rfl, fun j x z hx => by cases hx⟩ ?_ ?_ ?_
  · rintro i H' _ ⟨xs, G', β', rfl, hb', sm, _⟩
    exact SqL.of (up_get hb'.nb (sm _ _ hS.at_))
  · rintro i x H' hx ⟨xs, G', β', rfl, hb', sm, hD, hlen, hall⟩
    rw [List.getElem?_map] at hx
    obtain ⟨z, hz, rfl⟩ := Option.map_eq_some_iff.mp hx
    have hzm := List.mem_of_getElem? hz
    have hi := (List.getElem?_eq_some_iff.mp hz).1
    have hrow := (hS.rows z hzm).up sm
    have gr := hg z hzm
    refine k_gName ?_
    refine ⟨rfl, ?_⟩
    walk_at "ss"
    refine ⟨G0, G', b, z.1, β', .str z.2.nm, .str z.2.sv, vO z.2.el, vO z.2.cu, z.2.me, rfl, rfl, hb', hrow, gw_str gr.nm, gw_str gr.sv, gw_vO gr.el, gw_vO gr.cu, fun e he => (by rw [plBad_row gr] at he; cases he), fun _ a G2 β2 s2 hb2 hpl => ?_⟩
    have hD2 := s2 _ _ hD
    refine ⟨_, up_get hb2.nb hD2, small_lt (by omega), xs ++ [.ref a], upd G2 D (.lst (xs ++ [.ref a])), β2, upd_swap nDb, hb2.up0 (same_put hb2.sm nD0) (by rw [upd_ne (Ne.symm nDb)]; exact hb2.nb), same_put (sm.trans s2) nD1, upd_same, by simp [hlen], fun j x y hx hy => ?_⟩
    by_cases hj : j < xs.length
    · rw [List.getElem?_append_left hj] at hx
      obtain ⟨c, e1, hc⟩ := hall j x y hx hy
      exact ⟨c, e1, (hc.up s2).put hD2⟩
    · have hjl := (List.getElem?_eq_some_iff.mp hx).1
      simp only [List.length_append, List.length_cons, List.length_nil] at hjl
      have ej : j = xs.length := by omega
      subst ej
      rw [List.getElem?_append_right (Nat.le_refl _), Nat.sub_self] at hx
      obtain rfl : V.ref a = x := Option.some.inj hx
      rw [hlen, hz] at hy
      obtain rfl : z = y := Option.some.inj hy
      exact ⟨a, rfl, PlaceAt.put hpl hD2⟩
  · rintro H' ⟨xs, G', β', rfl, hb', sm, hD, hlen, hall⟩
    rw [List.length_map] at hlen
    exact k D xs G' β' sm hb' nD1 nDb hD ⟨hlen, hall⟩
theorem k_plcs1 (T : Tx K mg) {G0 G : Hp} {b S : Addr} {β : HO} {l : PL} {Q : VK} {w2 w3 w4 w5 w6 w7 w8 w9 w10 w11 w12 w13 : Option V} (hb : Bag K G0 G b β) (hS : RowsAt G S l) (hg : ∀ z ∈ l, GoodR z.2) (hl : l.length ≤ 30)
    (k : ∀ (D : Addr) (xs : List V) (G' : Hp) (β' : HO), Same G G' → Bag K G0 G' b β' → G D = none → D ≠ b → G' D = some (.lst xs) → PlsAt T G' xs l → Q (.ref D) (upd G' b β')) :
    tLc (iList K (tVar 1)) (gName 12) tYes (tCall (spPlace T) [] E0 (tCons (tVar 0) (tCons (tVar 12) tNil))) [12] [some (.ref b), some (.ref S), w2, w3, w4, w5, w6, w7, w8, w9, w10, w11, w12, w13] (upd G b β) Q := by
  refine k_lc ?_
  refine k_iList ?_
  refine k_var rfl ?_
  have hRu : RowsAt (upd G b β) S l := hS.up (up_same hb.nb)
  refine k_iL (SqL.of hRu.at_) ?_
  intro D nD
  obtain ⟨nD1, nDb⟩ := up_none nD
  have nD0 : G0 D = none := g_none hb.sm nD1
  refine k_lcList (l.map fun z => V.ref z.1) (fun i H' => ∃ (xs : List V) (G' : Hp) (β' : HO), H' = upd G' b β' ∧ Bag K G0 G' b β' ∧ Same G G' ∧ G' D = some (.lst xs) ∧ xs.length = i ∧ ∀ (j : Nat) x z, xs[j]? = some x → l[j]? = some z → ∃ a, x = .ref a ∧ PlaceAt T G' a z.2)
    ⟨[], _, β, upd_swap nDb, hb.up (same_new nD1) (by rw [upd_ne (Ne.symm nDb)]; exact hb.nb), same_new nD1, upd_same, rfl, fun j x z hx => by cases hx⟩ ?_ ?_ ?_
  · rintro i H' _ ⟨xs, G', β', rfl, hb', sm, _⟩
    exact SqL.of (up_get hb'.nb (sm _ _ hS.at_))
  · rintro i x H' hx ⟨xs, G', β', rfl, hb', sm, hD, hlen, hall⟩
    rw [List.getElem?_map] at hx
    obtain ⟨z, hz, rfl⟩ := Option.map_eq_some_iff.mp hx
    have hzm := List.mem_of_getElem? hz
    have hi := (List.getElem?_eq_some_iff.mp hz).1
    have hrow := (hS.rows z hzm).up sm
    have gr := hg z hzm
    refine k_gName ?_
    refine ⟨rfl, ?_⟩
    walk_at "ss"
    refine ⟨G0, G', b, z.1, β', .str z.2.nm, .str z.2.sv, vO z.2.el, vO z.2.cu, z.2.me, rfl, rfl, hb', hrow, gw_str gr.nm, gw_str gr.sv, gw_vO gr.el, gw_vO gr.cu, fun e he => (by rw [plBad_row gr] at he; cases he), fun _ a G2 β2 s2 hb2 hpl => ?_⟩
    have hD2 := s2 _ _ hD
    refine ⟨_, up_get hb2.nb hD2, small_lt (by omega), xs ++ [.ref a], upd G2 D (.lst (xs ++ [.ref a])), β2, upd_swap nDb, hb2.up0 (same_put hb2.sm nD0) (by rw [upd_ne (Ne.symm nDb)]; exact hb2.nb), same_put (sm.trans s2) nD1, upd_same, by simp [hlen], fun j x y hx hy => ?_⟩
    by_cases hj : j < xs.length
    · rw [List.getElem?_append_left hj] at hx
      obtain ⟨c, e1, hc⟩ := hall j x y hx hy
      exact ⟨c, e1, (hc.up s2).put hD2⟩
    · have hjl := (List.getElem?_eq_some_iff.mp hx).1
      simp only [List.length_append, List.length_cons, List.length_nil] at hjl
      have ej : j = xs.length := by omega
      subst ej
      rw [List.getElem?_append_right (Nat.le_refl _), Nat.sub_self] at hx
      obtain rfl : V.ref a = x := Option.some.inj hx
      rw [hlen, hz] at hy
      obtain rfl : z = y := Option.some.inj hy
      exact ⟨a, rfl, PlaceAt.put hpl hD2⟩
  · rintro H' ⟨xs, G', β', rfl, hb', sm, hD, hlen, hall⟩
    rw [List.length_map] at hlen
    exact k D xs G' β' sm hb' nD1 nDb hD ⟨hlen, hall⟩
end

section
open LamX
variable {w : World} {K : PySem.W.Frag} {mg : Str → Option Value} {base : Heap}
/-! ### a tree of bent rows is made or refused as is due -/
theorem Bag.noRow {G0 G : Hp} {b : Addr} {β : HO} (hb : Bag K G0 G b β) (e : Ev) : β ≠ .lst e.row := by cases e <;> exact hb.noS _ _
theorem k_win (T : Tx K mg) {G0 G : Hp} {b : Addr} {β : HO} {n : Int} {σ : L2.St} {Q : VK} (hb : Bag K G0 G b β) (h0 : 1 ≤ n) (h1 : n ≤ 1000) (k : ∀ (a : Addr) (G' : Hp), Same G G' → Bag K G0 G' b β → WinAt T G' a n → Q (.ref a) (upd G' b β)) :
    tMake T.C_Window (spWinInit T) [] E0 (tCons (tC (V.int n)) tNil) σ (upd G b β) Q := by
  refine k_make ?_
  walk_at "ss"
  intro x dx nx ndx ne
  refine ⟨x, dx, n, rfl, h0, h1, upd_same, fun H' sb ⟨dw, hw⟩ => ⟨rfl, ?_⟩⟩
  have s := SameBut.made nx ndx ne sb
  obtain ⟨G', nb', s', rfl⟩ := split_up hb.nb s
  have hb' := hb.up s' nb'
  exact k x G' s' hb' ⟨dw, off_bag (hb'.noO _ _ _) hw⟩
theorem k_rule4 (T : Tx K mg) {G0 G : Hp} {b : Addr} {β : HO} {σ : L2.St} {Q : VK} (hb : Bag K G0 G b β) (k : ∀ (a : Addr) (G' : Hp), Same G G' → Bag K G0 G' b β → RuleAt T G' a → Q (.ref a) (upd G' b β)) :
    tMake T.C_Rule (spRuleI T) [] E0 (tCons (tC (V.str "r")) (tCons (tC (V.int 3)) (tCons (tMake T.C_Window (spWinInit T) [] E0 (tCons (tC (V.int 4)) tNil)) tNil))) σ (upd G b β) Q := by
  refine k_make ?_
  refine k_cons ?_
  refine k_c ?_
  refine k_cons ?_
  refine k_c ?_
  refine k_cons ?_
  refine k_win T hb (by decide) (by decide) fun r G1 s1 hb1 hw => ?_
  walk_at "ss"
  intro x dx nx ndx ne
  have sM := same_made (C := T.C_Rule) (fs := []) nx ndx ne
  refine ⟨x, dx, r, 4, rfl, upd_same, hw.up ((up_same hb1.nb).trans sM), fun H' sb ⟨dw, v0, v1, v2, hr⟩ => ⟨rfl, ?_⟩⟩
  have s := SameBut.made nx ndx ne sb
  obtain ⟨G', nb', s', rfl⟩ := split_up hb1.nb s
  have hb' := hb1.up s' nb'
  exact k x G' (s1.trans s') hb' ⟨dw, v0, v1, v2, off_bag (hb'.noO _ _ _) hr⟩
theorem gd_row {D : Addr} {G : Hp} {a : Addr} {r : PlRow} {xs : List V} (h : RowAt G a r) (g : GoodR r) (hD : G D = some (.lst xs)) : Gd (OnlyL D) G 2 (.ref a) := by
  refine .inr (.inl ⟨a, _, rfl, ne_of h hD (by intro q; cases q), .inr h, (show 5 ≤ 50 by decide), fun x hx => ?_⟩)
  have s8 : ∀ {z : Str}, GoodN z → ScB (.str z) := fun h => .str _ (Nat.le_trans h.len (by decide))
  have o8 : ∀ {o : Option Str}, (∀ e, o = some e → GoodN e) → ScB (vO o) := fun {o} h => by
    cases o with
    | none => exact .non
    | some e => exact s8 (h e rfl)
  simp only [List.mem_cons, List.not_mem_nil, or_false] at hx
  rcases hx with rfl | rfl | rfl | rfl | rfl
  · exact Gd.sc (s8 g.nm) 1
  · exact Gd.sc (s8 g.sv) 1
  · exact Gd.sc (o8 g.el) 1
  · exact Gd.sc (.bl _) 1
  · exact Gd.sc (o8 g.cu) 1
def isNo : Option (Option PlRow) → Bool
  | some none => true
  | _ => false
theorem isNo_eq {o : Option (Option PlRow)} (h : isNo o = true) : o = some none := by
  cases o with
  | none => cases h
  | some o => cases o with
    | none => rfl
    | some r => cases h
theorem same_ext {G G' : Hp} (h : Same G G') : ExtN G G' := fun a o e _ => h a o e
theorem ext_trans {G G1 G2 : Hp} (h : ExtN G G1) (h2 : ExtN G1 G2) : ExtN G G2 := fun a o e n => h2 a o (h a o e n) n
theorem eqd_bad {T : Tx K mg} {H : Hp} {rv : V} {isR : Bool} {os : List (Option PlRow)} {e : Ev} (h : treeBad rv isR os = some e) (hr : isR = false → Eqd T H 2 rv rv) : ∀ v ∈ e.row, Eqd T H 2 v v := by
  have s : ∀ z : Str, Eqd T H 2 (.str z) (.str z) := fun z => Eqd.sc (.str z) 2
  have i : ∀ z : Int, Eqd T H 2 (.int z) (.int z) := fun z => Eqd.sc (.int z) 2
  unfold treeBad at h
  intro v hv
  cases isR with
  | false =>
    rw [if_pos rfl] at h
    cases h
    simp only [Ev.row, List.mem_cons, List.not_mem_nil, or_false] at hv
    rcases hv with rfl | rfl
    · exact s _
    · exact hr rfl
  | true =>
    rw [if_neg (by decide)] at h
    cases hn : noPlace os 0 with
    | some j =>
      rw [hn] at h
      cases h
      simp only [Ev.row, List.mem_cons, List.not_mem_nil, or_false] at hv
      rcases hv with rfl | rfl
      · exact s _
      · exact i _
    | none =>
      rw [hn] at h
      dsimp only at h
      by_cases h0 : os = []
      · rw [if_pos h0] at h
        cases h
        simp only [Ev.row, List.mem_cons, List.not_mem_nil, or_false] at hv
        rcases hv with rfl | rfl
        · exact s _
        · exact Eqd.sc .non 2
      · rw [if_neg h0] at h
        by_cases h1 : 24 < os.length
        · rw [if_pos h1] at h
          cases h
          simp only [Ev.row, List.mem_cons, List.not_mem_nil, or_false] at hv
          rcases hv with rfl | rfl | rfl
          · exact s _
          · exact s _
          · exact i _
        · rw [if_neg h1] at h
          cases hm : misfit [] (rowsOf os) with
          | none => rw [hm] at h; cases h
          | some r =>
            rw [hm] at h
            cases h
            simp only [Ev.row, List.mem_cons, List.not_mem_nil, or_false] at hv
            rcases hv with rfl | rfl <;> exact s _
theorem bad_none {rv : V} {isR : Bool} {os : List (Option PlRow)} (h : treeBad rv isR os = none) : isR = true ∧ noPlace os 0 = none := by
  unfold treeBad at h
  cases isR with
  | false => rw [if_pos rfl] at h; cases h
  | true =>
    rw [if_neg (by decide)] at h
    cases hn : noPlace os 0 with
    | some j => rw [hn] at h; cases h
    | none => exact ⟨rfl, rfl⟩
theorem RvX.eqd {T : Tx K mg} {D : Addr} {G : Hp} {rv : V} (h : RvX T D G rv false) : Eqd T G 2 rv rv := by
  rcases h with h | h
  · exact Gd.eqd h
  · exact Eqd.leaf (.inr h) 2
theorem Bag.noRefs {G0 G : Hp} {b : Addr} {β : HO} (hb : Bag K G0 G b β) {xs : List V} (h : ∀ x ∈ xs, ∃ a, x = V.ref a) : β ≠ .lst xs := by
  obtain ⟨l, ns, i, rr, s, c, rfl, _⟩ := hb.ex
  intro z
  cases z
  obtain ⟨a, e⟩ := h (.int _) (.tail _ (.head _))
  cases e
theorem eqd_tup {T : Tx K mg} {H : Hp} {a b : Addr} {r : PlRow} (ha : RowAt H a r) (hb : RowAt H b r) (d : Nat) : Eqd T H (d + 1) (.ref a) (.ref b) := by
  have o8 : ∀ {o : Option Str}, Eqd T H d (vO o) (vO o) := fun {o} => by
    cases o with
    | none => exact Eqd.sc .non d
    | some e => exact Eqd.sc (.str e) d
  refine .inr (.inr ⟨a, b, _, _, rfl, rfl, .inr ⟨ha, hb⟩, rfl, (show 5 ≤ 50 by decide), fun i u v hu hv => ?_⟩)
  rw [hu] at hv
  cases hv
  have hm := List.mem_of_getElem? hu
  simp only [List.mem_cons, List.not_mem_nil, or_false] at hm
  rcases hm with rfl | rfl | rfl | rfl | rfl
  · exact Eqd.sc (.str _) d
  · exact Eqd.sc (.str _) d
  · exact o8
  · exact Eqd.sc (.bl _) d
  · exact o8
/-- the rows of a tree's places, told anew -/
def TsAt (H : Hp) (C : Addr) (l : PL) : Prop := ∃ ts : List Addr, H C = some (.lst (ts.map V.ref)) ∧ ts.length = l.length ∧ ∀ (j : Nat) a z, ts[j]? = some a → l[j]? = some z → RowAt H a z.2
theorem eqd_rows {T : Tx K mg} {H : Hp} {C S : Addr} {l : PL} (h : TsAt H C l) (hS : RowsAt H S l) (hl : l.length ≤ 30) (d : Nat) : Eqd T H (d + 2) (.ref C) (.ref S) := by
  obtain ⟨ts, h1, h2, h3⟩ := h
  refine .inr (.inr ⟨C, S, _, _, rfl, rfl, .inl ⟨h1, hS.at_⟩, by simp [h2], by rw [List.length_map]; omega, fun i u v hu hv => ?_⟩)
  rw [List.getElem?_map] at hu hv
  obtain ⟨a, ha, rfl⟩ := Option.map_eq_some_iff.mp hu
  obtain ⟨z, hz, rfl⟩ := Option.map_eq_some_iff.mp hv
  exact eqd_tup (h3 i a z ha hz) (hS.rows z (List.mem_of_getElem? hz)) d
theorem k_rows7 (T : Tx K mg) {H : Hp} {t : Addr} {xs : List V} {l : PL} {Q : VK} {w0 w1 w2 w3 w4 w5 w6 w7 w8 w9 w10 w11 w12 w13 : Option V} (hw : w7 = some (.ref t)) (hT : TreeAt T H t xs) (hP : PlsAt T H xs l) (hl : l.length ≤ 30) (k : ∀ (C : Addr) (H' : Hp), Same H H' → TsAt H' C l → Q (.ref C) H') :
    tLc (iList K (tMethP (One1 T.C_Tree (spPlcs T)) "places" E0 (tVar 7) tNil)) (gName 13) tYes (tCall (spRow T) [] E0 (tCons (tVar 13) tNil)) [13] [w0, w1, w2, w3, w4, w5, w6, w7, w8, w9, w10, w11, w12, w13] H Q := by
  subst hw
  refine k_lc ?_
  refine k_iList ?_
  refine k_meth ?_
  refine k_var rfl ?_
  obtain ⟨dx, L, D1, D2, D3, rv, h1, h2⟩ := id hT
  refine ⟨t, _, _, _, _, rfl, h1, ⟨rfl, rfl⟩, fl_no (by decide +kernel), ?_⟩
  refine k_nil ?_
  refine ⟨t, xs, rfl, hT, fun pl npl => ?_⟩
  have s1 := same_new (o := .lst xs) npl
  refine k_iL (SqL.of upd_same) ?_
  intro D nD
  refine k_lcList xs (fun i H' => ∃ ts : List Addr, H' D = some (.lst (ts.map V.ref)) ∧ ts.length = i ∧ (∀ (j : Nat) a z, ts[j]? = some a → l[j]? = some z → RowAt H' a z.2) ∧ Same (upd H pl (.lst xs)) H') ⟨[], upd_same, rfl, (fun j a z h => by cases h), same_new nD⟩ (fun i H' _ ⟨ts, _, _, _, sm⟩ => SqL.of (sm _ _ upd_same)) ?_ ?_
  · rintro i x H' hx ⟨ts, hD, hlen, hall, sm⟩
    have hi : i < xs.length := (List.getElem?_eq_some_iff.mp hx).1
    obtain ⟨z0, hz⟩ : ∃ z0, l[i]? = some z0 := ⟨_, List.getElem?_eq_getElem (by rw [← hP.1]; exact hi)⟩
    obtain ⟨a, rfl, hpl⟩ := (hP.up (s1.trans sm)).2 i x _ hx hz
    refine k_gName ?_
    refine ⟨rfl, ?_⟩
    walk_at "ss"
    refine ⟨a, .str z0.2.nm, .str z0.2.sv, vO z0.2.el, vO z0.2.cu, z0.2.me, rfl, hpl, fun tt ntt => ?_⟩
    have st := same_new (o := .tup [V.str z0.2.nm, .str z0.2.sv, vO z0.2.el, .bl z0.2.me, vO z0.2.cu]) ntt
    have hDt := st _ _ hD
    have hil : i < 30 := by have := hP.1; omega
    refine ⟨_, hDt, small_lt (by rw [List.length_map]; omega), ts ++ [tt], by rw [upd_same, List.map_append]; rfl, by simp [hlen], fun j c z hc hzj => ?_, same_put (sm.trans st) nD⟩
    have key : RowAt (upd H' tt (.tup [V.str z0.2.nm, .str z0.2.sv, vO z0.2.el, .bl z0.2.me, vO z0.2.cu])) c z.2 := by
      by_cases hj : j < ts.length
      · rw [List.getElem?_append_left hj] at hc
        exact (hall j c z hc hzj).up st
      · have hjl := (List.getElem?_eq_some_iff.mp hc).1
        simp only [List.length_append, List.length_cons, List.length_nil] at hjl
        have ej : j = ts.length := by omega
        subst ej
        rw [List.getElem?_append_right (Nat.le_refl _), Nat.sub_self] at hc
        obtain rfl : tt = c := Option.some.inj hc
        rw [hlen, hz] at hzj
        obtain rfl : z0 = z := Option.some.inj hzj
        exact upd_same
    exact (upd_ne (ne_of key hDt (by intro q; cases q))).trans key
  · rintro H' ⟨ts, hD, hlen, hall, sm⟩
    exact k D H' (s1.trans sm) ⟨ts, hD, by rw [hlen]; exact hP.1, hall⟩
theorem k_rows9 (T : Tx K mg) {H : Hp} {t : Addr} {xs : List V} {l : PL} {Q : VK} {w0 w1 w2 w3 w4 w5 w6 w7 w8 w9 w10 w11 w12 w13 : Option V} (hw : w9 = some (.ref t)) (hT : TreeAt T H t xs) (hP : PlsAt T H xs l) (hl : l.length ≤ 30) (k : ∀ (C : Addr) (H' : Hp), Same H H' → TsAt H' C l → Q (.ref C) H') :
    tLc (iList K (tMethP (One1 T.C_Tree (spPlcs T)) "places" E0 (tVar 9) tNil)) (gName 13) tYes (tCall (spRow T) [] E0 (tCons (tVar 13) tNil)) [13] [w0, w1, w2, w3, w4, w5, w6, w7, w8, w9, w10, w11, w12, w13] H Q := by
  subst hw
  refine k_lc ?_
  refine k_iList ?_
  refine k_meth ?_
  refine k_var rfl ?_
  obtain ⟨dx, L, D1, D2, D3, rv, h1, h2⟩ := id hT
  refine ⟨t, _, _, _, _, rfl, h1, ⟨rfl, rfl⟩, fl_no (by decide +kernel), ?_⟩
  refine k_nil ?_
  refine ⟨t, xs, rfl, hT, fun pl npl => ?_⟩
  have s1 := same_new (o := .lst xs) npl
  refine k_iL (SqL.of upd_same) ?_
  intro D nD
  refine k_lcList xs (fun i H' => ∃ ts : List Addr, H' D = some (.lst (ts.map V.ref)) ∧ ts.length = i ∧ (∀ (j : Nat) a z, ts[j]? = some a → l[j]? = some z → RowAt H' a z.2) ∧ Same (upd H pl (.lst xs)) H') ⟨[], upd_same, rfl, (fun j a z h => by cases h), same_new nD⟩ (fun i H' _ ⟨ts, _, _, _, sm⟩ => SqL.of (sm _ _ upd_same)) ?_ ?_
  · rintro i x H' hx ⟨ts, hD, hlen, hall, sm⟩
    have hi : i < xs.length := (List.getElem?_eq_some_iff.mp hx).1
    obtain ⟨z0, hz⟩ : ∃ z0, l[i]? = some z0 := ⟨_, List.getElem?_eq_getElem (by rw [← hP.1]; exact hi)⟩
    obtain ⟨a, rfl, hpl⟩ := (hP.up (s1.trans sm)).2 i x _ hx hz
    refine k_gName ?_
    refine ⟨rfl, ?_⟩
    walk_at "ss"
    refine ⟨a, .str z0.2.nm, .str z0.2.sv, vO z0.2.el, vO z0.2.cu, z0.2.me, rfl, hpl, fun tt ntt => ?_⟩
    have st := same_new (o := .tup [V.str z0.2.nm, .str z0.2.sv, vO z0.2.el, .bl z0.2.me, vO z0.2.cu]) ntt
    have hDt := st _ _ hD
    have hil : i < 30 := by have := hP.1; omega
    refine ⟨_, hDt, small_lt (by rw [List.length_map]; omega), ts ++ [tt], by rw [upd_same, List.map_append]; rfl, by simp [hlen], fun j c z hc hzj => ?_, same_put (sm.trans st) nD⟩
    have key : RowAt (upd H' tt (.tup [V.str z0.2.nm, .str z0.2.sv, vO z0.2.el, .bl z0.2.me, vO z0.2.cu])) c z.2 := by
      by_cases hj : j < ts.length
      · rw [List.getElem?_append_left hj] at hc
        exact (hall j c z hc hzj).up st
      · have hjl := (List.getElem?_eq_some_iff.mp hc).1
        simp only [List.length_append, List.length_cons, List.length_nil] at hjl
        have ej : j = ts.length := by omega
        subst ej
        rw [List.getElem?_append_right (Nat.le_refl _), Nat.sub_self] at hc
        obtain rfl : tt = c := Option.some.inj hc
        rw [hlen, hz] at hzj
        obtain rfl : z0 = z := Option.some.inj hzj
        exact upd_same
    exact (upd_ne (ne_of key hDt (by intro q; cases q))).trans key
  · rintro H' ⟨ts, hD, hlen, hall, sm⟩
    exact k D H' (s1.trans sm) ⟨ts, hD, by rw [hlen]; exact hP.1, hall⟩
def spSo (T : Tx K mg) : Sp := fun vs H Q _ => ∃ (G : Hp) (b p q : Addr) (β : HO) (l : PL) (hs : List Str), vs = [.ref b, .ref p, .ref q] ∧ H = upd G b β ∧ Bag K G G b β ∧ Tabs (TL_ T) (upd G b β) ∧ RowsAt G p l ∧ l ≠ [] ∧ (l.length ≤ 8 ∨ l.length = 24) ∧ misfit [] (l.map (·.2)) = none ∧ (∀ z ∈ l, GoodR z.2) ∧
  G q = some (.lst (hs.map V.str)) ∧ hs.length ≤ 6 ∧ (∀ z ∈ hs, GoodN z) ∧ ∀ (G' : Hp) (β' : HO), ExtN G G' → Bag K G' G' b β' → Tabs (TL_ T) (upd G' b β') → Q (.bl true) (upd G' b β')
theorem ok_so (T : Tx K mg) (TB_so : TabB base mg T.cda_so T.tb_so) : FnOk P w K mg base CX0 14 T.a_so T.fd_so P_so (spSo T) := by
  refine T.F_so.ok sc_so (fun vs H Q E h => ?_) (fun A outer s H vs Q E hr h => ?_)
  · obtain ⟨G, b, p, q, β, l, hs, rfl, _⟩ := h
    rfl
  · obtain ⟨G, b, p, q, β, l, hs, rfl, rfl, hb, hT, hR, hne, hl, hmf, hg, hq, hql, hgh, k⟩ := h
    have nd := sc_so.nd
    obtain ⟨oc9, od9, kV9, doc9, pm9, an9, cdv9, ct9, osl9, efd9, lk_ask, hc_ask⟩ := T.F_ask.ex
    have hb_ask := T.b_ask
    rw [efd9] at lk_ask hb_ask
    refine ⟨_, (pss_cons (ks_setL (i := 3) nd l_so_law_some (pe_ifExp (pt_cmpR op_gt (pe_call (ok_draw T) (hr.mono (by first | decide | omega)) g_so_law_draw T.m_draw T.k_draw T.b_draw .nil pass0 (pa_cons (kv (i := 0) v_so_law_bag_here) (pa_cons pe_int pa_nil))) pe_int (nomark _)) (pe_call (ok_size T) (hr.mono (by first | decide | omega)) g_so_law_size T.m_size T.k_size T.b_size .nil pass0 (pa_cons (kv (i := 0) v_so_law_bag_here) (pa_cons (kv (i := 1) v_so_law_rows) (pa_cons (kv (i := 2) v_so_law_hosts) pa_nil)))) (pe_lst pa_nil)))
      (pss_cons (ks_setC (i := 11) nd c_so_law_things (pe_lc (own := [("_law_row_here", 12)]) rfl nd (kpi_list K (kv (i := 3) v_so_law_some)) ok_cs_so_5 (fun _ _ _ _ _ => (kgL (i := 12) nd l_so_5_law_row_here)) (fun _ _ _ _ _ => pts_nil) (fun _ _ _ _ _ => (pe_call (ok_place T) (hr.mono (by first | decide | omega)) g_so_5_law_place T.m_place T.k_place T.b_place .nil passE (pa_cons (kv (i := 0) v_so_5_law_bag_here) (pa_cons (kv (i := 12) v_so_5_law_row_here) pa_nil))))))
      (pss_cons (ps_asg (pe_tup (pa_cons (pe_make T.mk_Rule (ok_Rule_init T) (hr.mono (by first | decide | omega)) g_so_Rule T.m_Rule T.b_Rule_init .nil pass0 (pa_cons pe_str (pa_cons pe_int (pa_cons (pe_make T.mk_Window (ok_Window_init T) (hr.mono (by first | decide | omega)) g_so_Window T.m_Window T.b_Window_init .nil pass0 (pa_cons pe_int pa_nil)) pa_nil)))) (pa_cons (pe_call (ok_due T) (hr.mono (by first | decide | omega)) g_so_law_due T.m_due T.k_due T.b_due .nil pass0 (pa_cons (kv (i := 3) v_so_law_some) pa_nil)) (pa_cons pe_int pa_nil)))) (kpg_tup K 3 rfl (pgs_cons (kgC (i := 10) nd c_so_law_rule) (pgs_cons (kgL (i := 4) nd l_so_law_due_here) (pgs_cons (kgL (i := 5) nd l_so_law_at) pgs_nil)))))
      (kss_meet (ps_if (PW.pt (pw_and (kpt_truth K (kv (i := 11) v_so_law_things)) (pw_and1 (pt_cmpR op_eq (pe_call (ok_draw T) (hr.mono (by first | decide | omega)) g_so_law_draw T.m_draw T.k_draw T.b_draw .nil pass0 (pa_cons (kv (i := 0) v_so_law_bag_here) (pa_cons pe_int pa_nil))) pe_int (nomark _))))) (pss_cons (ps_for PassesOwn.never rfl (pi_range1 g_so_range T.n_range (pa_cons (pe_op kop_add pe_int (pe_call (ok_draw T) (hr.mono (by first | decide | omega)) g_so_law_draw T.m_draw T.k_draw T.b_draw .nil pass0 (pa_cons (kv (i := 0) v_so_law_bag_here) (pa_cons pe_int pa_nil)))) pa_nil)) (kgL (i := 6) nd l_so_law_k) (pss_cons (ks_setL (i := 5) nd l_so_law_at (pe_call (ok_draw T) (hr.mono (by first | decide | omega)) g_so_law_draw T.m_draw T.k_draw T.b_draw .nil pass0 (pa_cons (kv (i := 0) v_so_law_bag_here) (pa_cons (kcB b_len (by decide) (by decide) (kc_len K) g_so_len T.n_len (pa_cons (kv (i := 11) v_so_law_things) pa_nil)) pa_nil))))
      (pss_one (ps_asg (pe_call (ok_of T) (hr.mono (by first | decide | omega)) g_so_law_of T.m_of T.k_of T.b_of .nil pass0 (pa_cons (kv (i := 0) v_so_law_bag_here) (pa_cons (pe_lst (pa_cons (pe_call (ok_odd T) (hr.mono (by first | decide | omega)) g_so_law_odd T.m_odd T.k_odd T.b_odd .nil pass0 (pa_cons (kv (i := 0) v_so_law_bag_here) pa_nil)) (pa_cons (kv (i := 10) v_so_law_rule) (pa_cons (pe_ix (kix K) (kv (i := 3) v_so_law_some) (kv (i := 5) v_so_law_at) (fun _ _ => rfl)) (pa_cons (pe_ix (kix K) (pe_ix (kix K) (kv (i := 3) v_so_law_some) (kv (i := 5) v_so_law_at) (fun _ _ => rfl)) pe_int (fun _ _ => rfl)) pa_nil))))) pa_nil))) (pg_sub (kv (i := 11) v_so_law_things) (kv (i := 5) v_so_law_at) set_list)))))
      (pss_one (ks_setL (i := 4) nd l_so_law_due_here (pe_lst (pa_cons pe_str (pa_cons (kcB b_min (by decide) (by decide) (kc_minL K rfl) g_so_min T.n_min (pa_cons (pe_lc (own := [("_law_k", 6)]) rfl nd (pi_range1 g_so_range T.n_range (pa_cons (kcB b_len (by decide) (by decide) (kc_len K) g_so_len T.n_len (pa_cons (kv (i := 11) v_so_law_things) pa_nil)) pa_nil)) ok_cs_so_4 (fun _ _ _ _ _ => (kgL (i := 6) nd l_so_4_law_k)) (fun _ _ _ _ _ => (pts_one (pt_not (pt_val (kcB b_isinstance (by decide) (by decide) (kc_isi K) g_so_4_isinstance T.n_isinstance (pa_cons (pe_ix (kix K) (kv (i := 11) v_so_4_law_things) (kv (i := 6) v_so_4_law_k) (fun _ _ => rfl)) (pa_cons (kcls g_so_4_Place T.m_Place) pa_nil))))))) (fun _ _ _ _ _ => (kv (i := 6) v_so_4_law_k))) pa_nil)) pa_nil)))))) pss_nil)
      (kss_meet (ps_if (pt_cmpR op_eq (pe_call (ok_draw T) (hr.mono (by first | decide | omega)) g_so_law_draw T.m_draw T.k_draw T.b_draw .nil pass0 (pa_cons (kv (i := 0) v_so_law_bag_here) (pa_cons pe_int pa_nil))) pe_int (nomark _)) (pss_cons (ks_setC (i := 10) nd c_so_law_rule (pe_call (ok_of T) (hr.mono (by first | decide | omega)) g_so_law_of T.m_of T.k_of T.b_of .nil pass0 (pa_cons (kv (i := 0) v_so_law_bag_here) (pa_cons (pe_lst (pa_cons (pe_call (ok_odd T) (hr.mono (by first | decide | omega)) g_so_law_odd T.m_odd T.k_odd T.b_odd .nil pass0 (pa_cons (kv (i := 0) v_so_law_bag_here) pa_nil)) (pa_cons (pe_make T.mk_Window (ok_Window_init T) (hr.mono (by first | decide | omega)) g_so_Window T.m_Window T.b_Window_init .nil pass0 (pa_cons pe_int pa_nil)) (pa_cons pe_str (pa_cons (pe_ifExp (PW.pt (pw_and (kpt_truth K (kv (i := 11) v_so_law_things)) (pw_and1 (pt_not (pt_val (kcB b_isinstance (by decide) (by decide) (kc_isi K) g_so_isinstance T.n_isinstance (pa_cons (pe_ix (kix K) (kv (i := 11) v_so_law_things) pe_int (fun _ _ => rfl)) (pa_cons (kcls g_so_Rule T.m_Rule) pa_nil)))))))) (pe_ix (kix K) (kv (i := 11) v_so_law_things) pe_int (fun _ _ => rfl)) pe_non) pa_nil))))) pa_nil))))
      (pss_one (ks_setL (i := 4) nd l_so_law_due_here (pe_lst (pa_cons pe_str (pa_cons (kv (i := 10) v_so_law_rule) pa_nil)))))) pss_nil)
      (pss_cons (ps_asg (pe_lamA (k := 8) (T := TL_ T) (TT := TT_ask T) g_so_law_ask T.m_ask T.k_ask lk_ask hc_ask hb_ask sc_ask rfl vl_ask (gives_ask T) TB_so rfl (TM_so T) (TU_so T) (hr.mono (by first | decide | omega)) (LamX.lamS_by lam_so_ls_so_1) (fun A outer s H E lf lc hr => (pe_call (ok_tree T) (hr.mono (by first | decide | omega)) g_so_L1_law_tree T.m_tree T.k_tree T.b_tree .nil (passes_call (takes_of rfl rfl rfl rfl) (fun _ _ _ _ h => h)) (pa_cons (kv (i := 10) v_so_L1_law_rule) (pa_cons (kv (i := 11) v_so_L1_law_things) pa_nil))))) (kpg_tup K 2 rfl (pgs_cons (kgL (i := 7) nd l_so_law_told) (pgs_cons (kgL (i := 8) nd l_so_law_fault) pgs_nil))))
      (pss_cons (ps_if (pt_cmpR op_notN (kv (i := 4) v_so_law_due_here) pe_non (nomark _)) (pss_cons (ps_if (PW.pt (pw_or (pt_cmpR op_notN (kv (i := 7) v_so_law_told) pe_non (nomark _)) (pw_or1 (pt_not (pt_val (pe_call (ok_like T) (hr.mono (by first | decide | omega)) g_so_law_like T.m_like T.k_like T.b_like .nil pass0 (pa_cons (kv (i := 8) v_so_law_fault) (pa_cons (kv (i := 4) v_so_law_due_here) pa_nil)))))))) (pss_one (ps_ret pe_bl)) pss_nil)
      (pss_cons (ks_setL (i := 9) nd l_so_law_right (pe_call (ok_tree T) (hr.mono (by first | decide | omega)) g_so_law_tree T.m_tree T.k_tree T.b_tree .nil passE (pa_cons (pe_make T.mk_Rule (ok_Rule_init T) (hr.mono (by first | decide | omega)) g_so_Rule T.m_Rule T.b_Rule_init .nil pass0 (pa_cons pe_str (pa_cons pe_int (pa_cons (pe_make T.mk_Window (ok_Window_init T) (hr.mono (by first | decide | omega)) g_so_Window T.m_Window T.b_Window_init .nil pass0 (pa_cons pe_int pa_nil)) pa_nil)))) (pa_cons (pe_lc (own := [("_law_row_here", 12)]) rfl nd (kpi_list K (kv (i := 1) v_so_law_rows)) ok_cs_so_3 (fun _ _ _ _ _ => (kgL (i := 12) nd l_so_3_law_row_here)) (fun _ _ _ _ _ => pts_nil) (fun _ _ _ _ _ => (pe_call (ok_place T) (hr.mono (by first | decide | omega)) g_so_3_law_place T.m_place T.k_place T.b_place .nil passE (pa_cons (kv (i := 0) v_so_3_law_bag_here) (pa_cons (kv (i := 12) v_so_3_law_row_here) pa_nil))))) pa_nil))))
      (pss_one (ps_ret (pe_call (ok_like T) (hr.mono (by first | decide | omega)) g_so_law_like T.m_like T.k_like T.b_like .nil pass0 (pa_cons (pe_lc (own := [("_law_place_here", 13)]) rfl nd (kpi_list K (kpe_methP0 (disp1 T.cl_Tree T.me_Tree_places (ok_Tree_places T) T.b_Tree_places) (hr.mono (by first | decide | omega)) pass0 (kv (i := 9) v_so_law_right))) ok_cs_so_2 (fun _ _ _ _ _ => (kgL (i := 13) nd l_so_2_law_place_here)) (fun _ _ _ _ _ => pts_nil) (fun _ _ _ _ _ => (pe_call (ok_row T) (hr.mono (by first | decide | omega)) g_so_2_law_row T.m_row T.k_row T.b_row .nil pass0 (pa_cons (kv (i := 13) v_so_2_law_place_here) pa_nil)))) (pa_cons (kv (i := 1) v_so_law_rows) pa_nil))))))) pss_nil)
      (pss_one (ps_ret (pe_and (pe_cmpR op_isN (kv (i := 8) v_so_law_fault) pe_non (nomark _)) (pe_and (pe_call (ok_like T) (hr.mono (by first | decide | omega)) g_so_law_like T.m_like T.k_like T.b_like .nil pass0 (pa_cons (pe_lc (own := [("_law_place_here", 13)]) rfl nd (kpi_list K (kpe_methP0 (disp1 T.cl_Tree T.me_Tree_places (ok_Tree_places T) T.b_Tree_places) (hr.mono (by first | decide | omega)) pass0 (kv (i := 7) v_so_law_told))) ok_cs_so_1 (fun _ _ _ _ _ => (kgL (i := 13) nd l_so_1_law_place_here)) (fun _ _ _ _ _ => pts_nil) (fun _ _ _ _ _ => (pe_call (ok_row T) (hr.mono (by first | decide | omega)) g_so_1_law_row T.m_row T.k_row T.b_row .nil pass0 (pa_cons (kv (i := 13) v_so_1_law_place_here) pa_nil)))) (pa_cons (kv (i := 3) v_so_law_some) pa_nil))) (pe_one (pe_call (ok_like T) (hr.mono (by first | decide | omega)) g_so_law_like T.m_like T.k_like T.b_like .nil pass0 (pa_cons (kcB b_len (by decide) (by decide) (cr_lenO T.ln_Tree T.lt_Tree (ok_Tree_len T) (hr.mono (by first | decide | omega)) T.b_Tree_len pass0) g_so_len T.n_len (pa_cons (kv (i := 7) v_so_law_told) pa_nil)) (pa_cons (kcB b_len (by decide) (by decide) (kc_len K) g_so_len T.n_len (pa_cons (kv (i := 3) v_so_law_some) pa_nil)) pa_nil))))))))))))))), ?_⟩
    refine k_seq ?_
    refine k_asg ?_
    refine k_via (fun v H' => ∃ (S : Addr) (ls : PL) (G' : Hp) (β' : HO), v = .ref S ∧ H' = upd G' b β' ∧ Bag K G G' b β' ∧ Same G G' ∧ RowsAt G' S ls ∧ (ls.length ≤ 10 ∨ ls.length = 24 ∨ ls.length = 25) ∧ ∀ z ∈ ls, GoodR z.2) ?_ ?_
    · intro Q0 hW
      walk_at "ss"
      refine k_draw hb (by decide) (by decide) fun d β1 d0 d1 hb1 => ?_
      walk_at "ss"
      refine k_d (fun _ => ?_) (fun _ => ?_)
      · walk_at "ss"
        exact ⟨G, G, b, p, q, β1, l, hs, rfl, rfl, hb1, hR, hne, hl, hg, hq, hql, hgh, fun L l' G' β' sm hb' h1 h2 h3 => hW _ _ ⟨L, l', G', β', rfl, rfl, hb', sm, h1, h2, h3⟩⟩
      · walk_at "ss"
        intro L nt_L
        rw [upd_swap (up_none nt_L).2]
        generalize eG_L : upd _ L _ = G1
        obtain ⟨nb1, sm1, hL, nt_L, nG_L⟩ := new_facts hb1.nb nt_L eG_L
        clear eG_L
        exact hW _ _ ⟨L, [], G1, β1, rfl, rfl, hb1.up sm1 nb1, sm1, ⟨hL, fun z hz => by cases hz⟩, .inl (Nat.zero_le _), fun z hz => by cases hz⟩
    rintro v H' ⟨S, ls, G1, β1, rfl, rfl, hb1, s01, hS1, hls, hgs⟩
    refine k_gName ?_
    dsimp only
    refine k_seq ?_
    refine k_asg ?_
    refine k_plcs3 T hb1 hS1 hgs (by omega) fun D xs G2 β2 s12 hb2 nD1 nDb hD2 hpls => ?_
    have nDG : G D = none := g_none s01 nD1
    have nSD : S ≠ D := ne_of_none hS1.at_ nD1
    have hS2 := hS1.up s12
    refine k_gName ?_
    dsimp only
    refine k_seq ?_
    refine k_asg ?_
    refine k_tup ?_
    refine k_cons ?_
    refine k_rule4 T hb2 fun ru G3 s23 hb3 hru => ?_
    refine k_cons ?_
    have hS3 := hS2.up s23
    have hD3 := s23 _ _ hD2
    have hpls3 := hpls.up s23
    refine k_via (fun v H' => ∃ G' : Hp, H' = upd G' b β2 ∧ Bag K G G' b β2 ∧ Same G3 G' ∧ DueV G' v (rowsDue (ls.map (·.2)))) ?_ ?_
    · intro Q0 hW
      walk_at "ss"
      refine ⟨S, ls, rfl, hS3.up (up_same hb3.nb), by omega, fun he H' sm => ?_, fun e he f H' sm hf => ?_⟩
      · obtain ⟨G4, nb4, s34, rfl⟩ := split_up hb3.nb sm
        exact hW _ _ ⟨G4, rfl, hb3.up s34 nb4, s34, by rw [he]; rfl⟩
      · obtain ⟨G4, nb4, s34, rfl⟩ := split_up hb3.nb sm
        refine hW _ _ ⟨G4, rfl, hb3.up s34 nb4, s34, by rw [he]; exact ⟨f, rfl, off_bag ((hb3.up s34 nb4).noRow e) hf⟩⟩
    rintro dv H' ⟨G4, rfl, hb4, s34, hdv⟩
    walk_at "ss"
    intro tt nt_tt
    rw [upd_swap (up_none nt_tt).2]
    generalize eG_tt : upd _ tt _ = G5
    obtain ⟨nb5, s45, htt, nt_tt, nG_tt⟩ := new_facts hb4.nb nt_tt eG_tt
    clear eG_tt
    refine k_gTup (SqT.of (up_get nb5 htt)) rfl ?_
    have hb5 := hb4.up s45 nb5
    have s35 := s34.trans s45
    have hdv5 := hdv.up s45
    have hS5 := hS3.up s35
    have hru5 := hru.up s35
    have hT5 := (hpls3.up s35).th (s35 _ _ hD3)
    have s05 : Same G G5 := ((s01.trans s12).trans s23).trans s35
    clear htt nG_tt
    walk_at "ss"
    refine k_meet (fun σ H' => ∃ (xs : List V) (os : List (Option PlRow)) (dv : V) (G' : Hp) (β' : HO) (u5 u6 : Option V), σ = [some (.ref b), some (.ref p), some (.ref q), some (.ref S), some dv, u5, u6, none, none, none, some (.ref ru), some (.ref D), none, none] ∧ H' = upd G' b β' ∧ Bag K G G' b β' ∧ Same G G' ∧ RowsAt G' S ls ∧ RuleAt T G' ru ∧ Th T G' D xs os ∧ os.length = ls.length ∧
      DueV G' dv (treeBad (.ref ru) true os) ∧ (noPlace os 0 = none → os = (ls.map (·.2)).map some)) ?_ ?_
    · have stay : ∀ (u5 u6 : Option V) (β' : HO), Bag K G G5 b β' → ∃ (xs : List V) (os : List (Option PlRow)) (dv' : V) (G' : Hp) (β'' : HO) (v5 v6 : Option V), [some (V.ref b), some (.ref p), some (.ref q), some (.ref S), some dv, u5, u6, none, none, none, some (.ref ru), some (.ref D), none, none] = [some (.ref b), some (.ref p), some (.ref q), some (.ref S), some dv', v5, v6, none, none, none, some (.ref ru), some (.ref D), none, none] ∧ upd G5 b β' = upd G' b β'' ∧ Bag K G G' b β'' ∧ Same G G' ∧ RowsAt G' S ls ∧ RuleAt T G' ru ∧ Th T G' D xs os ∧ os.length = ls.length ∧
          DueV G' dv' (treeBad (.ref ru) true os) ∧ (noPlace os 0 = none → os = (ls.map (·.2)).map some) := fun u5 u6 β' hb' =>
        ⟨xs, _, dv, G5, β', u5, u6, rfl, rfl, hb', s05, hS5, hru5, hT5, by simp, by rw [treeBad_rows]; exact hdv5, fun _ => rfl⟩
      walk_at "ss"
      refine k_tru ?_
      walk_at "ss"
      refine ⟨!xs.isEmpty, .inl ⟨_, SqL.of (up_get hb5.nb hT5.at_), rfl⟩, ?_⟩
      refine k_b (fun hx => ?_) (fun hx => ?_)
      · have hxp : 0 < xs.length := by
          cases xs with
          | nil => cases hx
          | cons => simp
        walk_at "ss"
        refine k_draw hb5 (by decide) (by decide) fun d6 β6 _ _ hb6 => ?_
        walk_at "ss"
        refine k_d (fun _ => ?_) (fun _ => ?_)
        · walk_at "ss"
          refine k_draw hb6 (by decide) (by decide) fun d7 β7 e70 e71 hb7 => ?_
          walk_at "ss"
          refine k_r1 ⟨by omega, by omega⟩ ?_
          refine k_forRange (fun i σ H' => ∃ (xs : List V) (os : List (Option PlRow)) (G' : Hp) (β' : HO) (u5 u6 : Option V), σ = [some (.ref b), some (.ref p), some (.ref q), some (.ref S), some dv, u5, u6, none, none, none, some (.ref ru), some (.ref D), none, none] ∧ H' = upd G' b β' ∧ Bag K G G' b β' ∧ Same G G' ∧ RowsAt G' S ls ∧ RuleAt T G' ru ∧ Th T G' D xs os ∧ os.length = ls.length ∧ (0 < i → none ∈ os))
            ⟨xs, _, G5, β7, _, _, rfl, rfl, hb7, s05, hS5, hru5, hT5, by simp, fun h => absurd h (by decide)⟩ ?_ ?_
          · rintro i σ H' hi ⟨xs8, os8, G8, β8, u5, u6, rfl, rfl, hb8, s08, hS8, hru8, hT8, hol8, hin8⟩
            have hxl : xs8.length = ls.length := by rw [hT8.len, hol8]
            have hlp : 0 < ls.length := by
              have := hT5.len
              rw [List.length_map, List.length_map] at this
              omega
            walk_at "ss"
            refine k_lenL (SqL.of (up_get hb8.nb hT8.at_)) ?_
            walk_at "ss"
            refine k_draw (n := (xs8.length : Nat)) hb8 (by omega) (by omega) fun d9 β9 e90 e91 hb9 => ?_
            obtain ⟨j, rfl⟩ := Int.eq_ofNat_of_zero_le e90
            have hj : j < ls.length := by omega
            have hjz : ls[j]? = some ls[j] := List.getElem?_eq_getElem hj
            have hjm : ls[j] ∈ ls := List.getElem_mem hj
            have eix : ixN xs8.length ((j : Nat) : Int) = some j := by
              obtain ⟨j', e1, _, e2⟩ := ixN_i (n := xs8.length) (d := ((j : Nat) : Int)) (by omega) (by omega)
              rw [e1]
              congr 1
              omega
            walk_at "ss"
            refine ⟨OnlyL D, G, G8, b, β9, rfl, rfl, hb9, fun a ha hn => (by cases (show a = D from ha); rw [hT8.at_] at hn; cases hn), fun vo G10 β10 s810 hb10 hov => ?_⟩
            have hS10 := hS8.up s810
            have hT10 := hT8.up s810
            have hru10 := hru8.up s810
            have hz10 : RowAt G10 ls[j].1 ls[j].2 := hS10.rows _ hjm
            have hz10u := up_get (β := β10) hb10.nb hz10
            walk_at "ss"
            refine k_ixL (SqL.of (up_get hb10.nb hS10.at_)) (v := .ref ls[j].1) (atI_nat (by rw [List.getElem?_map, hjz]; rfl)) ?_
            walk_at "ss"
            refine k_ixL (SqL.of (up_get hb10.nb hS10.at_)) (v := .ref ls[j].1) (atI_nat (by rw [List.getElem?_map, hjz]; rfl)) ?_
            walk_at "ss"
            intro t4 nt_t4
            rw [upd_swap (up_none nt_t4).2]
            generalize eG_t4 : upd _ t4 _ = G11
            obtain ⟨nb11, s1011, ht4, nt_t4, nG_t4⟩ := new_facts hb10.nb nt_t4 eG_t4
            clear eG_t4
            have hb11 := hb10.up s1011 nb11
            have hT11 := hT10.up s1011
            walk_at "ss"
            refine k_of hb11 (SqL.of ht4) (by simp) (by simp) fun y β12 hy hb12 => ?_
            have hny : NoPl T D G11 y := by
              simp only [List.mem_cons, List.not_mem_nil, or_false] at hy
              rcases hy with rfl | rfl | rfl | rfl
              · exact .inl (Gd.up hov s1011)
              · exact .inr ⟨_, rfl, hru10.up s1011⟩
              · exact .inl ((gd_row hz10 (hgs _ hjm) hT10.at_).up s1011)
              · exact .inl (Gd.sc (.str _ (Nat.le_trans (hgs _ hjm).nm.len (by decide))) 2)
            walk_at "ss"
            refine k_setL (up_get hb12.nb hT11.at_) eix ?_
            rw [upd_swap nDb]
            have hS11 := hS10.up s1011
            refine ⟨_, os8.set j none, _, β12, _, _, rfl, rfl, hb12.up0 (same_put hb12.sm nDG) (by rw [upd_ne (Ne.symm nDb)]; exact hb12.nb), same_put ((s08.trans s810).trans s1011) nDG, ⟨(upd_ne nSD).trans hS11.at_, fun z hz => (upd_ne (ne_of (hS11.rows z hz) hT11.at_ (by intro q; cases q))).trans (hS11.rows z hz)⟩, (hru10.up s1011).put hT11.at_, hT11.set hny j, by rw [List.length_set]; exact hol8, fun _ => ?_⟩
            exact List.mem_iff_getElem?.mpr ⟨j, by rw [List.getElem?_set_self (by omega)]⟩
          · rintro σ H' ⟨xs8, os8, G8, β8, u5, u6, rfl, rfl, hb8, s08, hS8, hru8, hT8, hol8, hin8⟩
            have hin : none ∈ os8 := hin8 (by show 0 < Int.toNat (1 + d7); omega)
            have hxl : xs8.length = ls.length := by rw [hT8.len, hol8]
            walk_at "ss"
            refine k_lenL (SqL.of (up_get hb8.nb hT8.at_)) ?_
            walk_at "ss"
            refine k_r1 ⟨by omega, by omega⟩ ?_
            intro C nC
            have hTu : Th T (upd G8 b β8) D xs8 os8 := hT8.up (up_same hb8.nb)
            refine k_lcRange (n := xs8.length) (fun i H' => H' C = some (.lst (((List.range i).filter fun k => isNo os8[k]?).map fun k => V.int (k : Nat))) ∧ Same (upd G8 b β8) H') ⟨upd_same, same_new nC⟩ ?_ ?_
            · rintro i H' hi ⟨hC, sm⟩
              have hTi := hTu.up sm
              have hio : i < os8.length := by rw [← hT8.len]; exact hi
              have h1 : xs8[i]? = some xs8[i] := List.getElem?_eq_getElem hi
              have h2 : os8[i]? = some os8[i] := List.getElem?_eq_getElem hio
              have step : ((List.range (i + 1)).filter fun k => isNo os8[k]?) = ((List.range i).filter fun k => isNo os8[k]?) ++ (if os8[i] = none then [i] else []) := by
                rw [List.range_succ, List.filter_append]
                cases hq : os8[i] <;> simp [List.filter_cons, h2, hq, isNo]
              refine k_gName ?_
              refine ⟨rfl, ?_⟩
              walk_at "ss"
              refine k_ixL (SqL.of hTi.at_) (v := xs8[i]) (by rw [Int.zero_add]; exact atI_nat h1) ?_
              walk_at "ss"
              refine k_isI (hTi.it i _ _ h1 h2).is.is ?_
              cases ho : os8[i] with
              | none =>
                walk_at "ss"
                refine ⟨_, rfl, ?_⟩
                refine ⟨_, hC, small_lt (by rw [List.length_map]; have := List.length_filter_le (fun k => isNo os8[k]?) (List.range i); rw [List.length_range] at this; omega), ?_, same_put sm nC⟩
                rw [upd_same, step, if_pos ho, List.map_append, Int.zero_add]
                rfl
              | some r =>
                walk_at "ss"
                refine ⟨?_, sm⟩
                rw [step, if_neg (by rw [ho]; intro q; cases q), List.append_nil]
                exact hC
            · rintro H' ⟨hC, sm⟩
              obtain ⟨G9, nb9, s89, rfl⟩ := split_up hb8.nb sm
              have hb9 := hb8.up s89 nb9
              have hT9 := hT8.up s89
              walk_at "ss"
              cases hnp : noPlace os8 0 with
              | none => exact absurd rfl (noPlace_all hnp _ hin)
              | some i0 =>
                obtain ⟨_, hi0, hbef⟩ := noPlace_at hnp
                rw [Nat.sub_zero] at hi0 hbef
                have hi0l : i0 < xs8.length := by rw [hT8.len]; exact (List.getElem?_eq_some_iff.mp hi0).1
                have hmem : i0 ∈ (List.range xs8.length).filter fun k => isNo os8[k]? := List.mem_filter.mpr ⟨List.mem_range.mpr hi0l, by rw [hi0]; rfl⟩
                refine ⟨C, ((List.range xs8.length).filter fun k => isNo os8[k]?).map fun k => ((k : Nat) : Int), rfl, SqL.of (by rw [List.map_map]; exact hC), by rw [List.length_map]; exact List.length_pos_of_mem hmem, fun m hm hmin => ?_⟩
                have em : m = (i0 : Nat) := by
                  obtain ⟨k0, hk0, rfl⟩ := List.mem_map.mp hm
                  have h1 := hmin _ (List.mem_map.mpr ⟨i0, hmem, rfl⟩)
                  have h2 := isNo_eq (List.mem_filter.mp hk0).2
                  by_cases hlt : k0 < i0
                  · obtain ⟨r, hr⟩ := hbef k0 hlt
                    rw [hr] at h2
                    cases h2
                  · omega
                subst em
                walk_at "ss"
                intro f nt_f
                rw [upd_swap (up_none nt_f).2]
                generalize eG_f : upd _ f _ = G10
                obtain ⟨nb10, s910, hf, nt_f, nG_f⟩ := new_facts nb9 nt_f eG_f
                clear eG_f
                exact ⟨xs8, os8, .ref f, G10, β8, _, _, rfl, rfl, hb9.up s910 nb10, (s08.trans s89).trans s910, (hS8.up s89).up s910, (hru8.up s89).up s910, hT9.up s910, hol8, by rw [treeBad_np _ hnp]; exact ⟨f, rfl, hf⟩, fun q => by rw [hnp] at q; cases q⟩
        · walk_at "ss"
          exact stay _ _ β6 hb6
      · walk_at "ss"
        exact stay _ _ β2 hb5
    · rintro σ H' ⟨xs6, os6, dv6, G6, β6, u5, u6, rfl, rfl, hb6, s06, hS6, hru6, hT6, hol, hdv6, hos6⟩
      refine k_meet (fun σ H' => ∃ (rv dv : V) (isR : Bool) (G' : Hp) (β' : HO) (u5 u6 : Option V), σ = [some (.ref b), some (.ref p), some (.ref q), some (.ref S), some dv, u5, u6, none, none, none, some rv, some (.ref D), none, none] ∧ H' = upd G' b β' ∧ Bag K G G' b β' ∧ Same G6 G' ∧
        RvX T D G' rv isR ∧ DueV G' dv (treeBad rv isR os6)) ?_ ?_
      · walk_at "ss"
        refine k_draw hb6 (by decide) (by decide) fun d7 β7 _ _ hb7 => ?_
        walk_at "ss"
        refine k_d (fun _ => ?_) (fun _ => ?_)
        · walk_at "ss"
          refine ⟨OnlyL D, G, G6, b, β7, rfl, rfl, hb7, fun a ha hn => (by cases (show a = D from ha); rw [hT6.at_] at hn; cases hn), fun vo G8 β8 s68 hb8 hov => ?_⟩
          refine k_cons ?_
          refine k_win T hb8 (by decide) (by decide) fun wa G9 s89 hb9 hwa => ?_
          refine k_cons ?_
          refine k_c ?_
          refine k_cons ?_
          have s69 := s68.trans s89
          have hT9 := hT6.up s69
          refine k_via (fun v H' => H' = upd G9 b β8 ∧ RvX T D G9 v false) ?_ ?_
          · intro Q0 hW
            walk_at "ss"
            refine k_tru ?_
            walk_at "ss"
            refine ⟨!xs6.isEmpty, .inl ⟨_, SqL.of (up_get hb9.nb hT9.at_), rfl⟩, ?_⟩
            cases hx6 : xs6 with
            | nil =>
              refine k_f ?_
              walk_at "ss"
              exact hW _ _ ⟨rfl, .inl (Gd.sc .non 2)⟩
            | cons x0 xr =>
              refine k_t ?_
              rw [hx6] at hT9
              walk_at "ss"
              refine k_ixL (SqL.of (up_get hb9.nb hT9.at_)) (v := x0) (atI_nat (j := 0) rfl) ?_
              walk_at "ss"
              have key : RvX T D G9 x0 false ∨ ∃ a, x0 = .ref a ∧ RuleAt T G9 a := by
                have hl0 := hT9.len
                cases ho6 : os6 with
                | nil => rw [ho6] at hl0; cases hl0
                | cons o0 or =>
                  have hi := hT9.it 0 x0 o0 rfl (by rw [ho6]; rfl)
                  cases o0 with
                  | some r =>
                    obtain ⟨a, e1, h⟩ := hi
                    exact .inl (.inr ⟨a, e1, .inr ⟨r, h⟩⟩)
                  | none =>
                    rcases hi with h | h
                    · exact .inl (.inl h)
                    · exact .inr h
              rcases key with hk | hk
              · refine k_isI (IsI.up (RvX.is hk) (up_same hb9.nb)) ?_
                refine ⟨_, rfl, ?_⟩
                refine k_t' ?_
                walk_at "ss"
                refine k_ixL (SqL.of (up_get hb9.nb hT9.at_)) (v := x0) (atI_nat (j := 0) rfl) ?_
                exact hW _ _ ⟨rfl, hk⟩
              · refine k_isI (IsI.up (RvX.is (D := D) (i := true) hk) (up_same hb9.nb)) ?_
                refine ⟨_, rfl, ?_⟩
                refine k_f' ?_
                walk_at "ss"
                exact hW _ _ ⟨rfl, .inl (Gd.sc .non 2)⟩
          · rintro y H' ⟨rfl, hy⟩
            walk_at "ss"
            intro t5 nt_t5
            rw [upd_swap (up_none nt_t5).2]
            generalize eG_t5 : upd _ t5 _ = G10
            obtain ⟨nb10, s910, ht5, nt_t5, nG_t5⟩ := new_facts hb9.nb nt_t5 eG_t5
            clear eG_t5
            have hb10 := hb9.up s910 nb10
            walk_at "ss"
            refine k_of hb10 (SqL.of ht5) (by simp) (by simp) fun rv β10 hrv hb11 => ?_
            have hrv : RvX T D G10 rv false := by
              simp only [List.mem_cons, List.not_mem_nil, or_false] at hrv
              rcases hrv with rfl | rfl | rfl | rfl
              · exact .inl ((Gd.up hov s89).up s910)
              · exact .inr ⟨wa, rfl, .inl ⟨3, hwa.up s910⟩⟩
              · exact .inl (Gd.sc (.str _ (by decide +kernel)) 2)
              · exact hy.up s910
            walk_at "ss"
            intro f nt_f
            rw [upd_swap (up_none nt_f).2]
            generalize eG_f : upd _ f _ = G11
            obtain ⟨nb11, s1011, hf, nt_f, nG_f⟩ := new_facts nb10 nt_f eG_f
            clear eG_f
            exact ⟨rv, .ref f, false, G11, β10, _, _, rfl, rfl, hb11.up s1011 nb11, (s69.trans s910).trans s1011, hrv.up s1011, ⟨f, rfl, hf⟩⟩
        · walk_at "ss"
          exact ⟨.ref ru, dv6, true, G6, β7, _, _, rfl, rfl, hb7, Same.refl _, ⟨ru, rfl, hru6⟩, hdv6⟩
      · rintro σ H' ⟨rv, dv7, isR, G7, β7, v5, v6, rfl, rfl, hb7, s67, hrv, hdv7⟩
        have s07 := s06.trans s67
        have hTb7 : Tabs (TL_ T) (upd G7 b β7) := Tabs.bag hT hb s07 hb7.nb
        walk_at "ss"
        refine k_lam hTb7 fun H1 eN T1 => ?_
        obtain ⟨G8, nb8, e8, rfl⟩ := split_ext hb7.nb hb7.nt eN
        have hb8 := hb7.ext e8 nb8
        have eG8 : ExtN G G8 := ext_trans (same_ext s07) e8
        have hS8 := (hS6.up s67).ext e8
        have hT8 := (hT6.up s67).ext e8
        have hrv8 := hrv.ext e8
        have hdv8 := hdv7.ext e8
        have hR8 := hR.ext eG8
        refine ask_any (bad := treeBad rv isR os6) (good := fun G x => treeBad rv isR os6 = none ∧ TreeAt T G x xs6) hb8 (fun G G' x e h => ⟨h.1, h.2.up e⟩) ?_ ?_ ?_
        · intro e hbad G9 β9 f t s89 hb9 hf ht
          refine k_gTup (SqT.of (up_get hb9.nb ht)) rfl ?_
          have hdv9 := hdv8.up s89
          rw [hbad] at hdv9
          obtain ⟨f2, rfl, hf2⟩ := hdv9
          have hrv9 := hrv8.up s89
          have hR9 := hR8.up s89
          have hl30 : l.length ≤ 30 := by omega
          have eqr : ∀ v ∈ e.row, Eqd T (upd G9 b β9) 2 v v := eqd_bad hbad fun hi => by
            subst hi
            exact (RvX.eqd hrv9).up (up_same hb9.nb)
          walk_at "ss"
          refine ⟨rfl, ?_⟩
          refine ⟨_, rfl, ?_⟩
          refine k_nf (fun q => by cases q) ?_
          walk_at "ss"
          refine ⟨rfl, ?_⟩
          refine ⟨_, rfl, ?_⟩
          refine k_nt rfl ?_
          walk_at "ss"
          refine ⟨_, _, rfl, eqd_row (up_get hb9.nb hf) (up_get hb9.nb hf2) eqr, fun H10 s10 => ?_⟩
          obtain ⟨G10, nb10, s910, rfl⟩ := split_up hb9.nb s10
          have hb10 := hb9.up s910 nb10
          have hR10 := hR9.up s910
          refine ⟨_, rfl, ?_⟩
          refine k_f' ?_
          walk_at "ss"
          have T10 : Tabs (TL_ T) (upd G10 b β9) := Tabs.bag T1 hb8 (s89.trans s910) nb10
          refine k_rule4 T hb10 fun ru2 G11 s1011 hb11 hru2 => ?_
          refine k_cons ?_
          have hR11 := hR10.up s1011
          refine k_plcs1 T hb11 hR11 hg hl30 fun D2 xs2 G12 β12 s1112 hb12 _ _ hD12 hpls => ?_
          refine k_nil ?_
          have sU := up_same (β := β12) hb12.nb
          have hth := hpls.th hD12
          have hnb : treeBad (.ref ru2) true ((l.map (·.2)).map some) = none := by
            rw [treeBad_rows]
            unfold rowsDue
            rw [if_neg (by simpa using hne), if_neg (by rw [List.length_map]; omega), hmf]
          refine ⟨.ref ru2, D2, xs2, true, (l.map (·.2)).map some, rfl, up_get hb12.nb hD12, IsI.up (RvX.is (D := D2) (i := true) ⟨ru2, rfl, hru2.up s1112⟩) sU, hth.len, by rw [hpls.1]; omega, fun i x o hx ho => ItemAt.up (hth.it i x o hx ho).is sU, fun e he => (by rw [hnb] at he; cases he), fun _ t2 H13 s13 hTr => ?_⟩
          obtain ⟨G13, nb13, s1213, rfl⟩ := split_up hb12.nb s13
          have hb13 := hb12.up s1213 nb13
          refine k_gName ?_
          dsimp only
          refine k_ret ?_
          refine k_call ?_
          refine k_cons ?_
          refine k_rows9 T rfl hTr ((hpls.up s1213).up (up_same nb13)) hl30 fun C H14 s14 hTs => ?_
          obtain ⟨G14, nb14, s1314, rfl⟩ := split_up nb13 s14
          have hR14 := ((hR11.up s1112).up s1213).up s1314
          refine k_cons ?_
          refine k_var rfl ?_
          refine k_nil ?_
          refine ⟨_, _, rfl, eqd_rows hTs (hR14.up (up_same nb14)) hl30 1, fun H15 s15 => ?_⟩
          obtain ⟨G15, nb15, s1415, rfl⟩ := split_up nb14 s15
          have s815 := ((((((s89.trans s910).trans s1011).trans s1112).trans s1213).trans s1314).trans s1415)
          exact k G15 β12 (ext_trans eG8 (same_ext s815)) (hb12.up ((s1213.trans s1314).trans s1415) nb15).re (Tabs.bag T1 hb8 s815 nb15)
        · rintro x G9 β9 t s89 hb9 ⟨hnone, hTree⟩ ht
          refine k_gTup (SqT.of (up_get hb9.nb ht)) rfl ?_
          have hdv9 := hdv8.up s89
          rw [hnone] at hdv9
          obtain rfl : dv7 = .non := hdv9
          obtain ⟨hisR, hnp⟩ := bad_none hnone
          have hos := hos6 hnp
          have hT9 := hT8.up s89
          have hS9 := hS8.up s89
          walk_at "ss"
          refine ⟨rfl, ?_⟩
          refine ⟨_, rfl, ?_⟩
          refine k_nt rfl ?_
          walk_at "ss"
          refine ⟨rfl, ?_⟩
          refine ⟨_, rfl, ?_⟩
          refine k_dt rfl ?_
          have sU := up_same (β := β9) hb9.nb
          have hpl : PlsAt T G9 xs6 ls := by
            refine ⟨by rw [hT9.len, hos]; simp, fun i x z hx hz => hT9.it i x (some z.2) hx ?_⟩
            rw [hos, List.getElem?_map, List.getElem?_map, hz]
            rfl
          refine k_andV ?_
          refine k_call ?_
          refine k_cons ?_
          refine k_rows7 T rfl (hTree.up sU) (hpl.up sU) (by omega) fun C H10 s10 hTs => ?_
          obtain ⟨G10, nb10, s910, rfl⟩ := split_up hb9.nb s10
          have hS10 := hS9.up s910
          refine k_cons ?_
          refine k_var rfl ?_
          refine k_nil ?_
          refine ⟨_, _, rfl, eqd_rows hTs (hS10.up (up_same nb10)) (by omega) 1, fun H11 s11 => ?_⟩
          obtain ⟨G11, nb11, s1011, rfl⟩ := split_up nb10 s11
          have hTr11 := (hTree.up ((s910.trans s1011))).up (up_same (β := β9) nb11)
          refine ⟨_, rfl, ?_⟩
          refine k_t ?_
          obtain ⟨dx, L, E1, E2, E3, rv2, h1, h2⟩ := id hTr11
          walk_at "ss"
          refine ⟨x, _, _, rfl, h1, ⟨x, xs6, rfl, hTr11, xs6.length, rfl, by have := hpl.1; omega, ?_⟩⟩
          walk_at "ss"
          refine k_lenL (SqL.of (up_get nb11 (hS10.up s1011).at_)) ?_
          walk_at "ss"
          have elen : ((ls.map fun z : Addr × PlRow => V.ref z.1).length : Nat) = xs6.length := by rw [List.length_map]; exact hpl.1.symm
          rw [elen]
          refine ⟨_, _, rfl, Eqd.sc (.int _) 3, fun H12 s12 => ?_⟩
          obtain ⟨G12, nb12, s1112, rfl⟩ := split_up nb11 s12
          have s812 := ((s89.trans s910).trans s1011).trans s1112
          exact k G12 β9 (ext_trans eG8 (same_ext s812)) (hb9.up ((s910.trans s1011).trans s1112) nb12).re (Tabs.bag T1 hb8 s812 nb12)
        · intro E2 Q2 G9 s89 hb9 hE hQ
          have hT9 := hT8.up s89
          have hrv9 := hrv8.up s89
          have sU := up_same (β := β7) hb9.nb
          walk_at "ss"
          refine ⟨rv, D, xs6, isR, os6, rfl, up_get hb9.nb hT9.at_, IsI.up hrv9.is sU, hT9.len, by rw [hT9.len, hol]; exact hls, fun i x o hx ho => ItemAt.up (hT9.it i x o hx ho).is sU, fun e he => hE e he G9 β7 s89 hb9, fun hn t H' sm hTr => ?_⟩
          obtain ⟨G10, nb10, s910, rfl⟩ := split_up hb9.nb sm
          have hb10 := hb9.up s910 nb10
          refine hQ t G10 β7 (s89.trans s910) hb10 ⟨hn, ?_⟩
          obtain ⟨dx, L, E1, E2, E3, rv2, h1, h2⟩ := hTr
          refine ⟨dx, L, E1, E2, E3, rv2, off_bag (hb10.noO _ _ _) h1, off_bag (hb10.noRefs fun x hx => ?_) h2⟩
          obtain ⟨_, hnp⟩ := bad_none hn
          obtain ⟨i, hi, rfl⟩ := List.mem_iff_getElem.mp hx
          have hio : i < os6.length := by rw [← hT9.len]; exact hi
          have hit := hT9.it i _ _ (List.getElem?_eq_getElem hi) (List.getElem?_eq_getElem hio)
          cases ho : os6[i] with
          | none => exact absurd ho (noPlace_all hnp _ (List.getElem_mem hio))
          | some r =>
            rw [ho] at hit
            obtain ⟨a, e1, _⟩ := hit
            exact ⟨a, e1⟩
end

section
open LamX
variable {w : World} {K : PySem.W.Frag} {mg : Str → Option Value} {base : Heap}
/-! ### a place is made or refused as is due -/
def PV (T : Tx K mg) (L : Addr) (G : Hp) (v : V) : Prop := Gd (OnlyL L) G 2 v ∨ ∃ a n, v = .ref a ∧ WinAt T G a n
theorem PV.up {T : Tx K mg} {L : Addr} {G G' : Hp} {v : V} (h : PV T L G v) (e : Same G G') : PV T L G' v := by
  rcases h with h | ⟨a, n, rfl, h⟩
  · exact .inl (Gd.up h e)
  · exact .inr ⟨a, n, rfl, h.up e⟩
theorem PV.ext {T : Tx K mg} {L : Addr} {G G' : Hp} {v : V} (h : PV T L G v) (e : ExtN G G') : PV T L G' v := by
  rcases h with h | ⟨a, n, rfl, h⟩
  · exact .inl (h.keep (ext_keep e))
  · exact .inr ⟨a, n, rfl, h.ext e⟩
theorem PV.put {T : Tx K mg} {L : Addr} {G : Hp} {v : V} {xs : List V} {o : HO} (h : PV T L G v) (hL : G L = some (.lst xs)) : PV T L (upd G L o) v := by
  rcases h with h | ⟨a, n, rfl, dx, h⟩
  · exact .inl (h.keep keep_put)
  · exact .inr ⟨a, n, rfl, dx, (upd_ne (ne_of h hL (by intro z; cases z))).trans h⟩
theorem PV.gw {T : Tx K mg} {L : Addr} {G : Hp} {v : V} (h : PV T L G v) : Gw K G v := by
  rcases h with h | ⟨a, n, rfl, dx, h⟩
  · exact .inl h.gv
  · exact .inr ⟨a, _, _, _, rfl, h, T.ty_Window, T.ktt_Window_str⟩
theorem PV.eqd {T : Tx K mg} {L : Addr} {G : Hp} {v : V} (h : PV T L G v) : Eqd T G 2 v v := by
  rcases h with h | ⟨a, n, rfl, h⟩
  · exact Gd.eqd h
  · exact Eqd.leaf (.inr ⟨a, rfl, .inl ⟨n, h⟩⟩) 2
def bad1 (p : Nat × V) : Bool := !nameV p.2 && (decide (p.1 < 2) || !decide (p.2 = V.non))
abbrev psL (v0 v1 v2 v4 : V) : List (Nat × V) := [(0, v0), (1, v1), (2, v2), (4, v4)]
theorem plBad_ps (v0 v1 v2 v4 : V) : plBad v0 v1 v2 v4 = match (psL v0 v1 v2 v4).filter bad1 with
    | [] => none
    | q :: _ => some (.name q.2) := by
  have c : ∀ v : V, (v ≠ .non ∧ nameV v = false) ↔ bad1 (2, v) = true := fun v => by
    unfold bad1
    cases nameV v <;> simp
  have c4 : ∀ v : V, bad1 (4, v) = bad1 (2, v) := fun v => rfl
  have c0 : ∀ v : V, bad1 (0, v) = !nameV v := fun v => by unfold bad1; simp
  have c1 : ∀ v : V, bad1 (1, v) = !nameV v := fun v => by unfold bad1; simp
  unfold plBad psL
  simp only [List.filter_cons, List.filter_nil, c0, c1, c4, c]
  cases nameV v0 with
  | false => rfl
  | true =>
    cases nameV v1 with
    | false => rfl
    | true =>
      cases bad1 (2, v2) with
      | true => rfl
      | false => cases bad1 (2, v4) <;> rfl
def spPlaceSo (T : Tx K mg) : Sp := fun vs H Q _ => ∃ (G : Hp) (b : Addr) (β : HO), vs = [.ref b] ∧ H = upd G b β ∧ Bag K G G b β ∧ Tabs (TL_ T) (upd G b β) ∧ ∀ (G' : Hp) (β' : HO), ExtN G G' → Bag K G' G' b β' → Tabs (TL_ T) (upd G' b β') → Q (.bl true) (upd G' b β')
theorem ok_place_so (T : Tx K mg) (TB_place_so : TabB base mg T.cda_place_so T.tb_place_so) : FnOk P w K mg base CX0 14 T.a_place_so T.fd_place_so P_place_so (spPlaceSo T) := by
  refine T.F_place_so.ok sc_place_so (fun vs H Q E h => ?_) (fun A outer s H vs Q E hr h => ?_)
  · obtain ⟨G, b, β, rfl, _⟩ := h
    rfl
  · obtain ⟨G, b, β, rfl, rfl, hb, hT, k⟩ := h
    have nd := sc_place_so.nd
    obtain ⟨oc9, od9, kV9, doc9, pm9, an9, cdv9, ct9, osl9, efd9, lk_ask, hc_ask⟩ := T.F_ask.ex
    have hb_ask := T.b_ask
    rw [efd9] at lk_ask hb_ask
    refine ⟨_, (pss_cons (ks_setC (i := 5) nd c_place_so_law_some (pe_lst (pa_cons pe_str (pa_cons pe_str (pa_cons (pe_call (ok_of T) (hr.mono (by first | decide | omega)) g_place_so_law_of T.m_of T.k_of T.b_of .nil pass0 (pa_cons (kv (i := 0) v_place_so_law_bag_here) (pa_cons (pe_lst (pa_cons pe_non (pa_cons pe_str pa_nil))) pa_nil))) (pa_cons (pe_call (ok_of T) (hr.mono (by first | decide | omega)) g_place_so_law_of T.m_of T.k_of T.b_of .nil pass0 (pa_cons (kv (i := 0) v_place_so_law_bag_here) (pa_cons (pe_lst (pa_cons pe_bl (pa_cons pe_bl pa_nil))) pa_nil))) (pa_cons (pe_call (ok_of T) (hr.mono (by first | decide | omega)) g_place_so_law_of T.m_of T.k_of T.b_of .nil pass0 (pa_cons (kv (i := 0) v_place_so_law_bag_here) (pa_cons (pe_lst (pa_cons pe_non (pa_cons pe_str (pa_cons pe_str pa_nil)))) pa_nil))) pa_nil)))))))
      (pss_cons (ps_for PassesOwn.never rfl (pi_range1 g_place_so_range T.n_range (pa_cons (pe_call (ok_of T) (hr.mono (by first | decide | omega)) g_place_so_law_of T.m_of T.k_of T.b_of .nil pass0 (pa_cons (kv (i := 0) v_place_so_law_bag_here) (pa_cons (pe_lst (pa_cons pe_int (pa_cons pe_int (pa_cons pe_int (pa_cons pe_int pa_nil))))) pa_nil))) pa_nil)) (kgL (i := 1) nd l_place_so_law_k) (pss_one (ps_asg (pe_call (ok_of T) (hr.mono (by first | decide | omega)) g_place_so_law_of T.m_of T.k_of T.b_of .nil pass0 (pa_cons (kv (i := 0) v_place_so_law_bag_here) (pa_cons (pe_lst (pa_cons (pe_call (ok_odd T) (hr.mono (by first | decide | omega)) g_place_so_law_odd T.m_odd T.k_odd T.b_odd .nil pass0 (pa_cons (kv (i := 0) v_place_so_law_bag_here) pa_nil)) (pa_cons pe_str (pa_cons pe_str (pa_cons pe_str (pa_cons pe_str (pa_cons pe_str (pa_cons pe_non (pa_cons (pe_make T.mk_Window (ok_Window_init T) (hr.mono (by first | decide | omega)) g_place_so_Window T.m_Window T.b_Window_init .nil pass0 (pa_cons pe_int pa_nil)) pa_nil))))))))) pa_nil))) (pg_sub (kv (i := 5) v_place_so_law_some) (pe_call (ok_of T) (hr.mono (by first | decide | omega)) g_place_so_law_of T.m_of T.k_of T.b_of .nil pass0 (pa_cons (kv (i := 0) v_place_so_law_bag_here) (pa_cons (pe_lst (pa_cons pe_int (pa_cons pe_int (pa_cons pe_int (pa_cons pe_int pa_nil))))) pa_nil))) set_list))))
      (pss_cons (ps_setLc (i := 2) (own := [("_law_k", 1)]) rfl nd rfl (locB_ok l_place_so_law_wrong) (sw_true rfl (locB_ok l_place_so_law_wrong) rfl (by decide +kernel)) (kpi_tup K (pe_tup (pa_cons pe_int (pa_cons pe_int (pa_cons pe_int (pa_cons pe_int pa_nil)))))) ok_cs_place_so_1 (fun _ _ _ _ _ => (kgL (i := 1) nd l_place_so_1_law_k)) (fun _ _ _ _ _ => (pts_one (PW.pt (pw_and (pt_not (pt_val (pe_call (ok_named T) (hr.mono (by first | decide | omega)) g_place_so_1_law_named T.m_named T.k_named T.b_named .nil pass0 (pa_cons (pe_ix (kix K) (kv (i := 5) v_place_so_1_law_some) (kv (i := 1) v_place_so_1_law_k) (fun _ _ => rfl)) pa_nil)))) (pw_and1 (PW.pt (pw_or (pt_cmpR op_lt (kv (i := 1) v_place_so_1_law_k) pe_int (nomark _)) (pw_or1 (pt_cmpR op_notN (pe_ix (kix K) (kv (i := 5) v_place_so_1_law_some) (kv (i := 1) v_place_so_1_law_k) (fun _ _ => rfl)) pe_non (nomark _)))))))))) (fun _ _ _ _ _ => (pe_ix (kix K) (kv (i := 5) v_place_so_1_law_some) (kv (i := 1) v_place_so_1_law_k) (fun _ _ => rfl))))
      (pss_cons (ps_asg (pe_lamA (k := 8) (T := TL_ T) (TT := TT_ask T) g_place_so_law_ask T.m_ask T.k_ask lk_ask hc_ask hb_ask sc_ask rfl vl_ask (gives_ask T) TB_place_so rfl (TM_place_so T) (TU_place_so T) (hr.mono (by first | decide | omega)) (LamX.lamS_by lam_place_so_ls_place_so_1) (fun A outer s H E lf lc hr => (pe_call (ok_place T) (hr.mono (by first | decide | omega)) g_place_so_L1_law_place T.m_place T.k_place T.b_place .nil (passes_call (takes_of rfl rfl rfl rfl) (fun _ _ _ _ h => h)) (pa_cons (kv (i := 0) v_place_so_L1_law_bag_here) (pa_cons (pe_tup (pa_cons (pe_ix (kix K) (kv (i := 5) v_place_so_L1_law_some) pe_int (fun _ _ => rfl)) (pa_cons (pe_ix (kix K) (kv (i := 5) v_place_so_L1_law_some) pe_int (fun _ _ => rfl)) (pa_cons (pe_ix (kix K) (kv (i := 5) v_place_so_L1_law_some) pe_int (fun _ _ => rfl)) (pa_cons (pe_ix (kix K) (kv (i := 5) v_place_so_L1_law_some) pe_int (fun _ _ => rfl)) (pa_cons (pe_ix (kix K) (kv (i := 5) v_place_so_L1_law_some) pe_int (fun _ _ => rfl)) pa_nil)))))) pa_nil))))) (kpg_tup K 2 rfl (pgs_cons (kgL (i := 3) nd l_place_so_law_told) (pgs_cons (kgL (i := 4) nd l_place_so_law_fault) pgs_nil))))
      (pss_cons (ps_if (kpt_truth K (kv (i := 2) v_place_so_law_wrong)) (pss_one (ps_ret (pe_and (pe_cmpR op_isN (kv (i := 3) v_place_so_law_told) pe_non (nomark _)) (pe_one (pe_call (ok_like T) (hr.mono (by first | decide | omega)) g_place_so_law_like T.m_like T.k_like T.b_like .nil pass0 (pa_cons (kv (i := 4) v_place_so_law_fault) (pa_cons (pe_lst (pa_cons pe_str (pa_cons (pe_ix (kix K) (kv (i := 2) v_place_so_law_wrong) pe_int (fun _ _ => rfl)) pa_nil))) pa_nil))))))) pss_nil)
      (pss_one (ps_ret (pe_and (pe_cmpR op_isN (kv (i := 4) v_place_so_law_fault) pe_non (nomark _)) (pe_one (pe_call (ok_like T) (hr.mono (by first | decide | omega)) g_place_so_law_like T.m_like T.k_like T.b_like .nil pass0 (pa_cons (pe_call (ok_row T) (hr.mono (by first | decide | omega)) g_place_so_law_row T.m_row T.k_row T.b_row .nil pass0 (pa_cons (kv (i := 3) v_place_so_law_told) pa_nil)) (pa_cons (pe_tup (pa_cons (pe_ix (kix K) (kv (i := 5) v_place_so_law_some) pe_int (fun _ _ => rfl)) (pa_cons (pe_ix (kix K) (kv (i := 5) v_place_so_law_some) pe_int (fun _ _ => rfl)) (pa_cons (pe_ix (kix K) (kv (i := 5) v_place_so_law_some) pe_int (fun _ _ => rfl)) (pa_cons (pe_ix (kix K) (kv (i := 5) v_place_so_law_some) pe_int (fun _ _ => rfl)) (pa_cons (pe_ix (kix K) (kv (i := 5) v_place_so_law_some) pe_int (fun _ _ => rfl)) pa_nil)))))) pa_nil)))))))))))), ?_⟩
    walk_at "ss"
    intro t1 nt_t1
    rw [upd_swap (up_none nt_t1).2]
    generalize eG_t1 : upd _ t1 _ = G1
    obtain ⟨nb1, sm1, ht1, nt_t1, nG_t1⟩ := new_facts hb.nb nt_t1 eG_t1
    clear eG_t1
    have hb1 := hb.up sm1 nb1
    walk_at "ss"
    refine k_of hb1 (SqL.of ht1) (by simp) (by simp) fun v2 β2 hv2 hb2 => ?_
    walk_at "ss"
    intro t2 nt_t2
    rw [upd_swap (up_none nt_t2).2]
    generalize eG_t2 : upd _ t2 _ = G2
    obtain ⟨nb2, sm2, ht2, nt_t2, nG_t2⟩ := new_facts hb2.nb nt_t2 eG_t2
    clear eG_t2
    have hb3 := hb2.up sm2 nb2
    walk_at "ss"
    refine k_of hb3 (SqL.of ht2) (by simp) (by simp) fun v3 β3 hv3 hb4 => ?_
    walk_at "ss"
    intro t3 nt_t3
    rw [upd_swap (up_none nt_t3).2]
    generalize eG_t3 : upd _ t3 _ = G3
    obtain ⟨nb3, sm3, ht3, nt_t3, nG_t3⟩ := new_facts hb4.nb nt_t3 eG_t3
    clear eG_t3
    have hb5 := hb4.up sm3 nb3
    walk_at "ss"
    refine k_of hb5 (SqL.of ht3) (by simp) (by simp) fun v4 β4 hv4 hb6 => ?_
    obtain ⟨me, rfl⟩ : ∃ me, v3 = V.bl me := by
      simp only [List.mem_cons, List.not_mem_nil, or_false] at hv3
      rcases hv3 with rfl | rfl <;> exact ⟨_, rfl⟩
    have sc2 : ScB v2 := by
      simp only [List.mem_cons, List.not_mem_nil, or_false] at hv2
      rcases hv2 with rfl | rfl
      · exact .non
      · exact .str _ (by decide +kernel)
    have sc4 : ScB v4 := by
      simp only [List.mem_cons, List.not_mem_nil, or_false] at hv4
      rcases hv4 with rfl | rfl | rfl
      · exact .non
      · exact .str _ (by decide +kernel)
      · exact .str _ (by decide +kernel)
    walk_at "ss"
    intro L nt_L
    rw [upd_swap (up_none nt_L).2]
    generalize eG_L : upd _ L _ = G4
    obtain ⟨nb4, sm4, hL, nt_L, nG_L⟩ := new_facts hb6.nb nt_L eG_L
    clear eG_L
    have hb7 := hb6.up sm4 nb4
    have s04 := ((sm1.trans sm2).trans sm3).trans sm4
    have nLG : G L = none := g_none ((sm1.trans sm2).trans sm3) nG_L
    walk_at "ss"
    intro t5 nt_t5
    rw [upd_swap (up_none nt_t5).2]
    generalize eG_t5 : upd _ t5 _ = G5
    obtain ⟨nb5, sm5, ht5, nt_t5, nG_t5⟩ := new_facts nb4 nt_t5 eG_t5
    clear eG_t5
    have hb8 := hb7.up sm5 nb5
    walk_at "ss"
    refine k_of hb8 (SqL.of ht5) (by simp) (by simp) fun vn β5 hvn hb9 => ?_
    obtain ⟨n, rfl, hn2⟩ : ∃ n : Nat, vn = V.int (n : Nat) ∧ n ≤ 2 := by
      simp only [List.mem_cons, List.not_mem_nil, or_false] at hvn
      rcases hvn with rfl | rfl | rfl | rfl
      · exact ⟨0, rfl, by decide⟩
      · exact ⟨1, rfl, by decide⟩
      · exact ⟨1, rfl, by decide⟩
      · exact ⟨2, rfl, by decide⟩
    have nLb : L ≠ b := nt_L
    walk_at "ss"
    refine k_r1 ⟨by omega, by omega⟩ ?_
    refine k_forRange (fun i σ H' => ∃ (w0 w1 w2 w4 : V) (G' : Hp) (β' : HO) (u1 : Option V), σ = [some (.ref b), u1, none, none, none, some (.ref L)] ∧ H' = upd G' b β' ∧ Bag K G G' b β' ∧ Same G G' ∧ G' L = some (.lst [w0, w1, w2, .bl me, w4]) ∧ PV T L G' w0 ∧ PV T L G' w1 ∧ PV T L G' w2 ∧ PV T L G' w4)
      ⟨.str "a", .str "x1", v2, v4, G5, β5, none, rfl, rfl, hb9, s04.trans sm5, sm5 _ _ hL, .inl (Gd.sc (.str _ (by decide +kernel)) 2), .inl (Gd.sc (.str _ (by decide +kernel)) 2), .inl (Gd.sc sc2 2), .inl (Gd.sc sc4 2)⟩ ?_ ?_
    · rintro i σ H' hi ⟨w0, w1, w2, w4, G6, β6, u1, rfl, rfl, hb10, s06, hL6, q0, q1, q2, q4⟩
      walk_at "ss"
      refine ⟨OnlyL L, G, G6, b, β6, rfl, rfl, hb10, fun a ha hn => (by cases (show a = L from ha); rw [hL6] at hn; cases hn), fun vo G7 β7 s67 hb11 hov => ?_⟩
      refine k_cons ?_
      refine k_c ?_
      refine k_cons ?_
      refine k_c ?_
      refine k_cons ?_
      refine k_c ?_
      refine k_cons ?_
      refine k_c ?_
      refine k_cons ?_
      refine k_c ?_
      refine k_cons ?_
      refine k_c ?_
      refine k_cons ?_
      refine k_win T hb11 (by decide) (by decide) fun wa G8 s78 hb12 hwa => ?_
      walk_at "ss"
      intro t6 nt_t6
      rw [upd_swap (up_none nt_t6).2]
      generalize eG_t6 : upd _ t6 _ = G9
      obtain ⟨nb9, s89, ht6, nt_t6, nG_t6⟩ := new_facts hb12.nb nt_t6 eG_t6
      clear eG_t6
      have hb13 := hb12.up s89 nb9
      walk_at "ss"
      refine k_of hb13 (SqL.of ht6) (by simp) (by simp) fun y β8 hy hb14 => ?_
      have hpy : PV T L G9 y := by
        simp only [List.mem_cons, List.not_mem_nil, or_false] at hy
        rcases hy with rfl | rfl | rfl | rfl | rfl | rfl | rfl | rfl
        · exact .inl ((Gd.up hov s78).up s89)
        · exact .inl (Gd.sc (.str _ (by decide +kernel)) 2)
        · exact .inl (Gd.sc (.str _ (by decide +kernel)) 2)
        · exact .inl (Gd.sc (.str _ (by decide +kernel)) 2)
        · exact .inl (Gd.sc (.str _ (by decide +kernel)) 2)
        · exact .inl (Gd.sc (.str _ (by decide +kernel)) 2)
        · exact .inl (Gd.sc .non 2)
        · exact .inr ⟨wa, 3, rfl, hwa.up s89⟩
      walk_at "ss"
      intro t7 nt_t7
      rw [upd_swap (up_none nt_t7).2]
      generalize eG_t7 : upd _ t7 _ = GA
      obtain ⟨nbA, s9A, ht7, nt_t7, nG_t7⟩ := new_facts nb9 nt_t7 eG_t7
      clear eG_t7
      have hb15 := hb14.up s9A nbA
      walk_at "ss"
      refine k_of hb15 (SqL.of ht7) (by simp) (by simp) fun ix β9 hix hb16 => ?_
      have s6A := ((s67.trans s78).trans s89).trans s9A
      have hLA := s6A _ _ hL6
      have hpyA := hpy.up s9A
      have r0 := q0.up s6A
      have r1 := q1.up s6A
      have r2 := q2.up s6A
      have r4 := q4.up s6A
      have fin : ∀ z0 z1 z2 z4 : V, PV T L GA z0 → PV T L GA z1 → PV T L GA z2 → PV T L GA z4 → ∀ u1 : Option V, ∃ (w0 w1 w2 w4 : V) (G' : Hp) (β' : HO) (u1' : Option V), [some (V.ref b), u1, none, none, none, some (V.ref L)] = [some (V.ref b), u1', none, none, none, some (V.ref L)] ∧ upd (upd GA b β9) L (.lst [z0, z1, z2, .bl me, z4]) = upd G' b β' ∧ Bag K G G' b β' ∧ Same G G' ∧ G' L = some (.lst [w0, w1, w2, .bl me, w4]) ∧ PV T L G' w0 ∧ PV T L G' w1 ∧ PV T L G' w2 ∧ PV T L G' w4 := fun z0 z1 z2 z4 h0 h1 h2 h4 u1 =>
        ⟨z0, z1, z2, z4, upd GA L (.lst [z0, z1, z2, .bl me, z4]), β9, u1, rfl, upd_swap nLb, hb16.up0 (same_put hb16.sm nLG) (by rw [upd_ne (Ne.symm nLb)]; exact hb16.nb), same_put (s06.trans s6A) nLG, upd_same, h0.put hLA, h1.put hLA, h2.put hLA, h4.put hLA⟩
      simp only [List.mem_cons, List.not_mem_nil, or_false] at hix
      rcases hix with rfl | rfl | rfl | rfl
      · walk_at "ss"
        exact fin _ _ _ _ hpyA r1 r2 r4 _
      · walk_at "ss"
        exact fin _ _ _ _ r0 hpyA r2 r4 _
      · walk_at "ss"
        exact fin _ _ _ _ r0 r1 hpyA r4 _
      · walk_at "ss"
        exact fin _ _ _ _ r0 r1 r2 hpyA _
    · rintro σ H' ⟨w0, w1, w2, w4, G6, β6, u1, rfl, rfl, hb10, s06, hL6, q0, q1, q2, q4⟩
      walk_at "ss"
      intro tk nt_tk
      rw [upd_swap (up_none nt_tk).2]
      generalize eG_tk : upd _ tk _ = G7
      obtain ⟨nb7, s67, htk, nt_tk, nG_tk⟩ := new_facts hb10.nb nt_tk eG_tk
      clear eG_tk
      have hb11 := hb10.up s67 nb7
      have hL7 := s67 _ _ hL6
      have sU := up_same (β := β6) nb7
      have r0 := (q0.up s67).up sU
      have r1 := (q1.up s67).up sU
      have r2 := (q2.up s67).up sU
      have r4 := (q4.up s67).up sU
      have hLu := sU _ _ hL7
      have htu := sU _ _ htk
      refine k_iT (SqT.of htu) ?_
      intro D nD
      refine k_lcTup [.int 0, .int 1, .int 2, .int 4] (fun i H' => H' D = some (.lst ((((psL w0 w1 w2 w4).take i).filter bad1).map (·.2))) ∧ Same (upd G7 b β6) H') ⟨upd_same, same_new nD⟩ (fun i H' _ h => SqT.of (h.2 _ _ htu)) ?_ ?_
      · rintro i x H' hx ⟨hD, sm⟩
        obtain ⟨q, hq, rfl, hat, hpq⟩ : ∃ q : Nat × V, (psL w0 w1 w2 w4)[i]? = some q ∧ x = .int (q.1 : Nat) ∧ atI [w0, w1, w2, .bl me, w4] ((q.1 : Nat) : Int) = some q.2 ∧ PV T L (upd G7 b β6) q.2 := by
          match i, hx with
          | 0, hx => exact ⟨(0, w0), rfl, (Option.some.inj hx).symm, atI_nat rfl, r0⟩
          | 1, hx => exact ⟨(1, w1), rfl, (Option.some.inj hx).symm, atI_nat rfl, r1⟩
          | 2, hx => exact ⟨(2, w2), rfl, (Option.some.inj hx).symm, atI_nat rfl, r2⟩
          | 3, hx => exact ⟨(4, w4), rfl, (Option.some.inj hx).symm, atI_nat rfl, r4⟩
          | i + 4, hx => cases hx
        have step : ((psL w0 w1 w2 w4).take (i + 1)).filter bad1 = ((psL w0 w1 w2 w4).take i).filter bad1 ++ (if bad1 q = true then [q] else []) := by
          rw [List.take_add_one, hq, List.filter_append]
          cases hb1q : bad1 q <;> simp [List.filter_cons, hb1q]
        have hlen4 : ((((psL w0 w1 w2 w4).take i).filter bad1).map (·.2)).length ≤ 4 := by
          rw [List.length_map]
          exact Nat.le_trans (List.length_filter_le _ _) (by rw [List.length_take]; show min i 4 ≤ 4; omega)
        refine k_gName ?_
        refine ⟨rfl, ?_⟩
        walk_at "ss"
        refine k_ixL (SqL.of (sm _ _ hLu)) hat ?_
        walk_at "ss"
        refine ⟨q.2, rfl, (hpq.up sm).gw, fun H2 s2 => ?_⟩
        have hD2 := s2 _ _ hD
        have sm2 := sm.trans s2
        refine ⟨_, rfl, ?_⟩
        have yes : bad1 q = true → H2 D = some (.lst ((((psL w0 w1 w2 w4).take i).filter bad1).map (·.2))) → upd H2 D (.lst ((((psL w0 w1 w2 w4).take i).filter bad1).map (·.2) ++ [q.2])) D = some (.lst ((((psL w0 w1 w2 w4).take (i + 1)).filter bad1).map (·.2))) := fun h _ => by
          rw [upd_same, step, if_pos h, List.map_append]
          rfl
        have no : bad1 q = false → H2 D = some (.lst ((((psL w0 w1 w2 w4).take (i + 1)).filter bad1).map (·.2))) := fun h => by
          rw [step, if_neg (by rw [h]; decide), List.append_nil]
          exact hD2
        cases hnm : nameV q.2 with
        | true =>
          refine k_f' ?_
          exact ⟨no (by unfold bad1; rw [hnm]; rfl), sm2⟩
        | false =>
          refine k_t' ?_
          walk_at "ss"
          refine k_d (fun hk2 => ?_) (fun hk2 => ?_)
          · walk_at "ss"
            refine k_ixL (SqL.of (sm2 _ _ hLu)) hat ?_
            exact ⟨_, hD2, small_lt (by omega), yes (by unfold bad1; rw [hnm, decide_eq_true (show q.1 < 2 by omega)]; rfl) hD2, same_put sm2 nD⟩
          · walk_at "ss"
            refine k_ixL (SqL.of (sm2 _ _ hLu)) hat ?_
            walk_at "ss"
            refine ⟨rfl, ?_⟩
            refine ⟨_, rfl, ?_⟩
            refine k_n (fun hnn => ?_) (fun hnn => ?_)
            · exact ⟨no (by unfold bad1; rw [hnm, decide_eq_false (show ¬ q.1 < 2 by omega), decide_eq_true hnn]; rfl), sm2⟩
            · walk_at "ss"
              refine k_ixL (SqL.of (sm2 _ _ hLu)) hat ?_
              exact ⟨_, hD2, small_lt (by omega), yes (by unfold bad1; rw [hnm, decide_eq_false (show ¬ q.1 < 2 by omega), decide_eq_false hnn]; rfl) hD2, same_put sm2 nD⟩
      · rintro H' ⟨hD, sm⟩
        have hD : H' D = some (.lst (((psL w0 w1 w2 w4).filter bad1).map (·.2))) := hD
        obtain ⟨G8, nb8, s78, rfl⟩ := split_up nb7 sm
        have hb12 := hb11.up s78 nb8
        have hD8 : G8 D = _ := (upd_ne (up_none nD).2).symm.trans hD
        have s68 := s67.trans s78
        have s08 := s06.trans s68
        have hTb8 : Tabs (TL_ T) (upd G8 b β6) := Tabs.bag hT hb s08 nb8
        walk_at "ss"
        refine k_lam hTb8 fun H1 eN T1 => ?_
        obtain ⟨G9, nb9, e9, rfl⟩ := split_ext nb8 hb12.nt eN
        have hb13 := hb12.ext e9 nb9
        have eG9 : ExtN G G9 := ext_trans (same_ext s08) e9
        have hL9 := e9 _ _ (s68 _ _ hL6) (fun ps z => by cases z)
        have hD9 := e9 _ _ hD8 (fun ps z => by cases z)
        have p0 := (q0.up s68).ext e9
        have p1 := (q1.up s68).ext e9
        have p2 := (q2.up s68).ext e9
        have p4 := (q4.up s68).ext e9
        clear q0 q1 q2 q4 r0 r1 r2 r4
        have hps := plBad_ps w0 w1 w2 w4
        refine ask_any (bad := plBad w0 w1 w2 w4) (good := fun G x => plBad w0 w1 w2 w4 = none ∧ PlV T G x w0 w1 w2 me w4) hb13 (fun G G' x e ⟨h1, dx, h2⟩ => ⟨h1, dx, e _ _ h2⟩) ?_ ?_ ?_
        · intro e hbad GA βA f t s9A hbA hf ht
          refine k_gTup (SqT.of (up_get hbA.nb ht)) rfl ?_
          have hDA := up_get (β := βA) hbA.nb (s9A _ _ hD9)
          rw [hbad] at hps
          cases hfl : (psL w0 w1 w2 w4).filter bad1 with
          | nil => rw [hfl] at hps; cases hps
          | cons q qs =>
            rw [hfl] at hps hDA
            obtain rfl : e = .name q.2 := Option.some.inj hps
            have hpq : PV T L GA q.2 := by
              have hm : q ∈ psL w0 w1 w2 w4 := (List.mem_filter.mp (hfl ▸ List.mem_cons_self)).1
              simp only [List.mem_cons, List.not_mem_nil, or_false] at hm
              rcases hm with rfl | rfl | rfl | rfl
              · exact p0.up s9A
              · exact p1.up s9A
              · exact p2.up s9A
              · exact p4.up s9A
            walk_at "ss"
            refine k_tru ?_
            walk_at "ss"
            refine ⟨_, .inl ⟨_, SqL.of hDA, rfl⟩, ?_⟩
            refine k_t ?_
            walk_at "ss"
            refine ⟨rfl, ?_⟩
            refine ⟨_, rfl, ?_⟩
            refine k_dt rfl ?_
            walk_at "ss"
            refine k_ixL (SqL.of hDA) (v := q.2) (atI_nat (j := 0) rfl) ?_
            walk_at "ss"
            intro f2 nt_f2
            rw [upd_swap (up_none nt_f2).2]
            generalize eG_f2 : upd _ f2 _ = GB
            obtain ⟨nbB, sAB, hf2, nt_f2, nG_f2⟩ := new_facts hbA.nb nt_f2 eG_f2
            clear eG_f2
            refine ⟨_, _, rfl, eqd_row (e := .name q.2) (up_get nbB (sAB _ _ hf)) (up_get nbB hf2) (fun v hv => ?_), fun HC sC => ?_⟩
            · simp only [Ev.row, List.mem_cons, List.not_mem_nil, or_false] at hv
              rcases hv with rfl | rfl
              · exact Eqd.sc (.str _) 2
              · exact ((hpq.up sAB).eqd).up (up_same nbB)
            · obtain ⟨GC, nbC, sBC, rfl⟩ := split_up nbB sC
              have s9C := (s9A.trans sAB).trans sBC
              exact k GC βA (ext_trans eG9 (same_ext s9C)) (hbA.up (sAB.trans sBC) nbC).re (Tabs.bag T1 hb13 s9C nbC)
        · rintro x GA βA t s9A hbA ⟨hnone, hPl⟩ ht
          refine k_gTup (SqT.of (up_get hbA.nb ht)) rfl ?_
          have hDA := up_get (β := βA) hbA.nb (s9A _ _ hD9)
          have hLA := s9A _ _ hL9
          rw [hnone] at hps
          cases hfl : (psL w0 w1 w2 w4).filter bad1 with
          | cons q qs => rw [hfl] at hps; cases hps
          | nil =>
            rw [hfl] at hDA
            walk_at "ss"
            refine k_tru ?_
            walk_at "ss"
            refine ⟨_, .inl ⟨_, SqL.of hDA, rfl⟩, ?_⟩
            refine k_f ?_
            walk_at "ss"
            refine ⟨rfl, ?_⟩
            refine ⟨_, rfl, ?_⟩
            refine k_dt rfl ?_
            walk_at "ss"
            obtain ⟨dx, hx⟩ := hPl
            refine ⟨x, w0, w1, w2, w4, me, rfl, ⟨dx, up_get hbA.nb hx⟩, ?_⟩
            intro ta nt_ta
            rw [upd_swap (up_none nt_ta).2]
            generalize eG_ta : upd _ ta _ = GB
            obtain ⟨nbB, sAB, hta, nt_ta, nG_ta⟩ := new_facts hbA.nb nt_ta eG_ta
            clear eG_ta
            have hLB := up_get (β := βA) nbB (sAB _ _ hLA)
            walk_at "ss"
            intro tb nt_tb
            rw [upd_swap (up_none nt_tb).2]
            generalize eG_tb : upd _ tb _ = GC
            obtain ⟨nbC, sBC, htb, nt_tb, nG_tb⟩ := new_facts nbB nt_tb eG_tb
            clear eG_tb
            have sUC := up_same (β := βA) nbC
            refine ⟨_, _, rfl, .inr (.inr ⟨ta, tb, _, _, rfl, rfl, .inr ⟨sUC _ _ (sBC _ _ hta), sUC _ _ htb⟩, rfl, (show 5 ≤ 50 by decide), fun i u v hu hv => ?_⟩), fun HD sD => ?_⟩
            · rw [hu] at hv
              cases hv
              have hm := List.mem_of_getElem? hu
              have s9C := (s9A.trans sAB).trans sBC
              simp only [List.mem_cons, List.not_mem_nil, or_false] at hm
              rcases hm with rfl | rfl | rfl | rfl | rfl
              · exact ((p0.up s9C).eqd).up sUC
              · exact ((p1.up s9C).eqd).up sUC
              · exact ((p2.up s9C).eqd).up sUC
              · exact Eqd.sc (.bl _) 2
              · exact ((p4.up s9C).eqd).up sUC
            · obtain ⟨GD, nbD, sCD, rfl⟩ := split_up nbC sD
              have s9D := ((s9A.trans sAB).trans sBC).trans sCD
              exact k GD βA (ext_trans eG9 (same_ext s9D)) (hbA.up ((sAB.trans sBC).trans sCD) nbD).re (Tabs.bag T1 hb13 s9D nbD)
        · intro E2 Q2 GA s9A hbA hE hQ
          have hLA := up_get (β := β6) hbA.nb (s9A _ _ hL9)
          walk_at "ss"
          intro pt nt_pt
          rw [upd_swap (up_none nt_pt).2]
          generalize eG_pt : upd _ pt _ = GB
          obtain ⟨nbB, sAB, hpt, nt_pt, nG_pt⟩ := new_facts hbA.nb nt_pt eG_pt
          clear eG_pt
          have s9B := s9A.trans sAB
          exact ⟨_, GB, b, pt, β6, w0, w1, w2, w4, me, rfl, rfl, hbA.up sAB nbB, hpt, (p0.up s9B).gw, (p1.up s9B).gw, (p2.up s9B).gw, (p4.up s9B).gw, fun e he G' β' s' hb' => hE e he G' β' (s9B.trans s') hb', fun hn a G' β' s' hb' hpl => hQ a G' β' (s9B.trans s') hb' ⟨hn, hpl⟩⟩
end

section
open LamX
variable {w : World} {K : PySem.W.Frag} {mg : Str → Option Value} {base : Heap}
/-! ### the law -/
def spLaw (T : Tx K mg) : Sp := fun vs H Q _ => ∃ (a : Addr) (ns : List Int), vs = [.ref a] ∧ SqL K H a (ns.map V.int) ∧ Tabs (TL_ T) H ∧ ∀ H', Q (.bl true) H'
theorem ok_law (T : Tx K mg) (TB_so : TabB base mg T.cda_so T.tb_so) (TB_place_so : TabB base mg T.cda_place_so T.tb_place_so) : FnOk P w K mg base CX0 16 T.a_law T.fd_law P_law (spLaw T) := by
  refine T.F_law.ok sc_law (fun vs H Q E h => ?_) (fun cdv A outer s H vs Q E hr h => ?_)
  · obtain ⟨a, ns, rfl, _⟩ := h
    rfl
  · obtain ⟨a, ns, rfl, ha, hT, k⟩ := h
    have nd := sc_law.nd
    refine ⟨_, (pss_cons (ks_setL (i := 1) nd l_law_law_bag_here (pe_call (ok_bag T) (hr.mono (by first | decide | omega)) g_law_law_bag T.m_bag T.k_bag T.b_bag .nil pass0 (pa_cons (kv (i := 0) v_law_law_script) pa_nil)))
      (pss_cons (ps_for PassesOwn.never rfl (pi_range1 g_law_range T.n_range (pa_cons pe_int pa_nil)) (kgL (i := 2) nd l_law_law_k) (pss_cons (ks_setL (i := 3) nd l_law_law_hosts (pe_call (ok_names T) (hr.mono (by first | decide | omega)) g_law_law_names T.m_names T.k_names T.b_names .nil pass0 (pa_cons (kv (i := 1) v_law_law_bag_here) (pa_cons (pe_call (ok_of T) (hr.mono (by first | decide | omega)) g_law_law_of T.m_of T.k_of T.b_of .nil pass0 (pa_cons (kv (i := 1) v_law_law_bag_here) (pa_cons (pe_lst (pa_cons pe_int (pa_cons pe_int (pa_cons pe_int (pa_cons pe_int pa_nil))))) pa_nil))) pa_nil))))
      (pss_cons (ks_setL (i := 4) nd l_law_law_many (pe_call (ok_of T) (hr.mono (by first | decide | omega)) g_law_law_of T.m_of T.k_of T.b_of .nil pass0 (pa_cons (kv (i := 1) v_law_law_bag_here) (pa_cons (pe_lst (pa_cons pe_int (pa_cons pe_int (pa_cons pe_int (pa_cons pe_int (pa_cons pe_int (pa_cons pe_int (pa_cons pe_int (pa_cons pe_int (pa_cons pe_int (pa_cons pe_int (pa_cons pe_int (pa_cons pe_int pa_nil))))))))))))) pa_nil))))
      (pss_cons (ks_setL (i := 5) nd l_law_law_rows (pe_call (ok_places T) (hr.mono (by first | decide | omega)) g_law_law_places T.m_places T.k_places T.b_places .nil pass0 (pa_cons (kv (i := 1) v_law_law_bag_here) (pa_cons (kv (i := 4) v_law_law_many) (pa_cons (kv (i := 3) v_law_law_hosts) (pa_cons (pe_call (ok_of T) (hr.mono (by first | decide | omega)) g_law_law_of T.m_of T.k_of T.b_of .nil pass0 (pa_cons (kv (i := 1) v_law_law_bag_here) (pa_cons (pe_lst (pa_cons (pe_lst pa_nil) (pa_cons (pe_lst (pa_cons pe_str pa_nil)) pa_nil))) pa_nil))) pa_nil))))))
      (pss_one (ps_if (PW.pt (pw_or (pt_not (pt_val (pe_call (ok_so T TB_so) (hr.mono (by first | decide | omega)) g_law_law_so T.m_so T.k_so T.b_so .nil pass0 (pa_cons (kv (i := 1) v_law_law_bag_here) (pa_cons (kv (i := 5) v_law_law_rows) (pa_cons (kv (i := 3) v_law_law_hosts) pa_nil)))))) (pw_or (pt_not (pt_val (pe_call (ok_so T TB_so) (hr.mono (by first | decide | omega)) g_law_law_so T.m_so T.k_so T.b_so .nil pass0 (pa_cons (kv (i := 1) v_law_law_bag_here) (pa_cons (kv (i := 5) v_law_law_rows) (pa_cons (kv (i := 3) v_law_law_hosts) pa_nil)))))) (pw_or1 (pt_not (pt_val (pe_call (ok_place_so T TB_place_so) (hr.mono (by first | decide | omega)) g_law_law_place_so T.m_place_so T.k_place_so T.b_place_so .nil pass0 (pa_cons (kv (i := 1) v_law_law_bag_here) pa_nil)))))))) (pss_one (ps_ret pe_bl)) pss_nil))))))
      (pss_one (ps_ret pe_bl)))), ?_⟩
    walk_at "ss"
    refine ⟨a, ns, rfl, ha, fun b G β sG hb => ?_⟩
    have hT0 : Tabs (TL_ T) (upd G b β) := hT.ext (sG.trans (up_same hb.nb))
    walk_at "ss"
    refine k_r1 ⟨by decide, by decide⟩ ?_
    refine k_forRange (n := 4) (fun i σ H' => ∃ (G' : Hp) (β' : HO) (u2 u3 u4 u5 : Option V), σ = [some (.ref a), some (.ref b), u2, u3, u4, u5] ∧ H' = upd G' b β' ∧ Bag K G' G' b β' ∧ Tabs (TL_ T) (upd G' b β')) ⟨G, β, _, _, _, _, rfl, rfl, hb, hT0⟩ ?_ ?_
    · rintro i σ H' hi ⟨G0, β0, u2, u3, u4, u5, rfl, rfl, hb0, hT1⟩
      walk_at "ss"
      intro t1 nt_t1
      rw [upd_swap (up_none nt_t1).2]
      generalize eG_t1 : upd _ t1 _ = G1
      obtain ⟨nb1, sm1, ht1, nt_t1, nG_t1⟩ := new_facts hb0.nb nt_t1 eG_t1
      clear eG_t1
      have hb1 := hb0.up sm1 nb1
      walk_at "ss"
      refine k_of hb1 (SqL.of ht1) (by simp) (by simp) fun vn β1 hvn hb2 => ?_
      obtain ⟨n, rfl, hn0, hn1⟩ : ∃ n : Int, vn = V.int n ∧ 1 ≤ n ∧ n ≤ 6 := by
        simp only [List.mem_cons, List.not_mem_nil, or_false] at hvn
        rcases hvn with rfl | rfl | rfl | rfl <;> exact ⟨_, rfl, by decide, by decide⟩
      walk_at "ss"
      refine ⟨G0, G1, b, β1, n, rfl, rfl, hb2, by omega, hn1, fun Lh hs G2 β2 s12 hb3 hLh hsl hsg => ?_⟩
      walk_at "ss"
      intro t2 nt_t2
      rw [upd_swap (up_none nt_t2).2]
      generalize eG_t2 : upd _ t2 _ = G3
      obtain ⟨nb3, sm3, ht2, nt_t2, nG_t2⟩ := new_facts hb3.nb nt_t2 eG_t2
      clear eG_t2
      have hb4 := hb3.up sm3 nb3
      walk_at "ss"
      refine k_of hb4 (SqL.of ht2) (by simp) (by simp) fun vm β3 hvm hb5 => ?_
      obtain ⟨m, rfl, hm0, hm1⟩ : ∃ m : Int, vm = V.int m ∧ 1 ≤ m ∧ (m ≤ 8 ∨ m = 24) := by
        simp only [List.mem_cons, List.not_mem_nil, or_false] at hvm
        rcases hvm with rfl | rfl | rfl | rfl | rfl | rfl | rfl | rfl | rfl | rfl | rfl | rfl <;> exact ⟨_, rfl, by decide, by decide⟩
      walk_at "ss"
      intro o1 nt_o1
      rw [upd_swap (up_none nt_o1).2]
      generalize eG_o1 : upd _ o1 _ = G4
      obtain ⟨nb4, sm4, ho1, nt_o1, nG_o1⟩ := new_facts nb3 nt_o1 eG_o1
      clear eG_o1
      walk_at "ss"
      intro o2 nt_o2
      rw [upd_swap (up_none nt_o2).2]
      generalize eG_o2 : upd _ o2 _ = G5
      obtain ⟨nb5, sm5, ho2, nt_o2, nG_o2⟩ := new_facts nb4 nt_o2 eG_o2
      clear eG_o2
      walk_at "ss"
      intro t3 nt_t3
      rw [upd_swap (up_none nt_t3).2]
      generalize eG_t3 : upd _ t3 _ = G6
      obtain ⟨nb6, sm6, ht3, nt_t3, nG_t3⟩ := new_facts nb5 nt_t3 eG_t3
      clear eG_t3
      have s36 := (sm4.trans sm5).trans sm6
      have hb6 := hb5.up s36 nb6
      walk_at "ss"
      refine k_of hb6 (SqL.of ht3) (by simp) (by simp) fun vo β4 hvo hb7 => ?_
      obtain ⟨o, os, rfl, ho, hol, hog⟩ : ∃ (o : Addr) (os : List Str), vo = V.ref o ∧ G6 o = some (.lst (os.map V.str)) ∧ os.length ≤ 6 ∧ ∀ z ∈ os, GoodN z := by
        simp only [List.mem_cons, List.not_mem_nil, or_false] at hvo
        rcases hvo with rfl | rfl
        · exact ⟨o1, [], rfl, sm6 _ _ (sm5 _ _ ho1), by decide, fun z hz => by cases hz⟩
        · refine ⟨o2, ["ann"], rfl, sm6 _ _ ho2, (show 1 ≤ 6 by decide), fun z hz => ?_⟩
          rw [List.mem_singleton.mp hz]
          unfold GoodN
          decide +kernel
      have hLh6 := s36 _ _ (sm3 _ _ hLh)
      walk_at "ss"
      refine ⟨G0, G6, b, Lh, o, β4, m, hs, os, rfl, rfl, hb7, hm0, by omega, hLh6, ho, (fun q => by rw [q] at hsl; simp at hsl; omega), by omega, hol, hsg, hog, fun Lp l G7 β5 s67 hb8 hR hll hmf hgd => ?_⟩
      have hLh7 := s67 _ _ hLh6
      have hT7 : Tabs (TL_ T) (upd G7 b β5) := Tabs.bag hT1 hb0 (((((sm1.trans s12).trans sm3).trans s36).trans s67)) hb8.nb
      have hlne : l ≠ [] := fun q => by rw [q] at hll; simp at hll; omega
      walk_at "ss"
      refine ⟨G7, b, Lp, Lh, β5, l, hs, rfl, rfl, hb8.re, hT7, hR, hlne, by omega, hmf, hgd, hLh7, by omega, hsg, fun G8 β6 e78 hb9 hT8 => ?_⟩
      have hR8 := hR.ext e78
      have hLh8 := e78 _ _ hLh7 (fun ps z => by cases z)
      refine ⟨_, rfl, ?_⟩
      refine k_f' ?_
      walk_at "ss"
      refine ⟨G8, b, Lp, Lh, β6, l, hs, rfl, rfl, hb9, hT8, hR8, hlne, by omega, hmf, hgd, hLh8, by omega, hsg, fun G9 β7 e89 hb10 hT9 => ?_⟩
      refine ⟨_, rfl, ?_⟩
      refine k_f' ?_
      walk_at "ss"
      refine ⟨G9, b, β7, rfl, rfl, hb10, hT9, fun GA β8 e9A hb11 hTA => ?_⟩
      refine ⟨_, rfl, ?_⟩
      refine k_f' ?_
      walk_at "ss"
      exact ⟨GA, β8, _, _, _, _, rfl, rfl, hb11, hTA⟩
    · rintro σ H' ⟨G0, β0, u2, u3, u4, u5, rfl, rfl, hb0, hT1⟩
      walk_at "ss"
      exact k _
end

set_option maxHeartbeats 0 in
def tx_mk {K : PySem.W.Frag} {h : Heap} {mg : Str → Option Value} (X : K.In h) (G : h.Ns mainGlobals mg) {C_SureletError : Addr} {C_InvalidName : Addr} {C_InvalidRule : Addr} {C_InvalidPlace : Addr} {C_BadTree : Addr} {C_TooMany : Addr} {C_Place : Addr} {C_Tree : Addr} {C_Rest : Addr} {C_Window : Addr} {C_Rule : Addr} {A_InvalidName_init : Addr} {oc_InvalidName_init kV_InvalidName_init doc_InvalidName_init pm_InvalidName_init ct_InvalidName_init : Value} {od_InvalidName_init an_InvalidName_init : Option Addr} {sl_InvalidName_init : Array (Option Value)} {cc_InvalidName_init cda_InvalidName_init : Addr} {cl_InvalidName_init ccl_InvalidName_init : Value} {cld_InvalidName_init cdd_InvalidName_init : Option Addr} {csl_InvalidName_init ccs_InvalidName_init : Array (Option Value)} {vs_InvalidName_init : Array Value} {file_InvalidName_init : Str} {tf_InvalidName_init : Tok} {cd_InvalidName_init : PySem.ClassData} {A_InvalidRule_init : Addr} {oc_InvalidRule_init kV_InvalidRule_init doc_InvalidRule_init pm_InvalidRule_init ct_InvalidRule_init : Value} {od_InvalidRule_init an_InvalidRule_init : Option Addr} {sl_InvalidRule_init : Array (Option Value)} {cc_InvalidRule_init cda_InvalidRule_init : Addr} {cl_InvalidRule_init ccl_InvalidRule_init : Value} {cld_InvalidRule_init cdd_InvalidRule_init : Option Addr} {csl_InvalidRule_init ccs_InvalidRule_init : Array (Option Value)} {vs_InvalidRule_init : Array Value} {file_InvalidRule_init : Str} {tf_InvalidRule_init : Tok} {cd_InvalidRule_init : PySem.ClassData} {A_InvalidPlace_init : Addr} {oc_InvalidPlace_init kV_InvalidPlace_init doc_InvalidPlace_init pm_InvalidPlace_init ct_InvalidPlace_init : Value} {od_InvalidPlace_init an_InvalidPlace_init : Option Addr} {sl_InvalidPlace_init : Array (Option Value)} {cc_InvalidPlace_init cda_InvalidPlace_init : Addr} {cl_InvalidPlace_init ccl_InvalidPlace_init : Value} {cld_InvalidPlace_init cdd_InvalidPlace_init : Option Addr} {csl_InvalidPlace_init ccs_InvalidPlace_init : Array (Option Value)} {vs_InvalidPlace_init : Array Value} {file_InvalidPlace_init : Str} {tf_InvalidPlace_init : Tok} {cd_InvalidPlace_init : PySem.ClassData} {A_BadTree_init : Addr} {oc_BadTree_init kV_BadTree_init doc_BadTree_init pm_BadTree_init ct_BadTree_init : Value} {od_BadTree_init an_BadTree_init : Option Addr} {sl_BadTree_init : Array (Option Value)} {cc_BadTree_init cda_BadTree_init : Addr} {cl_BadTree_init ccl_BadTree_init : Value} {cld_BadTree_init cdd_BadTree_init : Option Addr} {csl_BadTree_init ccs_BadTree_init : Array (Option Value)} {vs_BadTree_init : Array Value} {file_BadTree_init : Str} {tf_BadTree_init : Tok} {cd_BadTree_init : PySem.ClassData} {A_TooMany_init : Addr} {oc_TooMany_init kV_TooMany_init doc_TooMany_init pm_TooMany_init ct_TooMany_init : Value} {od_TooMany_init an_TooMany_init : Option Addr} {sl_TooMany_init : Array (Option Value)} {cc_TooMany_init cda_TooMany_init : Addr} {cl_TooMany_init ccl_TooMany_init : Value} {cld_TooMany_init cdd_TooMany_init : Option Addr} {csl_TooMany_init ccs_TooMany_init : Array (Option Value)} {vs_TooMany_init : Array Value} {file_TooMany_init : Str} {tf_TooMany_init : Tok} {cd_TooMany_init : PySem.ClassData} {A_is_number : Addr} {oc_is_number kV_is_number doc_is_number pm_is_number ct_is_number : Value} {od_is_number an_is_number : Option Addr} {sl_is_number : Array (Option Value)} {cdv_is_number : Value} {A_is_name : Addr} {oc_is_name kV_is_name doc_is_name pm_is_name ct_is_name : Value} {od_is_name an_is_name : Option Addr} {sl_is_name : Array (Option Value)} {cdv_is_name : Value} {A_Rest_init : Addr} {oc_Rest_init kV_Rest_init doc_Rest_init pm_Rest_init ct_Rest_init : Value} {od_Rest_init an_Rest_init : Option Addr} {sl_Rest_init : Array (Option Value)} {cdv_Rest_init : Value} {A_Rest_eq : Addr} {oc_Rest_eq kV_Rest_eq doc_Rest_eq pm_Rest_eq ct_Rest_eq : Value} {od_Rest_eq an_Rest_eq : Option Addr} {sl_Rest_eq : Array (Option Value)} {cdv_Rest_eq : Value} {A_Window_init : Addr} {oc_Window_init kV_Window_init doc_Window_init pm_Window_init ct_Window_init : Value} {od_Window_init an_Window_init : Option Addr} {sl_Window_init : Array (Option Value)} {cc_Window_init cda_Window_init : Addr} {cl_Window_init ccl_Window_init : Value} {cld_Window_init cdd_Window_init : Option Addr} {csl_Window_init ccs_Window_init : Array (Option Value)} {vs_Window_init : Array Value} {file_Window_init : Str} {tf_Window_init : Tok} {cd_Window_init : PySem.ClassData} {A_Rule_init : Addr} {oc_Rule_init kV_Rule_init doc_Rule_init pm_Rule_init ct_Rule_init : Value} {od_Rule_init an_Rule_init : Option Addr} {sl_Rule_init : Array (Option Value)} {cdv_Rule_init : Value} {A_Place_init : Addr} {oc_Place_init doc_Place_init pm_Place_init ct_Place_init : Value} {od_Place_init an_Place_init : Option Addr} {sl_Place_init : Array (Option Value)} {cdv_Place_init : Value} {DT_Place_init : Addr} {dto_Place_init : Value} {dtd_Place_init : Option Addr} {dtn_Place_init : Nat} {dts_Place_init : Array (Option Value)} {KD_Place_init : Addr} {A_Place_eq : Addr} {oc_Place_eq kV_Place_eq doc_Place_eq pm_Place_eq ct_Place_eq : Value} {od_Place_eq an_Place_eq : Option Addr} {sl_Place_eq : Array (Option Value)} {cdv_Place_eq : Value} {A_Tree_init : Addr} {oc_Tree_init kV_Tree_init doc_Tree_init pm_Tree_init ct_Tree_init : Value} {od_Tree_init an_Tree_init : Option Addr} {sl_Tree_init : Array (Option Value)} {cdv_Tree_init : Value} {A_Tree_fits : Addr} {oc_Tree_fits kV_Tree_fits doc_Tree_fits pm_Tree_fits ct_Tree_fits : Value} {od_Tree_fits an_Tree_fits : Option Addr} {sl_Tree_fits : Array (Option Value)} {cdv_Tree_fits : Value} {A_Tree_places : Addr} {oc_Tree_places kV_Tree_places doc_Tree_places pm_Tree_places ct_Tree_places : Value} {od_Tree_places an_Tree_places : Option Addr} {sl_Tree_places : Array (Option Value)} {cdv_Tree_places : Value} {A_Tree_len : Addr} {oc_Tree_len kV_Tree_len doc_Tree_len pm_Tree_len ct_Tree_len : Value} {od_Tree_len an_Tree_len : Option Addr} {sl_Tree_len : Array (Option Value)} {cdv_Tree_len : Value} {A_bag : Addr} {oc_bag kV_bag doc_bag pm_bag ct_bag : Value} {od_bag an_bag : Option Addr} {sl_bag : Array (Option Value)} {cdv_bag : Value} {A_draw : Addr} {oc_draw kV_draw doc_draw pm_draw ct_draw : Value} {od_draw an_draw : Option Addr} {sl_draw : Array (Option Value)} {cdv_draw : Value} {A_of : Addr} {oc_of kV_of doc_of pm_of ct_of : Value} {od_of an_of : Option Addr} {sl_of : Array (Option Value)} {cdv_of : Value} {A_like : Addr} {oc_like kV_like doc_like pm_like ct_like : Value} {od_like an_like : Option Addr} {sl_like : Array (Option Value)} {cdv_like : Value} {A_odd : Addr} {oc_odd kV_odd doc_odd pm_odd ct_odd : Value} {od_odd an_odd : Option Addr} {sl_odd : Array (Option Value)} {cdv_odd : Value} {A_name : Addr} {oc_name kV_name doc_name pm_name ct_name : Value} {od_name an_name : Option Addr} {sl_name : Array (Option Value)} {cdv_name : Value} {A_names : Addr} {oc_names kV_names doc_names pm_names ct_names : Value} {od_names an_names : Option Addr} {sl_names : Array (Option Value)} {cdv_names : Value} {A_places : Addr} {oc_places kV_places doc_places pm_places ct_places : Value} {od_places an_places : Option Addr} {sl_places : Array (Option Value)} {cdv_places : Value} {A_place : Addr} {oc_place kV_place doc_place pm_place ct_place : Value} {od_place an_place : Option Addr} {sl_place : Array (Option Value)} {cdv_place : Value} {A_tree : Addr} {oc_tree kV_tree doc_tree pm_tree ct_tree : Value} {od_tree an_tree : Option Addr} {sl_tree : Array (Option Value)} {cdv_tree : Value} {A_row : Addr} {oc_row kV_row doc_row pm_row ct_row : Value} {od_row an_row : Option Addr} {sl_row : Array (Option Value)} {cdv_row : Value} {A_ask : Addr} {oc_ask kV_ask doc_ask pm_ask ct_ask : Value} {od_ask an_ask : Option Addr} {sl_ask : Array (Option Value)} {cdv_ask : Value} {A_bent : Addr} {oc_bent kV_bent doc_bent pm_bent ct_bent : Value} {od_bent an_bent : Option Addr} {sl_bent : Array (Option Value)} {cdv_bent : Value} {A_at_fault : Addr} {oc_at_fault kV_at_fault doc_at_fault pm_at_fault ct_at_fault : Value} {od_at_fault an_at_fault : Option Addr} {sl_at_fault : Array (Option Value)} {cdv_at_fault : Value} {A_due : Addr} {oc_due kV_due doc_due pm_due ct_due : Value} {od_due an_due : Option Addr} {sl_due : Array (Option Value)} {cdv_due : Value} {A_size : Addr} {oc_size kV_size doc_size pm_size ct_size : Value} {od_size an_size : Option Addr} {sl_size : Array (Option Value)} {cdv_size : Value} {A_so : Addr} {oc_so kV_so doc_so pm_so ct_so : Value} {od_so an_so : Option Addr} {sl_so : Array (Option Value)} {cda_so tb_so : Addr} {tcl_so : Value} {tcd_so : Option Addr} {tvs_so : Array Value} {tsl_so : Array (Option Value)} {A_named : Addr} {oc_named kV_named doc_named pm_named ct_named : Value} {od_named an_named : Option Addr} {sl_named : Array (Option Value)} {cdv_named : Value} {A_place_so : Addr} {oc_place_so kV_place_so doc_place_so pm_place_so ct_place_so : Value} {od_place_so an_place_so : Option Addr} {sl_place_so : Array (Option Value)} {cda_place_so tb_place_so : Addr} {tcl_place_so : Value} {tcd_place_so : Option Addr} {tvs_place_so : Array Value} {tsl_place_so : Array (Option Value)} {A_law : Addr} {oc_law kV_law doc_law pm_law ct_law : Value} {od_law an_law : Option Addr} {sl_law : Array (Option Value)} {cdv_law : Value} {t_DIGITS : Tok} {t_LETTERS : Tok} {t_PLACES : Tok} {nm_InvalidName q_InvalidName : Str} {N_InvalidName : Addr} {bs_InvalidName : List Value} {sn_InvalidName : List Str} {sb_InvalidName : List Value} {ab_InvalidName : Bool} {co_InvalidName : Option Bool} {dd_InvalidName : Option Addr} {e0_InvalidName e1_InvalidName e2_InvalidName e3_InvalidName e5_InvalidName : Option Value} {nm_InvalidRule q_InvalidRule : Str} {N_InvalidRule : Addr} {bs_InvalidRule : List Value} {sn_InvalidRule : List Str} {sb_InvalidRule : List Value} {ab_InvalidRule : Bool} {co_InvalidRule : Option Bool} {dd_InvalidRule : Option Addr} {e0_InvalidRule e1_InvalidRule e2_InvalidRule e3_InvalidRule e5_InvalidRule : Option Value} {nm_InvalidPlace q_InvalidPlace : Str} {N_InvalidPlace : Addr} {bs_InvalidPlace : List Value} {sn_InvalidPlace : List Str} {sb_InvalidPlace : List Value} {ab_InvalidPlace : Bool} {co_InvalidPlace : Option Bool} {dd_InvalidPlace : Option Addr} {e0_InvalidPlace e1_InvalidPlace e2_InvalidPlace e3_InvalidPlace e5_InvalidPlace : Option Value} {nm_BadTree q_BadTree : Str} {N_BadTree : Addr} {bs_BadTree : List Value} {sn_BadTree : List Str} {sb_BadTree : List Value} {ab_BadTree : Bool} {co_BadTree : Option Bool} {dd_BadTree : Option Addr} {e0_BadTree e1_BadTree e2_BadTree e3_BadTree e5_BadTree : Option Value} {nm_TooMany q_TooMany : Str} {N_TooMany : Addr} {bs_TooMany : List Value} {sn_TooMany : List Str} {sb_TooMany : List Value} {ab_TooMany : Bool} {co_TooMany : Option Bool} {dd_TooMany : Option Addr} {e0_TooMany e1_TooMany e2_TooMany e3_TooMany e5_TooMany : Option Value}
    (aC_SureletError : PySem.W.nsIn K mainGlobals "SureletError" = some (some (.ref C_SureletError))) (aC_InvalidName : PySem.W.nsIn K mainGlobals "InvalidName" = some (some (.ref C_InvalidName))) (aC_InvalidRule : PySem.W.nsIn K mainGlobals "InvalidRule" = some (some (.ref C_InvalidRule))) (aC_InvalidPlace : PySem.W.nsIn K mainGlobals "InvalidPlace" = some (some (.ref C_InvalidPlace))) (aC_BadTree : PySem.W.nsIn K mainGlobals "BadTree" = some (some (.ref C_BadTree))) (aC_TooMany : PySem.W.nsIn K mainGlobals "TooMany" = some (some (.ref C_TooMany))) (aC_Place : PySem.W.nsIn K mainGlobals "Place" = some (some (.ref C_Place))) (aC_Tree : PySem.W.nsIn K mainGlobals "Tree" = some (some (.ref C_Tree))) (aC_Rest : PySem.W.nsIn K mainGlobals "Rest" = some (some (.ref C_Rest))) (aC_Window : PySem.W.nsIn K mainGlobals "Window" = some (some (.ref C_Window))) (aC_Rule : PySem.W.nsIn K mainGlobals "Rule" = some (some (.ref C_Rule))) (a_InvalidName_init : PySem.W.findIn K (.ref C_InvalidName) "__init__" = some (some (.ref A_InvalidName_init))) (i_InvalidName_init : PySem.W.isFn K (.ref A_InvalidName_init) = true) (l_InvalidName_init : K.lookup A_InvalidName_init = some ⟨oc_InvalidName_init, od_InvalidName_init, .func (PySem.W.fnX "__init__" "InvalidName.__init__" (defArgs s_InvalidName_init) (defBody s_InvalidName_init) (defScope s_InvalidName_init) [("__class__", cc_InvalidName_init)] .none kV_InvalidName_init doc_InvalidName_init pm_InvalidName_init an_InvalidName_init (.ref cda_InvalidName_init) ct_InvalidName_init), sl_InvalidName_init⟩) (c_InvalidName_init : PySem.W.codeIn K (.ref cda_InvalidName_init) "InvalidName.__init__" = true) (k_InvalidName_init : PySem.W.keepIn K (.ref A_InvalidName_init) = true) (cell_InvalidName_init : K.lookup cc_InvalidName_init = some ⟨cl_InvalidName_init, cld_InvalidName_init, .cell (some (.ref C_InvalidName)), csl_InvalidName_init⟩) (code_InvalidName_init : K.lookup cda_InvalidName_init = some ⟨ccl_InvalidName_init, cdd_InvalidName_init, .fields vs_InvalidName_init, ccs_InvalidName_init⟩) (vs_InvalidName_init : vs_InvalidName_init[2]? = some (.str file_InvalidName_init tf_InvalidName_init)) (fl_InvalidName_init : ((P.main.file : Str) == file_InvalidName_init) = true) (cd_InvalidName_init : PySem.W.clsIn K C_InvalidName = some cd_InvalidName_init) (a_InvalidRule_init : PySem.W.findIn K (.ref C_InvalidRule) "__init__" = some (some (.ref A_InvalidRule_init))) (i_InvalidRule_init : PySem.W.isFn K (.ref A_InvalidRule_init) = true) (l_InvalidRule_init : K.lookup A_InvalidRule_init = some ⟨oc_InvalidRule_init, od_InvalidRule_init, .func (PySem.W.fnX "__init__" "InvalidRule.__init__" (defArgs s_InvalidRule_init) (defBody s_InvalidRule_init) (defScope s_InvalidRule_init) [("__class__", cc_InvalidRule_init)] .none kV_InvalidRule_init doc_InvalidRule_init pm_InvalidRule_init an_InvalidRule_init (.ref cda_InvalidRule_init) ct_InvalidRule_init), sl_InvalidRule_init⟩) (c_InvalidRule_init : PySem.W.codeIn K (.ref cda_InvalidRule_init) "InvalidRule.__init__" = true) (k_InvalidRule_init : PySem.W.keepIn K (.ref A_InvalidRule_init) = true) (cell_InvalidRule_init : K.lookup cc_InvalidRule_init = some ⟨cl_InvalidRule_init, cld_InvalidRule_init, .cell (some (.ref C_InvalidRule)), csl_InvalidRule_init⟩) (code_InvalidRule_init : K.lookup cda_InvalidRule_init = some ⟨ccl_InvalidRule_init, cdd_InvalidRule_init, .fields vs_InvalidRule_init, ccs_InvalidRule_init⟩) (vs_InvalidRule_init : vs_InvalidRule_init[2]? = some (.str file_InvalidRule_init tf_InvalidRule_init)) (fl_InvalidRule_init : ((P.main.file : Str) == file_InvalidRule_init) = true) (cd_InvalidRule_init : PySem.W.clsIn K C_InvalidRule = some cd_InvalidRule_init) (a_InvalidPlace_init : PySem.W.findIn K (.ref C_InvalidPlace) "__init__" = some (some (.ref A_InvalidPlace_init))) (i_InvalidPlace_init : PySem.W.isFn K (.ref A_InvalidPlace_init) = true) (l_InvalidPlace_init : K.lookup A_InvalidPlace_init = some ⟨oc_InvalidPlace_init, od_InvalidPlace_init, .func (PySem.W.fnX "__init__" "InvalidPlace.__init__" (defArgs s_InvalidPlace_init) (defBody s_InvalidPlace_init) (defScope s_InvalidPlace_init) [("__class__", cc_InvalidPlace_init)] .none kV_InvalidPlace_init doc_InvalidPlace_init pm_InvalidPlace_init an_InvalidPlace_init (.ref cda_InvalidPlace_init) ct_InvalidPlace_init), sl_InvalidPlace_init⟩) (c_InvalidPlace_init : PySem.W.codeIn K (.ref cda_InvalidPlace_init) "InvalidPlace.__init__" = true) (k_InvalidPlace_init : PySem.W.keepIn K (.ref A_InvalidPlace_init) = true) (cell_InvalidPlace_init : K.lookup cc_InvalidPlace_init = some ⟨cl_InvalidPlace_init, cld_InvalidPlace_init, .cell (some (.ref C_InvalidPlace)), csl_InvalidPlace_init⟩) (code_InvalidPlace_init : K.lookup cda_InvalidPlace_init = some ⟨ccl_InvalidPlace_init, cdd_InvalidPlace_init, .fields vs_InvalidPlace_init, ccs_InvalidPlace_init⟩) (vs_InvalidPlace_init : vs_InvalidPlace_init[2]? = some (.str file_InvalidPlace_init tf_InvalidPlace_init)) (fl_InvalidPlace_init : ((P.main.file : Str) == file_InvalidPlace_init) = true) (cd_InvalidPlace_init : PySem.W.clsIn K C_InvalidPlace = some cd_InvalidPlace_init) (a_BadTree_init : PySem.W.findIn K (.ref C_BadTree) "__init__" = some (some (.ref A_BadTree_init))) (i_BadTree_init : PySem.W.isFn K (.ref A_BadTree_init) = true) (l_BadTree_init : K.lookup A_BadTree_init = some ⟨oc_BadTree_init, od_BadTree_init, .func (PySem.W.fnX "__init__" "BadTree.__init__" (defArgs s_BadTree_init) (defBody s_BadTree_init) (defScope s_BadTree_init) [("__class__", cc_BadTree_init)] .none kV_BadTree_init doc_BadTree_init pm_BadTree_init an_BadTree_init (.ref cda_BadTree_init) ct_BadTree_init), sl_BadTree_init⟩) (c_BadTree_init : PySem.W.codeIn K (.ref cda_BadTree_init) "BadTree.__init__" = true) (k_BadTree_init : PySem.W.keepIn K (.ref A_BadTree_init) = true) (cell_BadTree_init : K.lookup cc_BadTree_init = some ⟨cl_BadTree_init, cld_BadTree_init, .cell (some (.ref C_BadTree)), csl_BadTree_init⟩) (code_BadTree_init : K.lookup cda_BadTree_init = some ⟨ccl_BadTree_init, cdd_BadTree_init, .fields vs_BadTree_init, ccs_BadTree_init⟩) (vs_BadTree_init : vs_BadTree_init[2]? = some (.str file_BadTree_init tf_BadTree_init)) (fl_BadTree_init : ((P.main.file : Str) == file_BadTree_init) = true) (cd_BadTree_init : PySem.W.clsIn K C_BadTree = some cd_BadTree_init) (a_TooMany_init : PySem.W.findIn K (.ref C_TooMany) "__init__" = some (some (.ref A_TooMany_init))) (i_TooMany_init : PySem.W.isFn K (.ref A_TooMany_init) = true) (l_TooMany_init : K.lookup A_TooMany_init = some ⟨oc_TooMany_init, od_TooMany_init, .func (PySem.W.fnX "__init__" "TooMany.__init__" (defArgs s_TooMany_init) (defBody s_TooMany_init) (defScope s_TooMany_init) [("__class__", cc_TooMany_init)] .none kV_TooMany_init doc_TooMany_init pm_TooMany_init an_TooMany_init (.ref cda_TooMany_init) ct_TooMany_init), sl_TooMany_init⟩) (c_TooMany_init : PySem.W.codeIn K (.ref cda_TooMany_init) "TooMany.__init__" = true) (k_TooMany_init : PySem.W.keepIn K (.ref A_TooMany_init) = true) (cell_TooMany_init : K.lookup cc_TooMany_init = some ⟨cl_TooMany_init, cld_TooMany_init, .cell (some (.ref C_TooMany)), csl_TooMany_init⟩) (code_TooMany_init : K.lookup cda_TooMany_init = some ⟨ccl_TooMany_init, cdd_TooMany_init, .fields vs_TooMany_init, ccs_TooMany_init⟩) (vs_TooMany_init : vs_TooMany_init[2]? = some (.str file_TooMany_init tf_TooMany_init)) (fl_TooMany_init : ((P.main.file : Str) == file_TooMany_init) = true) (cd_TooMany_init : PySem.W.clsIn K C_TooMany = some cd_TooMany_init) (a_is_number : PySem.W.nsIn K mainGlobals "is_number" = some (some (.ref A_is_number))) (l_is_number : K.lookup A_is_number = some ⟨oc_is_number, od_is_number, .func (PySem.W.fnOf "is_number" "is_number" (defArgs s_is_number) (defBody s_is_number) (defScope s_is_number) .none kV_is_number doc_is_number pm_is_number an_is_number cdv_is_number ct_is_number), sl_is_number⟩) (c_is_number : PySem.W.codeIn K cdv_is_number "is_number" = true) (k_is_number : PySem.W.keepIn K (.ref A_is_number) = true) (a_is_name : PySem.W.nsIn K mainGlobals "is_name" = some (some (.ref A_is_name))) (l_is_name : K.lookup A_is_name = some ⟨oc_is_name, od_is_name, .func (PySem.W.fnOf "is_name" "is_name" (defArgs s_is_name) (defBody s_is_name) (defScope s_is_name) .none kV_is_name doc_is_name pm_is_name an_is_name cdv_is_name ct_is_name), sl_is_name⟩) (c_is_name : PySem.W.codeIn K cdv_is_name "is_name" = true) (k_is_name : PySem.W.keepIn K (.ref A_is_name) = true) (a_Rest_init : PySem.W.findIn K (.ref C_Rest) "__init__" = some (some (.ref A_Rest_init))) (i_Rest_init : PySem.W.isFn K (.ref A_Rest_init) = true) (l_Rest_init : K.lookup A_Rest_init = some ⟨oc_Rest_init, od_Rest_init, .func (PySem.W.fnOf "__init__" "Rest.__init__" (defArgs s_Rest_init) (defBody s_Rest_init) (defScope s_Rest_init) .none kV_Rest_init doc_Rest_init pm_Rest_init an_Rest_init cdv_Rest_init ct_Rest_init), sl_Rest_init⟩) (c_Rest_init : PySem.W.codeIn K cdv_Rest_init "Rest.__init__" = true) (k_Rest_init : PySem.W.keepIn K (.ref A_Rest_init) = true) (a_Rest_eq : PySem.W.findIn K (.ref C_Rest) "__eq__" = some (some (.ref A_Rest_eq))) (i_Rest_eq : PySem.W.isFn K (.ref A_Rest_eq) = true) (l_Rest_eq : K.lookup A_Rest_eq = some ⟨oc_Rest_eq, od_Rest_eq, .func (PySem.W.fnOf "__eq__" "Rest.__eq__" (defArgs s_Rest_eq) (defBody s_Rest_eq) (defScope s_Rest_eq) .none kV_Rest_eq doc_Rest_eq pm_Rest_eq an_Rest_eq cdv_Rest_eq ct_Rest_eq), sl_Rest_eq⟩) (c_Rest_eq : PySem.W.codeIn K cdv_Rest_eq "Rest.__eq__" = true) (k_Rest_eq : PySem.W.keepIn K (.ref A_Rest_eq) = true) (a_Window_init : PySem.W.findIn K (.ref C_Window) "__init__" = some (some (.ref A_Window_init))) (i_Window_init : PySem.W.isFn K (.ref A_Window_init) = true) (l_Window_init : K.lookup A_Window_init = some ⟨oc_Window_init, od_Window_init, .func (PySem.W.fnX "__init__" "Window.__init__" (defArgs s_Window_init) (defBody s_Window_init) (defScope s_Window_init) [("__class__", cc_Window_init)] .none kV_Window_init doc_Window_init pm_Window_init an_Window_init (.ref cda_Window_init) ct_Window_init), sl_Window_init⟩) (c_Window_init : PySem.W.codeIn K (.ref cda_Window_init) "Window.__init__" = true) (k_Window_init : PySem.W.keepIn K (.ref A_Window_init) = true) (cell_Window_init : K.lookup cc_Window_init = some ⟨cl_Window_init, cld_Window_init, .cell (some (.ref C_Window)), csl_Window_init⟩) (code_Window_init : K.lookup cda_Window_init = some ⟨ccl_Window_init, cdd_Window_init, .fields vs_Window_init, ccs_Window_init⟩) (vs_Window_init : vs_Window_init[2]? = some (.str file_Window_init tf_Window_init)) (fl_Window_init : ((P.main.file : Str) == file_Window_init) = true) (cd_Window_init : PySem.W.clsIn K C_Window = some cd_Window_init) (a_Rule_init : PySem.W.findIn K (.ref C_Rule) "__init__" = some (some (.ref A_Rule_init))) (i_Rule_init : PySem.W.isFn K (.ref A_Rule_init) = true) (l_Rule_init : K.lookup A_Rule_init = some ⟨oc_Rule_init, od_Rule_init, .func (PySem.W.fnOf "__init__" "Rule.__init__" (defArgs s_Rule_init) (defBody s_Rule_init) (defScope s_Rule_init) .none kV_Rule_init doc_Rule_init pm_Rule_init an_Rule_init cdv_Rule_init ct_Rule_init), sl_Rule_init⟩) (c_Rule_init : PySem.W.codeIn K cdv_Rule_init "Rule.__init__" = true) (k_Rule_init : PySem.W.keepIn K (.ref A_Rule_init) = true) (a_Place_init : PySem.W.findIn K (.ref C_Place) "__init__" = some (some (.ref A_Place_init))) (i_Place_init : PySem.W.isFn K (.ref A_Place_init) = true) (l_Place_init : K.lookup A_Place_init = some ⟨oc_Place_init, od_Place_init, .func (PySem.W.fnOf "__init__" "Place.__init__" (defArgs s_Place_init) (defBody s_Place_init) (defScope s_Place_init) (.ref DT_Place_init) (.ref KD_Place_init) doc_Place_init pm_Place_init an_Place_init cdv_Place_init ct_Place_init), sl_Place_init⟩) (c_Place_init : PySem.W.codeIn K cdv_Place_init "Place.__init__" = true) (k_Place_init : PySem.W.keepIn K (.ref A_Place_init) = true) (dt_Place_init : K.lookup DT_Place_init = some ⟨dto_Place_init, dtd_Place_init, .seq #[.none] dtn_Place_init, dts_Place_init⟩) (kd_Place_init_memory : PySem.W.nsIn K KD_Place_init "memory" = some (some (.bool false))) (kd_Place_init_customer : PySem.W.nsIn K KD_Place_init "customer" = some (some (.none))) (a_Place_eq : PySem.W.findIn K (.ref C_Place) "__eq__" = some (some (.ref A_Place_eq))) (i_Place_eq : PySem.W.isFn K (.ref A_Place_eq) = true) (l_Place_eq : K.lookup A_Place_eq = some ⟨oc_Place_eq, od_Place_eq, .func (PySem.W.fnOf "__eq__" "Place.__eq__" (defArgs s_Place_eq) (defBody s_Place_eq) (defScope s_Place_eq) .none kV_Place_eq doc_Place_eq pm_Place_eq an_Place_eq cdv_Place_eq ct_Place_eq), sl_Place_eq⟩) (c_Place_eq : PySem.W.codeIn K cdv_Place_eq "Place.__eq__" = true) (k_Place_eq : PySem.W.keepIn K (.ref A_Place_eq) = true) (a_Tree_init : PySem.W.findIn K (.ref C_Tree) "__init__" = some (some (.ref A_Tree_init))) (i_Tree_init : PySem.W.isFn K (.ref A_Tree_init) = true) (l_Tree_init : K.lookup A_Tree_init = some ⟨oc_Tree_init, od_Tree_init, .func (PySem.W.fnOf "__init__" "Tree.__init__" (defArgs s_Tree_init) (defBody s_Tree_init) (defScope s_Tree_init) .none kV_Tree_init doc_Tree_init pm_Tree_init an_Tree_init cdv_Tree_init ct_Tree_init), sl_Tree_init⟩) (c_Tree_init : PySem.W.codeIn K cdv_Tree_init "Tree.__init__" = true) (k_Tree_init : PySem.W.keepIn K (.ref A_Tree_init) = true) (a_Tree_fits : PySem.W.findIn K (.ref C_Tree) "_fits" = some (some (.ref A_Tree_fits))) (i_Tree_fits : PySem.W.isFn K (.ref A_Tree_fits) = true) (l_Tree_fits : K.lookup A_Tree_fits = some ⟨oc_Tree_fits, od_Tree_fits, .func (PySem.W.fnOf "_fits" "Tree._fits" (defArgs s_Tree_fits) (defBody s_Tree_fits) (defScope s_Tree_fits) .none kV_Tree_fits doc_Tree_fits pm_Tree_fits an_Tree_fits cdv_Tree_fits ct_Tree_fits), sl_Tree_fits⟩) (c_Tree_fits : PySem.W.codeIn K cdv_Tree_fits "Tree._fits" = true) (k_Tree_fits : PySem.W.keepIn K (.ref A_Tree_fits) = true) (a_Tree_places : PySem.W.findIn K (.ref C_Tree) "places" = some (some (.ref A_Tree_places))) (i_Tree_places : PySem.W.isFn K (.ref A_Tree_places) = true) (l_Tree_places : K.lookup A_Tree_places = some ⟨oc_Tree_places, od_Tree_places, .func (PySem.W.fnOf "places" "Tree.places" (defArgs s_Tree_places) (defBody s_Tree_places) (defScope s_Tree_places) .none kV_Tree_places doc_Tree_places pm_Tree_places an_Tree_places cdv_Tree_places ct_Tree_places), sl_Tree_places⟩) (c_Tree_places : PySem.W.codeIn K cdv_Tree_places "Tree.places" = true) (k_Tree_places : PySem.W.keepIn K (.ref A_Tree_places) = true) (a_Tree_len : PySem.W.findIn K (.ref C_Tree) "__len__" = some (some (.ref A_Tree_len))) (i_Tree_len : PySem.W.isFn K (.ref A_Tree_len) = true) (l_Tree_len : K.lookup A_Tree_len = some ⟨oc_Tree_len, od_Tree_len, .func (PySem.W.fnOf "__len__" "Tree.__len__" (defArgs s_Tree_len) (defBody s_Tree_len) (defScope s_Tree_len) .none kV_Tree_len doc_Tree_len pm_Tree_len an_Tree_len cdv_Tree_len ct_Tree_len), sl_Tree_len⟩) (c_Tree_len : PySem.W.codeIn K cdv_Tree_len "Tree.__len__" = true) (k_Tree_len : PySem.W.keepIn K (.ref A_Tree_len) = true) (a_bag : PySem.W.nsIn K mainGlobals "_law_bag" = some (some (.ref A_bag))) (l_bag : K.lookup A_bag = some ⟨oc_bag, od_bag, .func (PySem.W.fnOf "_law_bag" "_law_bag" (defArgs s_bag) (defBody s_bag) (defScope s_bag) .none kV_bag doc_bag pm_bag an_bag cdv_bag ct_bag), sl_bag⟩) (c_bag : PySem.W.codeIn K cdv_bag "_law_bag" = true) (k_bag : PySem.W.keepIn K (.ref A_bag) = true) (a_draw : PySem.W.nsIn K mainGlobals "_law_draw" = some (some (.ref A_draw))) (l_draw : K.lookup A_draw = some ⟨oc_draw, od_draw, .func (PySem.W.fnOf "_law_draw" "_law_draw" (defArgs s_draw) (defBody s_draw) (defScope s_draw) .none kV_draw doc_draw pm_draw an_draw cdv_draw ct_draw), sl_draw⟩) (c_draw : PySem.W.codeIn K cdv_draw "_law_draw" = true) (k_draw : PySem.W.keepIn K (.ref A_draw) = true) (a_of : PySem.W.nsIn K mainGlobals "_law_of" = some (some (.ref A_of))) (l_of : K.lookup A_of = some ⟨oc_of, od_of, .func (PySem.W.fnOf "_law_of" "_law_of" (defArgs s_of) (defBody s_of) (defScope s_of) .none kV_of doc_of pm_of an_of cdv_of ct_of), sl_of⟩) (c_of : PySem.W.codeIn K cdv_of "_law_of" = true) (k_of : PySem.W.keepIn K (.ref A_of) = true) (a_like : PySem.W.nsIn K mainGlobals "_law_like" = some (some (.ref A_like))) (l_like : K.lookup A_like = some ⟨oc_like, od_like, .func (PySem.W.fnOf "_law_like" "_law_like" (defArgs s_like) (defBody s_like) (defScope s_like) .none kV_like doc_like pm_like an_like cdv_like ct_like), sl_like⟩) (c_like : PySem.W.codeIn K cdv_like "_law_like" = true) (k_like : PySem.W.keepIn K (.ref A_like) = true) (a_odd : PySem.W.nsIn K mainGlobals "_law_odd" = some (some (.ref A_odd))) (l_odd : K.lookup A_odd = some ⟨oc_odd, od_odd, .func (PySem.W.fnOf "_law_odd" "_law_odd" (defArgs s_odd) (defBody s_odd) (defScope s_odd) .none kV_odd doc_odd pm_odd an_odd cdv_odd ct_odd), sl_odd⟩) (c_odd : PySem.W.codeIn K cdv_odd "_law_odd" = true) (k_odd : PySem.W.keepIn K (.ref A_odd) = true) (a_name : PySem.W.nsIn K mainGlobals "_law_name" = some (some (.ref A_name))) (l_name : K.lookup A_name = some ⟨oc_name, od_name, .func (PySem.W.fnOf "_law_name" "_law_name" (defArgs s_name) (defBody s_name) (defScope s_name) .none kV_name doc_name pm_name an_name cdv_name ct_name), sl_name⟩) (c_name : PySem.W.codeIn K cdv_name "_law_name" = true) (k_name : PySem.W.keepIn K (.ref A_name) = true) (a_names : PySem.W.nsIn K mainGlobals "_law_names" = some (some (.ref A_names))) (l_names : K.lookup A_names = some ⟨oc_names, od_names, .func (PySem.W.fnOf "_law_names" "_law_names" (defArgs s_names) (defBody s_names) (defScope s_names) .none kV_names doc_names pm_names an_names cdv_names ct_names), sl_names⟩) (c_names : PySem.W.codeIn K cdv_names "_law_names" = true) (k_names : PySem.W.keepIn K (.ref A_names) = true) (a_places : PySem.W.nsIn K mainGlobals "_law_places" = some (some (.ref A_places))) (l_places : K.lookup A_places = some ⟨oc_places, od_places, .func (PySem.W.fnOf "_law_places" "_law_places" (defArgs s_places) (defBody s_places) (defScope s_places) .none kV_places doc_places pm_places an_places cdv_places ct_places), sl_places⟩) (c_places : PySem.W.codeIn K cdv_places "_law_places" = true) (k_places : PySem.W.keepIn K (.ref A_places) = true) (a_place : PySem.W.nsIn K mainGlobals "_law_place" = some (some (.ref A_place))) (l_place : K.lookup A_place = some ⟨oc_place, od_place, .func (PySem.W.fnOf "_law_place" "_law_place" (defArgs s_place) (defBody s_place) (defScope s_place) .none kV_place doc_place pm_place an_place cdv_place ct_place), sl_place⟩) (c_place : PySem.W.codeIn K cdv_place "_law_place" = true) (k_place : PySem.W.keepIn K (.ref A_place) = true) (a_tree : PySem.W.nsIn K mainGlobals "_law_tree" = some (some (.ref A_tree))) (l_tree : K.lookup A_tree = some ⟨oc_tree, od_tree, .func (PySem.W.fnOf "_law_tree" "_law_tree" (defArgs s_tree) (defBody s_tree) (defScope s_tree) .none kV_tree doc_tree pm_tree an_tree cdv_tree ct_tree), sl_tree⟩) (c_tree : PySem.W.codeIn K cdv_tree "_law_tree" = true) (k_tree : PySem.W.keepIn K (.ref A_tree) = true) (a_row : PySem.W.nsIn K mainGlobals "_law_row" = some (some (.ref A_row))) (l_row : K.lookup A_row = some ⟨oc_row, od_row, .func (PySem.W.fnOf "_law_row" "_law_row" (defArgs s_row) (defBody s_row) (defScope s_row) .none kV_row doc_row pm_row an_row cdv_row ct_row), sl_row⟩) (c_row : PySem.W.codeIn K cdv_row "_law_row" = true) (k_row : PySem.W.keepIn K (.ref A_row) = true) (a_ask : PySem.W.nsIn K mainGlobals "_law_ask" = some (some (.ref A_ask))) (l_ask : K.lookup A_ask = some ⟨oc_ask, od_ask, .func (PySem.W.fnOf "_law_ask" "_law_ask" (defArgs s_ask) (defBody s_ask) (defScope s_ask) .none kV_ask doc_ask pm_ask an_ask cdv_ask ct_ask), sl_ask⟩) (c_ask : PySem.W.codeIn K cdv_ask "_law_ask" = true) (k_ask : PySem.W.keepIn K (.ref A_ask) = true) (a_bent : PySem.W.nsIn K mainGlobals "_law_bent" = some (some (.ref A_bent))) (l_bent : K.lookup A_bent = some ⟨oc_bent, od_bent, .func (PySem.W.fnOf "_law_bent" "_law_bent" (defArgs s_bent) (defBody s_bent) (defScope s_bent) .none kV_bent doc_bent pm_bent an_bent cdv_bent ct_bent), sl_bent⟩) (c_bent : PySem.W.codeIn K cdv_bent "_law_bent" = true) (k_bent : PySem.W.keepIn K (.ref A_bent) = true) (a_at_fault : PySem.W.nsIn K mainGlobals "_law_at_fault" = some (some (.ref A_at_fault))) (l_at_fault : K.lookup A_at_fault = some ⟨oc_at_fault, od_at_fault, .func (PySem.W.fnOf "_law_at_fault" "_law_at_fault" (defArgs s_at_fault) (defBody s_at_fault) (defScope s_at_fault) .none kV_at_fault doc_at_fault pm_at_fault an_at_fault cdv_at_fault ct_at_fault), sl_at_fault⟩) (c_at_fault : PySem.W.codeIn K cdv_at_fault "_law_at_fault" = true) (k_at_fault : PySem.W.keepIn K (.ref A_at_fault) = true) (a_due : PySem.W.nsIn K mainGlobals "_law_due" = some (some (.ref A_due))) (l_due : K.lookup A_due = some ⟨oc_due, od_due, .func (PySem.W.fnOf "_law_due" "_law_due" (defArgs s_due) (defBody s_due) (defScope s_due) .none kV_due doc_due pm_due an_due cdv_due ct_due), sl_due⟩) (c_due : PySem.W.codeIn K cdv_due "_law_due" = true) (k_due : PySem.W.keepIn K (.ref A_due) = true) (a_size : PySem.W.nsIn K mainGlobals "_law_size" = some (some (.ref A_size))) (l_size : K.lookup A_size = some ⟨oc_size, od_size, .func (PySem.W.fnOf "_law_size" "_law_size" (defArgs s_size) (defBody s_size) (defScope s_size) .none kV_size doc_size pm_size an_size cdv_size ct_size), sl_size⟩) (c_size : PySem.W.codeIn K cdv_size "_law_size" = true) (k_size : PySem.W.keepIn K (.ref A_size) = true) (a_so : PySem.W.nsIn K mainGlobals "_law_so" = some (some (.ref A_so))) (l_so : K.lookup A_so = some ⟨oc_so, od_so, .func (PySem.W.fnOf "_law_so" "_law_so" (defArgs s_so) (defBody s_so) (defScope s_so) .none kV_so doc_so pm_so an_so (.ref cda_so) ct_so), sl_so⟩) (c_so : PySem.W.codeIn K (.ref cda_so) "_law_so" = true) (k_so : PySem.W.keepIn K (.ref A_so) = true) (td_so : K.lookup cda_so = some ⟨tcl_so, tcd_so, .fields tvs_so, tsl_so⟩) (tp_so : tvs_so[11]? = some (.ref tb_so)) (tn_so : K.lookup tb_so = none) (a_named : PySem.W.nsIn K mainGlobals "_law_named" = some (some (.ref A_named))) (l_named : K.lookup A_named = some ⟨oc_named, od_named, .func (PySem.W.fnOf "_law_named" "_law_named" (defArgs s_named) (defBody s_named) (defScope s_named) .none kV_named doc_named pm_named an_named cdv_named ct_named), sl_named⟩) (c_named : PySem.W.codeIn K cdv_named "_law_named" = true) (k_named : PySem.W.keepIn K (.ref A_named) = true) (a_place_so : PySem.W.nsIn K mainGlobals "_law_place_so" = some (some (.ref A_place_so))) (l_place_so : K.lookup A_place_so = some ⟨oc_place_so, od_place_so, .func (PySem.W.fnOf "_law_place_so" "_law_place_so" (defArgs s_place_so) (defBody s_place_so) (defScope s_place_so) .none kV_place_so doc_place_so pm_place_so an_place_so (.ref cda_place_so) ct_place_so), sl_place_so⟩) (c_place_so : PySem.W.codeIn K (.ref cda_place_so) "_law_place_so" = true) (k_place_so : PySem.W.keepIn K (.ref A_place_so) = true) (td_place_so : K.lookup cda_place_so = some ⟨tcl_place_so, tcd_place_so, .fields tvs_place_so, tsl_place_so⟩) (tp_place_so : tvs_place_so[11]? = some (.ref tb_place_so)) (tn_place_so : K.lookup tb_place_so = none) (a_law : PySem.W.nsIn K mainGlobals "law" = some (some (.ref A_law))) (l_law : K.lookup A_law = some ⟨oc_law, od_law, .func (PySem.W.fnOf "law" "law" (defArgs s_law) (defBody s_law) (defScope s_law) .none kV_law doc_law pm_law an_law cdv_law ct_law), sl_law⟩) (c_law : PySem.W.codeIn K cdv_law "law" = true) (k_law : PySem.W.keepIn K (.ref A_law) = true) (tne_so_place_so : tb_so ≠ tb_place_so) (top_super : (P.main.scope.names.lookup ("super" : Str)).isSome = false) (st_thirdparty : PySem.W.nsIn K cStatics "thirdparty.any" = some none) (z_all : PySem.W.nsIn K mainGlobals "all" = some none) (z_bool : PySem.W.nsIn K mainGlobals "bool" = some none) (z_dict : PySem.W.nsIn K mainGlobals "dict" = some none) (z_enumerate : PySem.W.nsIn K mainGlobals "enumerate" = some none) (z_int : PySem.W.nsIn K mainGlobals "int" = some none) (z_isinstance : PySem.W.nsIn K mainGlobals "isinstance" = some none) (z_len : PySem.W.nsIn K mainGlobals "len" = some none) (z_list : PySem.W.nsIn K mainGlobals "list" = some none) (z_min : PySem.W.nsIn K mainGlobals "min" = some none) (z_range : PySem.W.nsIn K mainGlobals "range" = some none) (z_str : PySem.W.nsIn K mainGlobals "str" = some none) (z_super : PySem.W.nsIn K mainGlobals "super" = some none) (z_tuple : PySem.W.nsIn K mainGlobals "tuple" = some none) (z_zip : PySem.W.nsIn K mainGlobals "zip" = some none) (ac_DIGITS : PySem.W.nsIn K mainGlobals "DIGITS" = some (some (.str "0123456789" t_DIGITS))) (ac_LETTERS : PySem.W.nsIn K mainGlobals "LETTERS" = some (some (.str "abcdefghijklmnopqrstuvwxyz" t_LETTERS))) (ac_PLACES : PySem.W.nsIn K mainGlobals "PLACES" = some (some (.int 24 t_PLACES))) (el_InvalidName : K.lookup C_InvalidName = some (excClassObj nm_InvalidName q_InvalidName C_InvalidName N_InvalidName bs_InvalidName [.ref C_SureletError, .type "ValueError", .type "Exception", .type "BaseException", .type "object"] true sn_InvalidName sb_InvalidName ab_InvalidName co_InvalidName dd_InvalidName e0_InvalidName e1_InvalidName e2_InvalidName e3_InvalidName e5_InvalidName "ValueError.__new__")) (es_InvalidName : PySem.W.findIn K (.ref C_InvalidName) "__setattr__" = some (some (.builtin "object.__setattr__"))) (eb_InvalidName : PySem.W.subIn K (.ref C_InvalidName) (.type "BaseException") = some true) (et_InvalidName : PySem.W.typeIn K (.ref C_InvalidName) = some (.type "type")) (ek_InvalidName : PySem.W.keepIn K (.ref C_InvalidName) = true) (em_InvalidName : PySem.W.mroIn K C_InvalidName (.ref C_InvalidName) = some true) (eu_InvalidName : PySem.W.ks_superIn K C_InvalidName C_InvalidName "__init__" = some (some (.builtin "ValueError.__init__"))) (ev_InvalidName : PySem.W.subIn K (.ref C_InvalidName) (.type "ValueError") = some true) (ega_InvalidName : PySem.W.findIn K (.ref C_InvalidName) "__getattribute__" = some (some (.builtin "BaseException.__getattribute__"))) (egg_InvalidName : PySem.W.findIn K (.ref C_InvalidName) "__getattr__" = some none) (ehd_InvalidName : PySem.W.hasDictIn K C_InvalidName = true) (eti_InvalidName : PySem.W.typeIn K (.ref A_InvalidName_init) = some (.type "function")) (xb_InvalidName_InvalidName : PySem.W.subIn K (.ref C_InvalidName) (.type "BaseException") = some true) (xi_InvalidName_InvalidName : PySem.W.isClsIn K C_InvalidName = true) (xt_InvalidName_InvalidName : PySem.W.typeIn K (.ref C_InvalidName) = some (.type "type")) (xs_InvalidName_InvalidName : PySem.W.subIn K (.ref C_InvalidName) (.ref C_InvalidName) = some true) (no_InvalidName_value : PySem.W.findIn K (.ref C_InvalidName) "value" = some none) (no_InvalidName_code : PySem.W.findIn K (.ref C_InvalidName) "code" = some none) (el_InvalidRule : K.lookup C_InvalidRule = some (excClassObj nm_InvalidRule q_InvalidRule C_InvalidRule N_InvalidRule bs_InvalidRule [.ref C_SureletError, .type "ValueError", .type "Exception", .type "BaseException", .type "object"] true sn_InvalidRule sb_InvalidRule ab_InvalidRule co_InvalidRule dd_InvalidRule e0_InvalidRule e1_InvalidRule e2_InvalidRule e3_InvalidRule e5_InvalidRule "ValueError.__new__")) (es_InvalidRule : PySem.W.findIn K (.ref C_InvalidRule) "__setattr__" = some (some (.builtin "object.__setattr__"))) (eb_InvalidRule : PySem.W.subIn K (.ref C_InvalidRule) (.type "BaseException") = some true) (et_InvalidRule : PySem.W.typeIn K (.ref C_InvalidRule) = some (.type "type")) (ek_InvalidRule : PySem.W.keepIn K (.ref C_InvalidRule) = true) (em_InvalidRule : PySem.W.mroIn K C_InvalidRule (.ref C_InvalidRule) = some true) (eu_InvalidRule : PySem.W.ks_superIn K C_InvalidRule C_InvalidRule "__init__" = some (some (.builtin "ValueError.__init__"))) (ev_InvalidRule : PySem.W.subIn K (.ref C_InvalidRule) (.type "ValueError") = some true) (ega_InvalidRule : PySem.W.findIn K (.ref C_InvalidRule) "__getattribute__" = some (some (.builtin "BaseException.__getattribute__"))) (egg_InvalidRule : PySem.W.findIn K (.ref C_InvalidRule) "__getattr__" = some none) (ehd_InvalidRule : PySem.W.hasDictIn K C_InvalidRule = true) (eti_InvalidRule : PySem.W.typeIn K (.ref A_InvalidRule_init) = some (.type "function")) (xb_InvalidRule_InvalidName : PySem.W.subIn K (.ref C_InvalidName) (.type "BaseException") = some true) (xi_InvalidRule_InvalidName : PySem.W.isClsIn K C_InvalidName = true) (xt_InvalidRule_InvalidName : PySem.W.typeIn K (.ref C_InvalidName) = some (.type "type")) (xs_InvalidRule_InvalidName : PySem.W.subIn K (.ref C_InvalidRule) (.ref C_InvalidName) = some false) (xb_InvalidRule_InvalidRule : PySem.W.subIn K (.ref C_InvalidRule) (.type "BaseException") = some true) (xi_InvalidRule_InvalidRule : PySem.W.isClsIn K C_InvalidRule = true) (xt_InvalidRule_InvalidRule : PySem.W.typeIn K (.ref C_InvalidRule) = some (.type "type")) (xs_InvalidRule_InvalidRule : PySem.W.subIn K (.ref C_InvalidRule) (.ref C_InvalidRule) = some true) (no_InvalidRule_value : PySem.W.findIn K (.ref C_InvalidRule) "value" = some none) (no_InvalidRule_code : PySem.W.findIn K (.ref C_InvalidRule) "code" = some none) (el_InvalidPlace : K.lookup C_InvalidPlace = some (excClassObj nm_InvalidPlace q_InvalidPlace C_InvalidPlace N_InvalidPlace bs_InvalidPlace [.ref C_SureletError, .type "ValueError", .type "Exception", .type "BaseException", .type "object"] true sn_InvalidPlace sb_InvalidPlace ab_InvalidPlace co_InvalidPlace dd_InvalidPlace e0_InvalidPlace e1_InvalidPlace e2_InvalidPlace e3_InvalidPlace e5_InvalidPlace "ValueError.__new__")) (es_InvalidPlace : PySem.W.findIn K (.ref C_InvalidPlace) "__setattr__" = some (some (.builtin "object.__setattr__"))) (eb_InvalidPlace : PySem.W.subIn K (.ref C_InvalidPlace) (.type "BaseException") = some true) (et_InvalidPlace : PySem.W.typeIn K (.ref C_InvalidPlace) = some (.type "type")) (ek_InvalidPlace : PySem.W.keepIn K (.ref C_InvalidPlace) = true) (em_InvalidPlace : PySem.W.mroIn K C_InvalidPlace (.ref C_InvalidPlace) = some true) (eu_InvalidPlace : PySem.W.ks_superIn K C_InvalidPlace C_InvalidPlace "__init__" = some (some (.builtin "ValueError.__init__"))) (ev_InvalidPlace : PySem.W.subIn K (.ref C_InvalidPlace) (.type "ValueError") = some true) (ega_InvalidPlace : PySem.W.findIn K (.ref C_InvalidPlace) "__getattribute__" = some (some (.builtin "BaseException.__getattribute__"))) (egg_InvalidPlace : PySem.W.findIn K (.ref C_InvalidPlace) "__getattr__" = some none) (ehd_InvalidPlace : PySem.W.hasDictIn K C_InvalidPlace = true) (eti_InvalidPlace : PySem.W.typeIn K (.ref A_InvalidPlace_init) = some (.type "function")) (xb_InvalidPlace_InvalidName : PySem.W.subIn K (.ref C_InvalidName) (.type "BaseException") = some true) (xi_InvalidPlace_InvalidName : PySem.W.isClsIn K C_InvalidName = true) (xt_InvalidPlace_InvalidName : PySem.W.typeIn K (.ref C_InvalidName) = some (.type "type")) (xs_InvalidPlace_InvalidName : PySem.W.subIn K (.ref C_InvalidPlace) (.ref C_InvalidName) = some false) (xb_InvalidPlace_InvalidRule : PySem.W.subIn K (.ref C_InvalidRule) (.type "BaseException") = some true) (xi_InvalidPlace_InvalidRule : PySem.W.isClsIn K C_InvalidRule = true) (xt_InvalidPlace_InvalidRule : PySem.W.typeIn K (.ref C_InvalidRule) = some (.type "type")) (xs_InvalidPlace_InvalidRule : PySem.W.subIn K (.ref C_InvalidPlace) (.ref C_InvalidRule) = some false) (xb_InvalidPlace_InvalidPlace : PySem.W.subIn K (.ref C_InvalidPlace) (.type "BaseException") = some true) (xi_InvalidPlace_InvalidPlace : PySem.W.isClsIn K C_InvalidPlace = true) (xt_InvalidPlace_InvalidPlace : PySem.W.typeIn K (.ref C_InvalidPlace) = some (.type "type")) (xs_InvalidPlace_InvalidPlace : PySem.W.subIn K (.ref C_InvalidPlace) (.ref C_InvalidPlace) = some true) (no_InvalidPlace_at : PySem.W.findIn K (.ref C_InvalidPlace) "at" = some none) (no_InvalidPlace_code : PySem.W.findIn K (.ref C_InvalidPlace) "code" = some none) (el_BadTree : K.lookup C_BadTree = some (excClassObj nm_BadTree q_BadTree C_BadTree N_BadTree bs_BadTree [.ref C_SureletError, .type "ValueError", .type "Exception", .type "BaseException", .type "object"] true sn_BadTree sb_BadTree ab_BadTree co_BadTree dd_BadTree e0_BadTree e1_BadTree e2_BadTree e3_BadTree e5_BadTree "ValueError.__new__")) (es_BadTree : PySem.W.findIn K (.ref C_BadTree) "__setattr__" = some (some (.builtin "object.__setattr__"))) (eb_BadTree : PySem.W.subIn K (.ref C_BadTree) (.type "BaseException") = some true) (et_BadTree : PySem.W.typeIn K (.ref C_BadTree) = some (.type "type")) (ek_BadTree : PySem.W.keepIn K (.ref C_BadTree) = true) (em_BadTree : PySem.W.mroIn K C_BadTree (.ref C_BadTree) = some true) (eu_BadTree : PySem.W.ks_superIn K C_BadTree C_BadTree "__init__" = some (some (.builtin "ValueError.__init__"))) (ev_BadTree : PySem.W.subIn K (.ref C_BadTree) (.type "ValueError") = some true) (ega_BadTree : PySem.W.findIn K (.ref C_BadTree) "__getattribute__" = some (some (.builtin "BaseException.__getattribute__"))) (egg_BadTree : PySem.W.findIn K (.ref C_BadTree) "__getattr__" = some none) (ehd_BadTree : PySem.W.hasDictIn K C_BadTree = true) (eti_BadTree : PySem.W.typeIn K (.ref A_BadTree_init) = some (.type "function")) (xb_BadTree_InvalidName : PySem.W.subIn K (.ref C_InvalidName) (.type "BaseException") = some true) (xi_BadTree_InvalidName : PySem.W.isClsIn K C_InvalidName = true) (xt_BadTree_InvalidName : PySem.W.typeIn K (.ref C_InvalidName) = some (.type "type")) (xs_BadTree_InvalidName : PySem.W.subIn K (.ref C_BadTree) (.ref C_InvalidName) = some false) (xb_BadTree_InvalidRule : PySem.W.subIn K (.ref C_InvalidRule) (.type "BaseException") = some true) (xi_BadTree_InvalidRule : PySem.W.isClsIn K C_InvalidRule = true) (xt_BadTree_InvalidRule : PySem.W.typeIn K (.ref C_InvalidRule) = some (.type "type")) (xs_BadTree_InvalidRule : PySem.W.subIn K (.ref C_BadTree) (.ref C_InvalidRule) = some false) (xb_BadTree_InvalidPlace : PySem.W.subIn K (.ref C_InvalidPlace) (.type "BaseException") = some true) (xi_BadTree_InvalidPlace : PySem.W.isClsIn K C_InvalidPlace = true) (xt_BadTree_InvalidPlace : PySem.W.typeIn K (.ref C_InvalidPlace) = some (.type "type")) (xs_BadTree_InvalidPlace : PySem.W.subIn K (.ref C_BadTree) (.ref C_InvalidPlace) = some false) (xb_BadTree_BadTree : PySem.W.subIn K (.ref C_BadTree) (.type "BaseException") = some true) (xi_BadTree_BadTree : PySem.W.isClsIn K C_BadTree = true) (xt_BadTree_BadTree : PySem.W.typeIn K (.ref C_BadTree) = some (.type "type")) (xs_BadTree_BadTree : PySem.W.subIn K (.ref C_BadTree) (.ref C_BadTree) = some true) (no_BadTree_place : PySem.W.findIn K (.ref C_BadTree) "place" = some none) (no_BadTree_code : PySem.W.findIn K (.ref C_BadTree) "code" = some none) (el_TooMany : K.lookup C_TooMany = some (excClassObj nm_TooMany q_TooMany C_TooMany N_TooMany bs_TooMany [.ref C_SureletError, .type "ValueError", .type "Exception", .type "BaseException", .type "object"] true sn_TooMany sb_TooMany ab_TooMany co_TooMany dd_TooMany e0_TooMany e1_TooMany e2_TooMany e3_TooMany e5_TooMany "ValueError.__new__")) (es_TooMany : PySem.W.findIn K (.ref C_TooMany) "__setattr__" = some (some (.builtin "object.__setattr__"))) (eb_TooMany : PySem.W.subIn K (.ref C_TooMany) (.type "BaseException") = some true) (et_TooMany : PySem.W.typeIn K (.ref C_TooMany) = some (.type "type")) (ek_TooMany : PySem.W.keepIn K (.ref C_TooMany) = true) (em_TooMany : PySem.W.mroIn K C_TooMany (.ref C_TooMany) = some true) (eu_TooMany : PySem.W.ks_superIn K C_TooMany C_TooMany "__init__" = some (some (.builtin "ValueError.__init__"))) (ev_TooMany : PySem.W.subIn K (.ref C_TooMany) (.type "ValueError") = some true) (ega_TooMany : PySem.W.findIn K (.ref C_TooMany) "__getattribute__" = some (some (.builtin "BaseException.__getattribute__"))) (egg_TooMany : PySem.W.findIn K (.ref C_TooMany) "__getattr__" = some none) (ehd_TooMany : PySem.W.hasDictIn K C_TooMany = true) (eti_TooMany : PySem.W.typeIn K (.ref A_TooMany_init) = some (.type "function")) (xb_TooMany_InvalidName : PySem.W.subIn K (.ref C_InvalidName) (.type "BaseException") = some true) (xi_TooMany_InvalidName : PySem.W.isClsIn K C_InvalidName = true) (xt_TooMany_InvalidName : PySem.W.typeIn K (.ref C_InvalidName) = some (.type "type")) (xs_TooMany_InvalidName : PySem.W.subIn K (.ref C_TooMany) (.ref C_InvalidName) = some false) (xb_TooMany_InvalidRule : PySem.W.subIn K (.ref C_InvalidRule) (.type "BaseException") = some true) (xi_TooMany_InvalidRule : PySem.W.isClsIn K C_InvalidRule = true) (xt_TooMany_InvalidRule : PySem.W.typeIn K (.ref C_InvalidRule) = some (.type "type")) (xs_TooMany_InvalidRule : PySem.W.subIn K (.ref C_TooMany) (.ref C_InvalidRule) = some false) (xb_TooMany_InvalidPlace : PySem.W.subIn K (.ref C_InvalidPlace) (.type "BaseException") = some true) (xi_TooMany_InvalidPlace : PySem.W.isClsIn K C_InvalidPlace = true) (xt_TooMany_InvalidPlace : PySem.W.typeIn K (.ref C_InvalidPlace) = some (.type "type")) (xs_TooMany_InvalidPlace : PySem.W.subIn K (.ref C_TooMany) (.ref C_InvalidPlace) = some false) (xb_TooMany_BadTree : PySem.W.subIn K (.ref C_BadTree) (.type "BaseException") = some true) (xi_TooMany_BadTree : PySem.W.isClsIn K C_BadTree = true) (xt_TooMany_BadTree : PySem.W.typeIn K (.ref C_BadTree) = some (.type "type")) (xs_TooMany_BadTree : PySem.W.subIn K (.ref C_TooMany) (.ref C_BadTree) = some false) (xb_TooMany_TooMany : PySem.W.subIn K (.ref C_TooMany) (.type "BaseException") = some true) (xi_TooMany_TooMany : PySem.W.isClsIn K C_TooMany = true) (xt_TooMany_TooMany : PySem.W.typeIn K (.ref C_TooMany) = some (.type "type")) (xs_TooMany_TooMany : PySem.W.subIn K (.ref C_TooMany) (.ref C_TooMany) = some true) (no_TooMany_what : PySem.W.findIn K (.ref C_TooMany) "what" = some none) (no_TooMany_count : PySem.W.findIn K (.ref C_TooMany) "count" = some none) (no_TooMany_code : PySem.W.findIn K (.ref C_TooMany) "code" = some none) (pg_Place : PySem.W.plainGet K C_Place Str.empty = true) (hd_Place : PySem.W.hasDictIn K C_Place = true) (po_Place : PySem.W.plainOver K C_Place = true) (sa_Place : PySem.W.findIn K (.ref C_Place) "__setattr__" = some (some (.builtin "object.__setattr__"))) (mk_Place : PySem.W.makesIn K C_Place = true) (kc_Place : PySem.W.keepIn K (.ref C_Place) = true) (th_Place : PySem.W.findIn K (.ref C_Place) "__class__" = some (some (.builtin "object.__class__"))) (tn_Place : PySem.W.specialIn K (.builtin "object.__class__") "__get__" = some (some (.builtin "getset_descriptor.__get__"))) (tk_Place : PySem.W.takesIn K (.builtin "object.__class__") = some true) (tm_Place : PySem.W.mroIn K C_Place (.type "object") = some true) (kt_Place_Place : PySem.W.kitOne K (.ref C_Place) (.ref C_Place) = some true) (kt_Place_Rule : PySem.W.kitOne K (.ref C_Place) (.ref C_Rule) = some false) (no_Place_name : PySem.W.findIn K (.ref C_Place) "name" = some none) (no_Place_server : PySem.W.findIn K (.ref C_Place) "server" = some none) (no_Place_elder : PySem.W.findIn K (.ref C_Place) "elder" = some none) (no_Place_memory : PySem.W.findIn K (.ref C_Place) "memory" = some none) (no_Place_customer : PySem.W.findIn K (.ref C_Place) "customer" = some none) (eqf_Place : PySem.W.findIn K (.ref C_Place) "__eq__" = some (some (.ref A_Place_eq))) (eqi_Place : PySem.W.isFn K (.ref A_Place_eq) = true) (nf_Place_str : PySem.W.notFirst K C_Place (.type "str") = true) (nf_Place_int : PySem.W.notFirst K C_Place (.type "int") = true) (nf_Place : PySem.W.notFirst K C_Place (.ref C_Place) = true) (ktt_Place_int : PySem.W.kitOne K (.ref C_Place) (.type "int") = some false) (ktt_Place_bool : PySem.W.kitOne K (.ref C_Place) (.type "bool") = some false) (ktt_Place_str : PySem.W.kitOne K (.ref C_Place) (.type "str") = some false) (ktt_Place_list : PySem.W.kitOne K (.ref C_Place) (.type "list") = some false) (ktt_Place_tuple : PySem.W.kitOne K (.ref C_Place) (.type "tuple") = some false) (ktt_Place_dict : PySem.W.kitOne K (.ref C_Place) (.type "dict") = some false) (kb_int_Place : PySem.W.kitOne K (.type "int") (.ref C_Place) = some false) (kb_bool_Place : PySem.W.kitOne K (.type "bool") (.ref C_Place) = some false) (kb_str_Place : PySem.W.kitOne K (.type "str") (.ref C_Place) = some false) (kb_NoneType_Place : PySem.W.kitOne K (.type "NoneType") (.ref C_Place) = some false) (kb_list_Place : PySem.W.kitOne K (.type "list") (.ref C_Place) = some false) (kb_tuple_Place : PySem.W.kitOne K (.type "tuple") (.ref C_Place) = some false) (kb_dict_Place : PySem.W.kitOne K (.type "dict") (.ref C_Place) = some false) (pg_Tree : PySem.W.plainGet K C_Tree Str.empty = true) (hd_Tree : PySem.W.hasDictIn K C_Tree = true) (po_Tree : PySem.W.plainOver K C_Tree = true) (sa_Tree : PySem.W.findIn K (.ref C_Tree) "__setattr__" = some (some (.builtin "object.__setattr__"))) (mk_Tree : PySem.W.makesIn K C_Tree = true) (kc_Tree : PySem.W.keepIn K (.ref C_Tree) = true) (th_Tree : PySem.W.findIn K (.ref C_Tree) "__class__" = some (some (.builtin "object.__class__"))) (tn_Tree : PySem.W.specialIn K (.builtin "object.__class__") "__get__" = some (some (.builtin "getset_descriptor.__get__"))) (tk_Tree : PySem.W.takesIn K (.builtin "object.__class__") = some true) (tm_Tree : PySem.W.mroIn K C_Tree (.type "object") = some true) (kt_Tree_Tree : PySem.W.kitOne K (.ref C_Tree) (.ref C_Tree) = some true) (no_Tree_rule : PySem.W.findIn K (.ref C_Tree) "rule" = some none) (no_Tree_places : PySem.W.findIn K (.ref C_Tree) "_places" = some none) (no_Tree_by_name : PySem.W.findIn K (.ref C_Tree) "_by_name" = some none) (no_Tree_children : PySem.W.findIn K (.ref C_Tree) "_children" = some none) (no_Tree_tops : PySem.W.findIn K (.ref C_Tree) "_tops" = some none) (me_Tree_fits : PySem.W.findIn K (.ref C_Tree) "_fits" = some (some (.ref A_Tree_fits))) (mi_Tree_fits : PySem.W.isFn K (.ref A_Tree_fits) = true) (me_Tree_places : PySem.W.findIn K (.ref C_Tree) "places" = some (some (.ref A_Tree_places))) (mi_Tree_places : PySem.W.isFn K (.ref A_Tree_places) = true) (lt_Tree : PySem.W.typeIn K (.ref A_Tree_len) = some (.type "function")) (kb_int_Rest : PySem.W.kitOne K (.type "int") (.ref C_Rest) = some false) (kb_bool_Rest : PySem.W.kitOne K (.type "bool") (.ref C_Rest) = some false) (kb_str_Rest : PySem.W.kitOne K (.type "str") (.ref C_Rest) = some false) (kb_NoneType_Rest : PySem.W.kitOne K (.type "NoneType") (.ref C_Rest) = some false) (kb_list_Rest : PySem.W.kitOne K (.type "list") (.ref C_Rest) = some false) (kb_tuple_Rest : PySem.W.kitOne K (.type "tuple") (.ref C_Rest) = some false) (kb_dict_Rest : PySem.W.kitOne K (.type "dict") (.ref C_Rest) = some false) (pg_Window : PySem.W.plainGet K C_Window Str.empty = true) (hd_Window : PySem.W.hasDictIn K C_Window = true) (po_Window : PySem.W.plainOver K C_Window = true) (sa_Window : PySem.W.findIn K (.ref C_Window) "__setattr__" = some (some (.builtin "object.__setattr__"))) (mk_Window : PySem.W.makesIn K C_Window = true) (kc_Window : PySem.W.keepIn K (.ref C_Window) = true) (th_Window : PySem.W.findIn K (.ref C_Window) "__class__" = some (some (.builtin "object.__class__"))) (tn_Window : PySem.W.specialIn K (.builtin "object.__class__") "__get__" = some (some (.builtin "getset_descriptor.__get__"))) (tk_Window : PySem.W.takesIn K (.builtin "object.__class__") = some true) (tm_Window : PySem.W.mroIn K C_Window (.type "object") = some true) (kt_Window_Rest : PySem.W.kitOne K (.ref C_Window) (.ref C_Rest) = some true) (kt_Window_Window : PySem.W.kitOne K (.ref C_Window) (.ref C_Window) = some true) (kt_Window_Place : PySem.W.kitOne K (.ref C_Window) (.ref C_Place) = some false) (kt_Window_Rule : PySem.W.kitOne K (.ref C_Window) (.ref C_Rule) = some false) (su_Window : PySem.W.mroIn K C_Window (.ref C_Window) = some true) (sm_Window : PySem.W.ks_superIn K C_Window C_Window "__init__" = some (some (.ref A_Rest_init))) (sf_Window : PySem.W.fnIn K A_Rest_init = true) (st_Window : PySem.W.typeIn K (.ref A_Rest_init) = some (.type "function")) (no_Window_text : PySem.W.findIn K (.ref C_Window) "_text" = some none) (no_Window_forms : PySem.W.findIn K (.ref C_Window) "_forms" = some none) (no_Window_period : PySem.W.findIn K (.ref C_Window) "_period" = some none) (no_Window_bend : PySem.W.findIn K (.ref C_Window) "_bend" = some none) (no_Window_width : PySem.W.findIn K (.ref C_Window) "width" = some none) (eqf_Window : PySem.W.findIn K (.ref C_Window) "__eq__" = some (some (.ref A_Rest_eq))) (eqi_Window : PySem.W.isFn K (.ref A_Rest_eq) = true) (nf_Window_str : PySem.W.notFirst K C_Window (.type "str") = true) (nf_Window_int : PySem.W.notFirst K C_Window (.type "int") = true) (nf_Window : PySem.W.notFirst K C_Window (.ref C_Window) = true) (ktt_Window_int : PySem.W.kitOne K (.ref C_Window) (.type "int") = some false) (ktt_Window_bool : PySem.W.kitOne K (.ref C_Window) (.type "bool") = some false) (ktt_Window_str : PySem.W.kitOne K (.ref C_Window) (.type "str") = some false) (ktt_Window_list : PySem.W.kitOne K (.ref C_Window) (.type "list") = some false) (ktt_Window_tuple : PySem.W.kitOne K (.ref C_Window) (.type "tuple") = some false) (ktt_Window_dict : PySem.W.kitOne K (.ref C_Window) (.type "dict") = some false) (kb_int_Window : PySem.W.kitOne K (.type "int") (.ref C_Window) = some false) (kb_bool_Window : PySem.W.kitOne K (.type "bool") (.ref C_Window) = some false) (kb_str_Window : PySem.W.kitOne K (.type "str") (.ref C_Window) = some false) (kb_NoneType_Window : PySem.W.kitOne K (.type "NoneType") (.ref C_Window) = some false) (kb_list_Window : PySem.W.kitOne K (.type "list") (.ref C_Window) = some false) (kb_tuple_Window : PySem.W.kitOne K (.type "tuple") (.ref C_Window) = some false) (kb_dict_Window : PySem.W.kitOne K (.type "dict") (.ref C_Window) = some false) (pg_Rule : PySem.W.plainGet K C_Rule Str.empty = true) (hd_Rule : PySem.W.hasDictIn K C_Rule = true) (po_Rule : PySem.W.plainOver K C_Rule = true) (sa_Rule : PySem.W.findIn K (.ref C_Rule) "__setattr__" = some (some (.builtin "object.__setattr__"))) (mk_Rule : PySem.W.makesIn K C_Rule = true) (kc_Rule : PySem.W.keepIn K (.ref C_Rule) = true) (th_Rule : PySem.W.findIn K (.ref C_Rule) "__class__" = some (some (.builtin "object.__class__"))) (tn_Rule : PySem.W.specialIn K (.builtin "object.__class__") "__get__" = some (some (.builtin "getset_descriptor.__get__"))) (tk_Rule : PySem.W.takesIn K (.builtin "object.__class__") = some true) (tm_Rule : PySem.W.mroIn K C_Rule (.type "object") = some true) (kt_Rule_Rule : PySem.W.kitOne K (.ref C_Rule) (.ref C_Rule) = some true) (kt_Rule_Place : PySem.W.kitOne K (.ref C_Rule) (.ref C_Place) = some false) (kb_int_Rule : PySem.W.kitOne K (.type "int") (.ref C_Rule) = some false) (kb_bool_Rule : PySem.W.kitOne K (.type "bool") (.ref C_Rule) = some false) (kb_str_Rule : PySem.W.kitOne K (.type "str") (.ref C_Rule) = some false) (kb_NoneType_Rule : PySem.W.kitOne K (.type "NoneType") (.ref C_Rule) = some false) (kb_list_Rule : PySem.W.kitOne K (.type "list") (.ref C_Rule) = some false) (kb_tuple_Rule : PySem.W.kitOne K (.type "tuple") (.ref C_Rule) = some false) (kb_dict_Rule : PySem.W.kitOne K (.type "dict") (.ref C_Rule) = some false) (no_Rule_name : PySem.W.findIn K (.ref C_Rule) "name" = some none) (no_Rule_chips : PySem.W.findIn K (.ref C_Rule) "chips" = some none) (no_Rule_rest : PySem.W.findIn K (.ref C_Rule) "rest" = some none) : Tx K mg where
  C_SureletError := C_SureletError
  m_SureletError := PySem.W.mg_of X G aC_SureletError
  C_InvalidName := C_InvalidName
  m_InvalidName := PySem.W.mg_of X G aC_InvalidName
  C_InvalidRule := C_InvalidRule
  m_InvalidRule := PySem.W.mg_of X G aC_InvalidRule
  C_InvalidPlace := C_InvalidPlace
  m_InvalidPlace := PySem.W.mg_of X G aC_InvalidPlace
  C_BadTree := C_BadTree
  m_BadTree := PySem.W.mg_of X G aC_BadTree
  C_TooMany := C_TooMany
  m_TooMany := PySem.W.mg_of X G aC_TooMany
  C_Place := C_Place
  m_Place := PySem.W.mg_of X G aC_Place
  C_Tree := C_Tree
  m_Tree := PySem.W.mg_of X G aC_Tree
  C_Rest := C_Rest
  m_Rest := PySem.W.mg_of X G aC_Rest
  C_Window := C_Window
  m_Window := PySem.W.mg_of X G aC_Window
  C_Rule := C_Rule
  m_Rule := PySem.W.mg_of X G aC_Rule
  a_InvalidName_init := A_InvalidName_init
  cc_InvalidName_init := cc_InvalidName_init
  cda_InvalidName_init := cda_InvalidName_init
  fd_InvalidName_init := PySem.W.fnX "__init__" "InvalidName.__init__" (defArgs s_InvalidName_init) (defBody s_InvalidName_init) (defScope s_InvalidName_init) [("__class__", cc_InvalidName_init)] .none kV_InvalidName_init doc_InvalidName_init pm_InvalidName_init an_InvalidName_init (.ref cda_InvalidName_init) ct_InvalidName_init
  F_InvalidName_init := funS_mk l_InvalidName_init c_InvalidName_init k_InvalidName_init
  b_InvalidName_init := (funS_mk l_InvalidName_init c_InvalidName_init k_InvalidName_init).binds (st := s_InvalidName_init) (ps := P_InvalidName_init) fun _ _ _ _ _ us hl => match us, hl with | [_, _], _ => rfl
  ce_InvalidName_init := ⟨_, _, _, cell_InvalidName_init⟩
  sd_InvalidName_init := ⟨⟨_, _, _, _, _, l_InvalidName_init, rfl, rfl⟩, ⟨_, _, _, _, _, _, code_InvalidName_init, vs_InvalidName_init, fl_InvalidName_init⟩, ⟨_, _, _, cell_InvalidName_init⟩, ⟨_, cd_InvalidName_init⟩, PySem.W.mg_none_of X G z_super, top_super, st_thirdparty⟩
  k_InvalidName_init := k_InvalidName_init
  a_InvalidRule_init := A_InvalidRule_init
  cc_InvalidRule_init := cc_InvalidRule_init
  cda_InvalidRule_init := cda_InvalidRule_init
  fd_InvalidRule_init := PySem.W.fnX "__init__" "InvalidRule.__init__" (defArgs s_InvalidRule_init) (defBody s_InvalidRule_init) (defScope s_InvalidRule_init) [("__class__", cc_InvalidRule_init)] .none kV_InvalidRule_init doc_InvalidRule_init pm_InvalidRule_init an_InvalidRule_init (.ref cda_InvalidRule_init) ct_InvalidRule_init
  F_InvalidRule_init := funS_mk l_InvalidRule_init c_InvalidRule_init k_InvalidRule_init
  b_InvalidRule_init := (funS_mk l_InvalidRule_init c_InvalidRule_init k_InvalidRule_init).binds (st := s_InvalidRule_init) (ps := P_InvalidRule_init) fun _ _ _ _ _ us hl => match us, hl with | [_, _], _ => rfl
  ce_InvalidRule_init := ⟨_, _, _, cell_InvalidRule_init⟩
  sd_InvalidRule_init := ⟨⟨_, _, _, _, _, l_InvalidRule_init, rfl, rfl⟩, ⟨_, _, _, _, _, _, code_InvalidRule_init, vs_InvalidRule_init, fl_InvalidRule_init⟩, ⟨_, _, _, cell_InvalidRule_init⟩, ⟨_, cd_InvalidRule_init⟩, PySem.W.mg_none_of X G z_super, top_super, st_thirdparty⟩
  k_InvalidRule_init := k_InvalidRule_init
  a_InvalidPlace_init := A_InvalidPlace_init
  cc_InvalidPlace_init := cc_InvalidPlace_init
  cda_InvalidPlace_init := cda_InvalidPlace_init
  fd_InvalidPlace_init := PySem.W.fnX "__init__" "InvalidPlace.__init__" (defArgs s_InvalidPlace_init) (defBody s_InvalidPlace_init) (defScope s_InvalidPlace_init) [("__class__", cc_InvalidPlace_init)] .none kV_InvalidPlace_init doc_InvalidPlace_init pm_InvalidPlace_init an_InvalidPlace_init (.ref cda_InvalidPlace_init) ct_InvalidPlace_init
  F_InvalidPlace_init := funS_mk l_InvalidPlace_init c_InvalidPlace_init k_InvalidPlace_init
  b_InvalidPlace_init := (funS_mk l_InvalidPlace_init c_InvalidPlace_init k_InvalidPlace_init).binds (st := s_InvalidPlace_init) (ps := P_InvalidPlace_init) fun _ _ _ _ _ us hl => match us, hl with | [_, _], _ => rfl
  ce_InvalidPlace_init := ⟨_, _, _, cell_InvalidPlace_init⟩
  sd_InvalidPlace_init := ⟨⟨_, _, _, _, _, l_InvalidPlace_init, rfl, rfl⟩, ⟨_, _, _, _, _, _, code_InvalidPlace_init, vs_InvalidPlace_init, fl_InvalidPlace_init⟩, ⟨_, _, _, cell_InvalidPlace_init⟩, ⟨_, cd_InvalidPlace_init⟩, PySem.W.mg_none_of X G z_super, top_super, st_thirdparty⟩
  k_InvalidPlace_init := k_InvalidPlace_init
  a_BadTree_init := A_BadTree_init
  cc_BadTree_init := cc_BadTree_init
  cda_BadTree_init := cda_BadTree_init
  fd_BadTree_init := PySem.W.fnX "__init__" "BadTree.__init__" (defArgs s_BadTree_init) (defBody s_BadTree_init) (defScope s_BadTree_init) [("__class__", cc_BadTree_init)] .none kV_BadTree_init doc_BadTree_init pm_BadTree_init an_BadTree_init (.ref cda_BadTree_init) ct_BadTree_init
  F_BadTree_init := funS_mk l_BadTree_init c_BadTree_init k_BadTree_init
  b_BadTree_init := (funS_mk l_BadTree_init c_BadTree_init k_BadTree_init).binds (st := s_BadTree_init) (ps := P_BadTree_init) fun _ _ _ _ _ us hl => match us, hl with | [_, _], _ => rfl
  ce_BadTree_init := ⟨_, _, _, cell_BadTree_init⟩
  sd_BadTree_init := ⟨⟨_, _, _, _, _, l_BadTree_init, rfl, rfl⟩, ⟨_, _, _, _, _, _, code_BadTree_init, vs_BadTree_init, fl_BadTree_init⟩, ⟨_, _, _, cell_BadTree_init⟩, ⟨_, cd_BadTree_init⟩, PySem.W.mg_none_of X G z_super, top_super, st_thirdparty⟩
  k_BadTree_init := k_BadTree_init
  a_TooMany_init := A_TooMany_init
  cc_TooMany_init := cc_TooMany_init
  cda_TooMany_init := cda_TooMany_init
  fd_TooMany_init := PySem.W.fnX "__init__" "TooMany.__init__" (defArgs s_TooMany_init) (defBody s_TooMany_init) (defScope s_TooMany_init) [("__class__", cc_TooMany_init)] .none kV_TooMany_init doc_TooMany_init pm_TooMany_init an_TooMany_init (.ref cda_TooMany_init) ct_TooMany_init
  F_TooMany_init := funS_mk l_TooMany_init c_TooMany_init k_TooMany_init
  b_TooMany_init := (funS_mk l_TooMany_init c_TooMany_init k_TooMany_init).binds (st := s_TooMany_init) (ps := P_TooMany_init) fun _ _ _ _ _ us hl => match us, hl with | [_, _, _], _ => rfl
  ce_TooMany_init := ⟨_, _, _, cell_TooMany_init⟩
  sd_TooMany_init := ⟨⟨_, _, _, _, _, l_TooMany_init, rfl, rfl⟩, ⟨_, _, _, _, _, _, code_TooMany_init, vs_TooMany_init, fl_TooMany_init⟩, ⟨_, _, _, cell_TooMany_init⟩, ⟨_, cd_TooMany_init⟩, PySem.W.mg_none_of X G z_super, top_super, st_thirdparty⟩
  k_TooMany_init := k_TooMany_init
  a_is_number := A_is_number
  fd_is_number := PySem.W.fnOf "is_number" "is_number" (defArgs s_is_number) (defBody s_is_number) (defScope s_is_number) .none kV_is_number doc_is_number pm_is_number an_is_number cdv_is_number ct_is_number
  F_is_number := fun_mk (st := s_is_number) l_is_number c_is_number k_is_number
  b_is_number := (fun_mk (st := s_is_number) l_is_number c_is_number k_is_number).binds (ps := P_is_number) fun _ _ _ _ _ _ us hl => match us, hl with | [_, _, _], _ => rfl
  k_is_number := k_is_number
  m_is_number := PySem.W.mg_of X G a_is_number
  a_is_name := A_is_name
  fd_is_name := PySem.W.fnOf "is_name" "is_name" (defArgs s_is_name) (defBody s_is_name) (defScope s_is_name) .none kV_is_name doc_is_name pm_is_name an_is_name cdv_is_name ct_is_name
  F_is_name := fun_mk (st := s_is_name) l_is_name c_is_name k_is_name
  b_is_name := (fun_mk (st := s_is_name) l_is_name c_is_name k_is_name).binds (ps := P_is_name) fun _ _ _ _ _ _ us hl => match us, hl with | [_], _ => rfl
  k_is_name := k_is_name
  m_is_name := PySem.W.mg_of X G a_is_name
  a_Rest_init := A_Rest_init
  fd_Rest_init := PySem.W.fnOf "__init__" "Rest.__init__" (defArgs s_Rest_init) (defBody s_Rest_init) (defScope s_Rest_init) .none kV_Rest_init doc_Rest_init pm_Rest_init an_Rest_init cdv_Rest_init ct_Rest_init
  F_Rest_init := fun_mk (st := s_Rest_init) l_Rest_init c_Rest_init k_Rest_init
  b_Rest_init := (fun_mk (st := s_Rest_init) l_Rest_init c_Rest_init k_Rest_init).binds (ps := P_Rest_init) fun _ _ _ _ _ _ us hl => match us, hl with | [_, _, _, _, _], _ => rfl
  k_Rest_init := k_Rest_init
  a_Rest_eq := A_Rest_eq
  fd_Rest_eq := PySem.W.fnOf "__eq__" "Rest.__eq__" (defArgs s_Rest_eq) (defBody s_Rest_eq) (defScope s_Rest_eq) .none kV_Rest_eq doc_Rest_eq pm_Rest_eq an_Rest_eq cdv_Rest_eq ct_Rest_eq
  F_Rest_eq := fun_mk (st := s_Rest_eq) l_Rest_eq c_Rest_eq k_Rest_eq
  b_Rest_eq := (fun_mk (st := s_Rest_eq) l_Rest_eq c_Rest_eq k_Rest_eq).binds (ps := P_Rest_eq) fun _ _ _ _ _ _ us hl => match us, hl with | [_, _], _ => rfl
  k_Rest_eq := k_Rest_eq
  a_Window_init := A_Window_init
  cc_Window_init := cc_Window_init
  cda_Window_init := cda_Window_init
  fd_Window_init := PySem.W.fnX "__init__" "Window.__init__" (defArgs s_Window_init) (defBody s_Window_init) (defScope s_Window_init) [("__class__", cc_Window_init)] .none kV_Window_init doc_Window_init pm_Window_init an_Window_init (.ref cda_Window_init) ct_Window_init
  F_Window_init := funS_mk l_Window_init c_Window_init k_Window_init
  b_Window_init := (funS_mk l_Window_init c_Window_init k_Window_init).binds (st := s_Window_init) (ps := P_Window_init) fun _ _ _ _ _ us hl => match us, hl with | [_, _], _ => rfl
  ce_Window_init := ⟨_, _, _, cell_Window_init⟩
  sd_Window_init := ⟨⟨_, _, _, _, _, l_Window_init, rfl, rfl⟩, ⟨_, _, _, _, _, _, code_Window_init, vs_Window_init, fl_Window_init⟩, ⟨_, _, _, cell_Window_init⟩, ⟨_, cd_Window_init⟩, PySem.W.mg_none_of X G z_super, top_super, st_thirdparty⟩
  k_Window_init := k_Window_init
  a_Rule_init := A_Rule_init
  fd_Rule_init := PySem.W.fnOf "__init__" "Rule.__init__" (defArgs s_Rule_init) (defBody s_Rule_init) (defScope s_Rule_init) .none kV_Rule_init doc_Rule_init pm_Rule_init an_Rule_init cdv_Rule_init ct_Rule_init
  F_Rule_init := fun_mk (st := s_Rule_init) l_Rule_init c_Rule_init k_Rule_init
  b_Rule_init := (fun_mk (st := s_Rule_init) l_Rule_init c_Rule_init k_Rule_init).binds (ps := P_Rule_init) fun _ _ _ _ _ _ us hl => match us, hl with | [_, _, _, _], _ => rfl
  k_Rule_init := k_Rule_init
  a_Place_init := A_Place_init
  fd_Place_init := PySem.W.fnOf "__init__" "Place.__init__" (defArgs s_Place_init) (defBody s_Place_init) (defScope s_Place_init) (.ref DT_Place_init) (.ref KD_Place_init) doc_Place_init pm_Place_init an_Place_init cdv_Place_init ct_Place_init
  F_Place_init := funD_mkK (us := [.none]) l_Place_init c_Place_init k_Place_init dt_Place_init (.cons rfl (.nil)) (by intro q; cases q) (fun q hq => by (simp only [List.mem_cons, List.not_mem_nil, or_false] at hq; rcases hq with rfl | rfl <;> first | exact ⟨_, kd_Place_init_memory, rfl⟩ | exact ⟨_, kd_Place_init_customer, rfl⟩))
  k_Place_init := k_Place_init
  a_Place_eq := A_Place_eq
  fd_Place_eq := PySem.W.fnOf "__eq__" "Place.__eq__" (defArgs s_Place_eq) (defBody s_Place_eq) (defScope s_Place_eq) .none kV_Place_eq doc_Place_eq pm_Place_eq an_Place_eq cdv_Place_eq ct_Place_eq
  F_Place_eq := fun_mk (st := s_Place_eq) l_Place_eq c_Place_eq k_Place_eq
  b_Place_eq := (fun_mk (st := s_Place_eq) l_Place_eq c_Place_eq k_Place_eq).binds (ps := P_Place_eq) fun _ _ _ _ _ _ us hl => match us, hl with | [_, _], _ => rfl
  k_Place_eq := k_Place_eq
  a_Tree_init := A_Tree_init
  fd_Tree_init := PySem.W.fnOf "__init__" "Tree.__init__" (defArgs s_Tree_init) (defBody s_Tree_init) (defScope s_Tree_init) .none kV_Tree_init doc_Tree_init pm_Tree_init an_Tree_init cdv_Tree_init ct_Tree_init
  F_Tree_init := fun_mk (st := s_Tree_init) l_Tree_init c_Tree_init k_Tree_init
  bst_Tree_init := StX.bind_star2 (B := fun xs => bindArgs (PySem.W.fnOf "__init__" "Tree.__init__" (defArgs s_Tree_init) (defBody s_Tree_init) (defScope s_Tree_init) .none kV_Tree_init doc_Tree_init pm_Tree_init an_Tree_init cdv_Tree_init ct_Tree_init) ⟨xs, []⟩) (fun a b => rfl) (fun a b r rs => rfl)
  k_Tree_init := k_Tree_init
  a_Tree_fits := A_Tree_fits
  fd_Tree_fits := PySem.W.fnOf "_fits" "Tree._fits" (defArgs s_Tree_fits) (defBody s_Tree_fits) (defScope s_Tree_fits) .none kV_Tree_fits doc_Tree_fits pm_Tree_fits an_Tree_fits cdv_Tree_fits ct_Tree_fits
  F_Tree_fits := fun_mk (st := s_Tree_fits) l_Tree_fits c_Tree_fits k_Tree_fits
  b_Tree_fits := (fun_mk (st := s_Tree_fits) l_Tree_fits c_Tree_fits k_Tree_fits).binds (ps := P_Tree_fits) fun _ _ _ _ _ _ us hl => match us, hl with | [_, _], _ => rfl
  k_Tree_fits := k_Tree_fits
  a_Tree_places := A_Tree_places
  fd_Tree_places := PySem.W.fnOf "places" "Tree.places" (defArgs s_Tree_places) (defBody s_Tree_places) (defScope s_Tree_places) .none kV_Tree_places doc_Tree_places pm_Tree_places an_Tree_places cdv_Tree_places ct_Tree_places
  F_Tree_places := fun_mk (st := s_Tree_places) l_Tree_places c_Tree_places k_Tree_places
  b_Tree_places := (fun_mk (st := s_Tree_places) l_Tree_places c_Tree_places k_Tree_places).binds (ps := P_Tree_places) fun _ _ _ _ _ _ us hl => match us, hl with | [_], _ => rfl
  k_Tree_places := k_Tree_places
  a_Tree_len := A_Tree_len
  fd_Tree_len := PySem.W.fnOf "__len__" "Tree.__len__" (defArgs s_Tree_len) (defBody s_Tree_len) (defScope s_Tree_len) .none kV_Tree_len doc_Tree_len pm_Tree_len an_Tree_len cdv_Tree_len ct_Tree_len
  F_Tree_len := fun_mk (st := s_Tree_len) l_Tree_len c_Tree_len k_Tree_len
  b_Tree_len := (fun_mk (st := s_Tree_len) l_Tree_len c_Tree_len k_Tree_len).binds (ps := P_Tree_len) fun _ _ _ _ _ _ us hl => match us, hl with | [_], _ => rfl
  k_Tree_len := k_Tree_len
  a_bag := A_bag
  fd_bag := PySem.W.fnOf "_law_bag" "_law_bag" (defArgs s_bag) (defBody s_bag) (defScope s_bag) .none kV_bag doc_bag pm_bag an_bag cdv_bag ct_bag
  F_bag := fun_mk (st := s_bag) l_bag c_bag k_bag
  b_bag := (fun_mk (st := s_bag) l_bag c_bag k_bag).binds (ps := P_bag) fun _ _ _ _ _ _ us hl => match us, hl with | [_], _ => rfl
  k_bag := k_bag
  m_bag := PySem.W.mg_of X G a_bag
  a_draw := A_draw
  fd_draw := PySem.W.fnOf "_law_draw" "_law_draw" (defArgs s_draw) (defBody s_draw) (defScope s_draw) .none kV_draw doc_draw pm_draw an_draw cdv_draw ct_draw
  F_draw := fun_mk (st := s_draw) l_draw c_draw k_draw
  b_draw := (fun_mk (st := s_draw) l_draw c_draw k_draw).binds (ps := P_draw) fun _ _ _ _ _ _ us hl => match us, hl with | [_, _], _ => rfl
  k_draw := k_draw
  m_draw := PySem.W.mg_of X G a_draw
  a_of := A_of
  fd_of := PySem.W.fnOf "_law_of" "_law_of" (defArgs s_of) (defBody s_of) (defScope s_of) .none kV_of doc_of pm_of an_of cdv_of ct_of
  F_of := fun_mk (st := s_of) l_of c_of k_of
  b_of := (fun_mk (st := s_of) l_of c_of k_of).binds (ps := P_of) fun _ _ _ _ _ _ us hl => match us, hl with | [_, _], _ => rfl
  k_of := k_of
  m_of := PySem.W.mg_of X G a_of
  a_like := A_like
  fd_like := PySem.W.fnOf "_law_like" "_law_like" (defArgs s_like) (defBody s_like) (defScope s_like) .none kV_like doc_like pm_like an_like cdv_like ct_like
  F_like := fun_mk (st := s_like) l_like c_like k_like
  b_like := (fun_mk (st := s_like) l_like c_like k_like).binds (ps := P_like) fun _ _ _ _ _ _ us hl => match us, hl with | [_, _], _ => rfl
  k_like := k_like
  m_like := PySem.W.mg_of X G a_like
  a_odd := A_odd
  fd_odd := PySem.W.fnOf "_law_odd" "_law_odd" (defArgs s_odd) (defBody s_odd) (defScope s_odd) .none kV_odd doc_odd pm_odd an_odd cdv_odd ct_odd
  F_odd := fun_mk (st := s_odd) l_odd c_odd k_odd
  b_odd := (fun_mk (st := s_odd) l_odd c_odd k_odd).binds (ps := P_odd) fun _ _ _ _ _ _ us hl => match us, hl with | [_], _ => rfl
  k_odd := k_odd
  m_odd := PySem.W.mg_of X G a_odd
  a_name := A_name
  fd_name := PySem.W.fnOf "_law_name" "_law_name" (defArgs s_name) (defBody s_name) (defScope s_name) .none kV_name doc_name pm_name an_name cdv_name ct_name
  F_name := fun_mk (st := s_name) l_name c_name k_name
  b_name := (fun_mk (st := s_name) l_name c_name k_name).binds (ps := P_name) fun _ _ _ _ _ _ us hl => match us, hl with | [_, _], _ => rfl
  k_name := k_name
  m_name := PySem.W.mg_of X G a_name
  a_names := A_names
  fd_names := PySem.W.fnOf "_law_names" "_law_names" (defArgs s_names) (defBody s_names) (defScope s_names) .none kV_names doc_names pm_names an_names cdv_names ct_names
  F_names := fun_mk (st := s_names) l_names c_names k_names
  b_names := (fun_mk (st := s_names) l_names c_names k_names).binds (ps := P_names) fun _ _ _ _ _ _ us hl => match us, hl with | [_, _], _ => rfl
  k_names := k_names
  m_names := PySem.W.mg_of X G a_names
  a_places := A_places
  fd_places := PySem.W.fnOf "_law_places" "_law_places" (defArgs s_places) (defBody s_places) (defScope s_places) .none kV_places doc_places pm_places an_places cdv_places ct_places
  F_places := fun_mk (st := s_places) l_places c_places k_places
  b_places := (fun_mk (st := s_places) l_places c_places k_places).binds (ps := P_places) fun _ _ _ _ _ _ us hl => match us, hl with | [_, _, _, _], _ => rfl
  k_places := k_places
  m_places := PySem.W.mg_of X G a_places
  a_place := A_place
  fd_place := PySem.W.fnOf "_law_place" "_law_place" (defArgs s_place) (defBody s_place) (defScope s_place) .none kV_place doc_place pm_place an_place cdv_place ct_place
  F_place := fun_mk (st := s_place) l_place c_place k_place
  b_place := (fun_mk (st := s_place) l_place c_place k_place).binds (ps := P_place) fun _ _ _ _ _ _ us hl => match us, hl with | [_, _], _ => rfl
  k_place := k_place
  m_place := PySem.W.mg_of X G a_place
  a_tree := A_tree
  fd_tree := PySem.W.fnOf "_law_tree" "_law_tree" (defArgs s_tree) (defBody s_tree) (defScope s_tree) .none kV_tree doc_tree pm_tree an_tree cdv_tree ct_tree
  F_tree := fun_mk (st := s_tree) l_tree c_tree k_tree
  b_tree := (fun_mk (st := s_tree) l_tree c_tree k_tree).binds (ps := P_tree) fun _ _ _ _ _ _ us hl => match us, hl with | [_, _], _ => rfl
  k_tree := k_tree
  m_tree := PySem.W.mg_of X G a_tree
  a_row := A_row
  fd_row := PySem.W.fnOf "_law_row" "_law_row" (defArgs s_row) (defBody s_row) (defScope s_row) .none kV_row doc_row pm_row an_row cdv_row ct_row
  F_row := fun_mk (st := s_row) l_row c_row k_row
  b_row := (fun_mk (st := s_row) l_row c_row k_row).binds (ps := P_row) fun _ _ _ _ _ _ us hl => match us, hl with | [_], _ => rfl
  k_row := k_row
  m_row := PySem.W.mg_of X G a_row
  a_ask := A_ask
  fd_ask := PySem.W.fnOf "_law_ask" "_law_ask" (defArgs s_ask) (defBody s_ask) (defScope s_ask) .none kV_ask doc_ask pm_ask an_ask cdv_ask ct_ask
  F_ask := fun_mk (st := s_ask) l_ask c_ask k_ask
  b_ask := (fun_mk (st := s_ask) l_ask c_ask k_ask).binds (ps := P_ask) fun _ _ _ _ _ _ us hl => match us, hl with | [_], _ => rfl
  k_ask := k_ask
  m_ask := PySem.W.mg_of X G a_ask
  a_bent := A_bent
  fd_bent := PySem.W.fnOf "_law_bent" "_law_bent" (defArgs s_bent) (defBody s_bent) (defScope s_bent) .none kV_bent doc_bent pm_bent an_bent cdv_bent ct_bent
  F_bent := fun_mk (st := s_bent) l_bent c_bent k_bent
  b_bent := (fun_mk (st := s_bent) l_bent c_bent k_bent).binds (ps := P_bent) fun _ _ _ _ _ _ us hl => match us, hl with | [_, _, _], _ => rfl
  k_bent := k_bent
  m_bent := PySem.W.mg_of X G a_bent
  a_at_fault := A_at_fault
  fd_at_fault := PySem.W.fnOf "_law_at_fault" "_law_at_fault" (defArgs s_at_fault) (defBody s_at_fault) (defScope s_at_fault) .none kV_at_fault doc_at_fault pm_at_fault an_at_fault cdv_at_fault ct_at_fault
  F_at_fault := fun_mk (st := s_at_fault) l_at_fault c_at_fault k_at_fault
  b_at_fault := (fun_mk (st := s_at_fault) l_at_fault c_at_fault k_at_fault).binds (ps := P_at_fault) fun _ _ _ _ _ _ us hl => match us, hl with | [_, _], _ => rfl
  k_at_fault := k_at_fault
  m_at_fault := PySem.W.mg_of X G a_at_fault
  a_due := A_due
  fd_due := PySem.W.fnOf "_law_due" "_law_due" (defArgs s_due) (defBody s_due) (defScope s_due) .none kV_due doc_due pm_due an_due cdv_due ct_due
  F_due := fun_mk (st := s_due) l_due c_due k_due
  b_due := (fun_mk (st := s_due) l_due c_due k_due).binds (ps := P_due) fun _ _ _ _ _ _ us hl => match us, hl with | [_], _ => rfl
  k_due := k_due
  m_due := PySem.W.mg_of X G a_due
  a_size := A_size
  fd_size := PySem.W.fnOf "_law_size" "_law_size" (defArgs s_size) (defBody s_size) (defScope s_size) .none kV_size doc_size pm_size an_size cdv_size ct_size
  F_size := fun_mk (st := s_size) l_size c_size k_size
  b_size := (fun_mk (st := s_size) l_size c_size k_size).binds (ps := P_size) fun _ _ _ _ _ _ us hl => match us, hl with | [_, _, _], _ => rfl
  k_size := k_size
  m_size := PySem.W.mg_of X G a_size
  a_so := A_so
  fd_so := PySem.W.fnOf "_law_so" "_law_so" (defArgs s_so) (defBody s_so) (defScope s_so) .none kV_so doc_so pm_so an_so (.ref cda_so) ct_so
  cda_so := cda_so
  tb_so := tb_so
  F_so := funL_mk (st := s_so) l_so c_so k_so
  b_so := (funL_mk (st := s_so) l_so c_so k_so).fn.binds (ps := P_so) fun _ _ _ _ _ _ us hl => match us, hl with | [_, _, _], _ => rfl
  k_so := k_so
  m_so := PySem.W.mg_of X G a_so
  a_named := A_named
  fd_named := PySem.W.fnOf "_law_named" "_law_named" (defArgs s_named) (defBody s_named) (defScope s_named) .none kV_named doc_named pm_named an_named cdv_named ct_named
  F_named := fun_mk (st := s_named) l_named c_named k_named
  b_named := (fun_mk (st := s_named) l_named c_named k_named).binds (ps := P_named) fun _ _ _ _ _ _ us hl => match us, hl with | [_], _ => rfl
  k_named := k_named
  m_named := PySem.W.mg_of X G a_named
  a_place_so := A_place_so
  fd_place_so := PySem.W.fnOf "_law_place_so" "_law_place_so" (defArgs s_place_so) (defBody s_place_so) (defScope s_place_so) .none kV_place_so doc_place_so pm_place_so an_place_so (.ref cda_place_so) ct_place_so
  cda_place_so := cda_place_so
  tb_place_so := tb_place_so
  F_place_so := funL_mk (st := s_place_so) l_place_so c_place_so k_place_so
  b_place_so := (funL_mk (st := s_place_so) l_place_so c_place_so k_place_so).fn.binds (ps := P_place_so) fun _ _ _ _ _ _ us hl => match us, hl with | [_], _ => rfl
  k_place_so := k_place_so
  m_place_so := PySem.W.mg_of X G a_place_so
  a_law := A_law
  fd_law := PySem.W.fnOf "law" "law" (defArgs s_law) (defBody s_law) (defScope s_law) .none kV_law doc_law pm_law an_law cdv_law ct_law
  F_law := fun_mk (st := s_law) l_law c_law k_law
  b_law := (fun_mk (st := s_law) l_law c_law k_law).binds (ps := P_law) fun _ _ _ _ _ _ us hl => match us, hl with | [_], _ => rfl
  k_law := k_law
  m_law := PySem.W.mg_of X G a_law
  tne_so_place_so := tne_so_place_so
  n_all := PySem.W.mg_none_of X G z_all
  n_bool := PySem.W.mg_none_of X G z_bool
  n_dict := PySem.W.mg_none_of X G z_dict
  n_enumerate := PySem.W.mg_none_of X G z_enumerate
  n_int := PySem.W.mg_none_of X G z_int
  n_isinstance := PySem.W.mg_none_of X G z_isinstance
  n_len := PySem.W.mg_none_of X G z_len
  n_list := PySem.W.mg_none_of X G z_list
  n_min := PySem.W.mg_none_of X G z_min
  n_range := PySem.W.mg_none_of X G z_range
  n_str := PySem.W.mg_none_of X G z_str
  n_super := PySem.W.mg_none_of X G z_super
  n_tuple := PySem.W.mg_none_of X G z_tuple
  n_zip := PySem.W.mg_none_of X G z_zip
  t_DIGITS := t_DIGITS
  m_DIGITS := PySem.W.mg_of X G ac_DIGITS
  r_DIGITS := ⟨_, rfl⟩
  t_LETTERS := t_LETTERS
  m_LETTERS := PySem.W.mg_of X G ac_LETTERS
  r_LETTERS := ⟨_, rfl⟩
  t_PLACES := t_PLACES
  m_PLACES := PySem.W.mg_of X G ac_PLACES
  r_PLACES := ⟨_, rfl⟩
  oex_InvalidName := ⟨⟨_, _, _, _, _, _, _, _, _, _, _, _, _, _, _, el_InvalidName, rfl⟩, es_InvalidName, eb_InvalidName, et_InvalidName, ek_InvalidName⟩
  se_InvalidName := ⟨⟨⟨_, _, _, _, _, _, _, _, _, _, _, _, _, _, _, el_InvalidName, rfl⟩, es_InvalidName, eb_InvalidName, et_InvalidName, ek_InvalidName⟩, em_InvalidName, eu_InvalidName, ev_InvalidName⟩
  xf_InvalidName := ⟨ega_InvalidName, egg_InvalidName, eb_InvalidName, ehd_InvalidName⟩
  ii_InvalidName := a_InvalidName_init
  ti_InvalidName := eti_InvalidName
  exm_InvalidName_InvalidName := exm_selfE xb_InvalidName_InvalidName xi_InvalidName_InvalidName xt_InvalidName_InvalidName xs_InvalidName_InvalidName
  no_InvalidName_value := no_InvalidName_value
  no_InvalidName_code := no_InvalidName_code
  oex_InvalidRule := ⟨⟨_, _, _, _, _, _, _, _, _, _, _, _, _, _, _, el_InvalidRule, rfl⟩, es_InvalidRule, eb_InvalidRule, et_InvalidRule, ek_InvalidRule⟩
  se_InvalidRule := ⟨⟨⟨_, _, _, _, _, _, _, _, _, _, _, _, _, _, _, el_InvalidRule, rfl⟩, es_InvalidRule, eb_InvalidRule, et_InvalidRule, ek_InvalidRule⟩, em_InvalidRule, eu_InvalidRule, ev_InvalidRule⟩
  xf_InvalidRule := ⟨ega_InvalidRule, egg_InvalidRule, eb_InvalidRule, ehd_InvalidRule⟩
  ii_InvalidRule := a_InvalidRule_init
  ti_InvalidRule := eti_InvalidRule
  exm_InvalidRule_InvalidName := exm_selfE xb_InvalidRule_InvalidName xi_InvalidRule_InvalidName xt_InvalidRule_InvalidName xs_InvalidRule_InvalidName
  exm_InvalidRule_InvalidRule := exm_selfE xb_InvalidRule_InvalidRule xi_InvalidRule_InvalidRule xt_InvalidRule_InvalidRule xs_InvalidRule_InvalidRule
  no_InvalidRule_value := no_InvalidRule_value
  no_InvalidRule_code := no_InvalidRule_code
  oex_InvalidPlace := ⟨⟨_, _, _, _, _, _, _, _, _, _, _, _, _, _, _, el_InvalidPlace, rfl⟩, es_InvalidPlace, eb_InvalidPlace, et_InvalidPlace, ek_InvalidPlace⟩
  se_InvalidPlace := ⟨⟨⟨_, _, _, _, _, _, _, _, _, _, _, _, _, _, _, el_InvalidPlace, rfl⟩, es_InvalidPlace, eb_InvalidPlace, et_InvalidPlace, ek_InvalidPlace⟩, em_InvalidPlace, eu_InvalidPlace, ev_InvalidPlace⟩
  xf_InvalidPlace := ⟨ega_InvalidPlace, egg_InvalidPlace, eb_InvalidPlace, ehd_InvalidPlace⟩
  ii_InvalidPlace := a_InvalidPlace_init
  ti_InvalidPlace := eti_InvalidPlace
  exm_InvalidPlace_InvalidName := exm_selfE xb_InvalidPlace_InvalidName xi_InvalidPlace_InvalidName xt_InvalidPlace_InvalidName xs_InvalidPlace_InvalidName
  exm_InvalidPlace_InvalidRule := exm_selfE xb_InvalidPlace_InvalidRule xi_InvalidPlace_InvalidRule xt_InvalidPlace_InvalidRule xs_InvalidPlace_InvalidRule
  exm_InvalidPlace_InvalidPlace := exm_selfE xb_InvalidPlace_InvalidPlace xi_InvalidPlace_InvalidPlace xt_InvalidPlace_InvalidPlace xs_InvalidPlace_InvalidPlace
  no_InvalidPlace_at := no_InvalidPlace_at
  no_InvalidPlace_code := no_InvalidPlace_code
  oex_BadTree := ⟨⟨_, _, _, _, _, _, _, _, _, _, _, _, _, _, _, el_BadTree, rfl⟩, es_BadTree, eb_BadTree, et_BadTree, ek_BadTree⟩
  se_BadTree := ⟨⟨⟨_, _, _, _, _, _, _, _, _, _, _, _, _, _, _, el_BadTree, rfl⟩, es_BadTree, eb_BadTree, et_BadTree, ek_BadTree⟩, em_BadTree, eu_BadTree, ev_BadTree⟩
  xf_BadTree := ⟨ega_BadTree, egg_BadTree, eb_BadTree, ehd_BadTree⟩
  ii_BadTree := a_BadTree_init
  ti_BadTree := eti_BadTree
  exm_BadTree_InvalidName := exm_selfE xb_BadTree_InvalidName xi_BadTree_InvalidName xt_BadTree_InvalidName xs_BadTree_InvalidName
  exm_BadTree_InvalidRule := exm_selfE xb_BadTree_InvalidRule xi_BadTree_InvalidRule xt_BadTree_InvalidRule xs_BadTree_InvalidRule
  exm_BadTree_InvalidPlace := exm_selfE xb_BadTree_InvalidPlace xi_BadTree_InvalidPlace xt_BadTree_InvalidPlace xs_BadTree_InvalidPlace
  exm_BadTree_BadTree := exm_selfE xb_BadTree_BadTree xi_BadTree_BadTree xt_BadTree_BadTree xs_BadTree_BadTree
  no_BadTree_place := no_BadTree_place
  no_BadTree_code := no_BadTree_code
  oex_TooMany := ⟨⟨_, _, _, _, _, _, _, _, _, _, _, _, _, _, _, el_TooMany, rfl⟩, es_TooMany, eb_TooMany, et_TooMany, ek_TooMany⟩
  se_TooMany := ⟨⟨⟨_, _, _, _, _, _, _, _, _, _, _, _, _, _, _, el_TooMany, rfl⟩, es_TooMany, eb_TooMany, et_TooMany, ek_TooMany⟩, em_TooMany, eu_TooMany, ev_TooMany⟩
  xf_TooMany := ⟨ega_TooMany, egg_TooMany, eb_TooMany, ehd_TooMany⟩
  ii_TooMany := a_TooMany_init
  ti_TooMany := eti_TooMany
  exm_TooMany_InvalidName := exm_selfE xb_TooMany_InvalidName xi_TooMany_InvalidName xt_TooMany_InvalidName xs_TooMany_InvalidName
  exm_TooMany_InvalidRule := exm_selfE xb_TooMany_InvalidRule xi_TooMany_InvalidRule xt_TooMany_InvalidRule xs_TooMany_InvalidRule
  exm_TooMany_InvalidPlace := exm_selfE xb_TooMany_InvalidPlace xi_TooMany_InvalidPlace xt_TooMany_InvalidPlace xs_TooMany_InvalidPlace
  exm_TooMany_BadTree := exm_selfE xb_TooMany_BadTree xi_TooMany_BadTree xt_TooMany_BadTree xs_TooMany_BadTree
  exm_TooMany_TooMany := exm_selfE xb_TooMany_TooMany xi_TooMany_TooMany xt_TooMany_TooMany xs_TooMany_TooMany
  no_TooMany_what := no_TooMany_what
  no_TooMany_count := no_TooMany_count
  no_TooMany_code := no_TooMany_code
  cl_Place := ⟨pg_Place, hd_Place, po_Place, sa_Place⟩
  mk_Place := ⟨mk_Place, a_Place_init, i_Place_init, kc_Place⟩
  ty_Place := ⟨⟨pg_Place, hd_Place, po_Place, sa_Place⟩, th_Place, tn_Place, tk_Place, tm_Place⟩
  kt_Place_Place := kt_Place_Place
  kt_Place_Rule := kt_Place_Rule
  no_Place_name := no_Place_name
  no_Place_server := no_Place_server
  no_Place_elder := no_Place_elder
  no_Place_memory := no_Place_memory
  no_Place_customer := no_Place_customer
  eqf_Place := eqf_Place
  eqi_Place := eqi_Place
  nf_Place_str := nf_Place_str
  nf_Place_int := nf_Place_int
  nf_Place := nf_Place
  ktt_Place_int := ktt_Place_int
  ktt_Place_bool := ktt_Place_bool
  ktt_Place_str := ktt_Place_str
  ktt_Place_list := ktt_Place_list
  ktt_Place_tuple := ktt_Place_tuple
  ktt_Place_dict := ktt_Place_dict
  kb_int_Place := kb_int_Place
  kb_bool_Place := kb_bool_Place
  kb_str_Place := kb_str_Place
  kb_NoneType_Place := kb_NoneType_Place
  kb_list_Place := kb_list_Place
  kb_tuple_Place := kb_tuple_Place
  kb_dict_Place := kb_dict_Place
  cl_Tree := ⟨pg_Tree, hd_Tree, po_Tree, sa_Tree⟩
  mk_Tree := ⟨mk_Tree, a_Tree_init, i_Tree_init, kc_Tree⟩
  ty_Tree := ⟨⟨pg_Tree, hd_Tree, po_Tree, sa_Tree⟩, th_Tree, tn_Tree, tk_Tree, tm_Tree⟩
  kt_Tree_Tree := kt_Tree_Tree
  no_Tree_rule := no_Tree_rule
  no_Tree_places := no_Tree_places
  no_Tree_by_name := no_Tree_by_name
  no_Tree_children := no_Tree_children
  no_Tree_tops := no_Tree_tops
  me_Tree_fits := ⟨me_Tree_fits, mi_Tree_fits, k_Tree_fits⟩
  me_Tree_places := ⟨me_Tree_places, mi_Tree_places, k_Tree_places⟩
  ln_Tree := a_Tree_len
  lt_Tree := lt_Tree
  kb_int_Rest := kb_int_Rest
  kb_bool_Rest := kb_bool_Rest
  kb_str_Rest := kb_str_Rest
  kb_NoneType_Rest := kb_NoneType_Rest
  kb_list_Rest := kb_list_Rest
  kb_tuple_Rest := kb_tuple_Rest
  kb_dict_Rest := kb_dict_Rest
  cl_Window := ⟨pg_Window, hd_Window, po_Window, sa_Window⟩
  mk_Window := ⟨mk_Window, a_Window_init, i_Window_init, kc_Window⟩
  ty_Window := ⟨⟨pg_Window, hd_Window, po_Window, sa_Window⟩, th_Window, tn_Window, tk_Window, tm_Window⟩
  kt_Window_Rest := kt_Window_Rest
  kt_Window_Window := kt_Window_Window
  kt_Window_Place := kt_Window_Place
  kt_Window_Rule := kt_Window_Rule
  su_Window := ⟨su_Window, sm_Window, sf_Window, st_Window⟩
  no_Window_text := no_Window_text
  no_Window_forms := no_Window_forms
  no_Window_period := no_Window_period
  no_Window_bend := no_Window_bend
  no_Window_width := no_Window_width
  eqf_Window := eqf_Window
  eqi_Window := eqi_Window
  nf_Window_str := nf_Window_str
  nf_Window_int := nf_Window_int
  nf_Window := nf_Window
  ktt_Window_int := ktt_Window_int
  ktt_Window_bool := ktt_Window_bool
  ktt_Window_str := ktt_Window_str
  ktt_Window_list := ktt_Window_list
  ktt_Window_tuple := ktt_Window_tuple
  ktt_Window_dict := ktt_Window_dict
  kb_int_Window := kb_int_Window
  kb_bool_Window := kb_bool_Window
  kb_str_Window := kb_str_Window
  kb_NoneType_Window := kb_NoneType_Window
  kb_list_Window := kb_list_Window
  kb_tuple_Window := kb_tuple_Window
  kb_dict_Window := kb_dict_Window
  cl_Rule := ⟨pg_Rule, hd_Rule, po_Rule, sa_Rule⟩
  mk_Rule := ⟨mk_Rule, a_Rule_init, i_Rule_init, kc_Rule⟩
  ty_Rule := ⟨⟨pg_Rule, hd_Rule, po_Rule, sa_Rule⟩, th_Rule, tn_Rule, tk_Rule, tm_Rule⟩
  kt_Rule_Rule := kt_Rule_Rule
  kt_Rule_Place := kt_Rule_Place
  kb_int_Rule := kb_int_Rule
  kb_bool_Rule := kb_bool_Rule
  kb_str_Rule := kb_str_Rule
  kb_NoneType_Rule := kb_NoneType_Rule
  kb_list_Rule := kb_list_Rule
  kb_tuple_Rule := kb_tuple_Rule
  kb_dict_Rule := kb_dict_Rule
  no_Rule_name := no_Rule_name
  no_Rule_chips := no_Rule_chips
  no_Rule_rest := no_Rule_rest
theorem tabIn_of {K : PySem.W.Frag} {x : Str} {f cda P : Addr} {oc : Value} {od : Option Addr} {fd : FuncData} {sl sl2 : Array (Option Value)} {e : Value} {dd : Option Addr} {vs : Array Value} (h1 : PySem.W.nsIn K mainGlobals x = some (some (.ref f))) (h2 : K.lookup f = some ⟨oc, od, .func fd, sl⟩)
    (h3 : fd.code = .ref cda) (h4 : K.lookup cda = some ⟨e, dd, .fields vs, sl2⟩) (h5 : vs[11]? = some (.ref P)) : PySem.W.tabIn K x = some (cda, P) := by
  unfold PySem.W.tabIn
  rw [h1]
  simp only [h2, h3, h4, h5]
abbrev TabsTold (q : Program) (K : PySem.W.Frag) (h : Heap) : Prop := ∀ (x : Str) (c P : Addr), ((recsOf q).find? fun e => e.name == x).isSome = true → PySem.W.tabIn K x = some (c, P) → PySem.W.CodeHd h c P ∧ h.get? P = some (PySem.W.tabObj #[])
theorem all_mk {q : Program} {w : World} {K : PySem.W.Frag} {h : Heap} {mg : Str → Option Value} {fa : Addr} (X : K.In h) (G : h.Ns mainGlobals mg) (hfa : mg "law" = some (.ref fa)) (tab : TabsTold q K h) (rc_so : ((recsOf q).find? fun e => e.name == ("_law_so" : Str)).isSome = true) (rc_place_so : ((recsOf q).find? fun e => e.name == ("_law_place_so" : Str)).isSome = true) {C_SureletError : Addr} {C_InvalidName : Addr} {C_InvalidRule : Addr} {C_InvalidPlace : Addr} {C_BadTree : Addr} {C_TooMany : Addr} {C_Place : Addr} {C_Tree : Addr} {C_Rest : Addr} {C_Window : Addr} {C_Rule : Addr} {A_InvalidName_init : Addr} {oc_InvalidName_init kV_InvalidName_init doc_InvalidName_init pm_InvalidName_init ct_InvalidName_init : Value} {od_InvalidName_init an_InvalidName_init : Option Addr} {sl_InvalidName_init : Array (Option Value)} {cc_InvalidName_init cda_InvalidName_init : Addr} {cl_InvalidName_init ccl_InvalidName_init : Value} {cld_InvalidName_init cdd_InvalidName_init : Option Addr} {csl_InvalidName_init ccs_InvalidName_init : Array (Option Value)} {vs_InvalidName_init : Array Value} {file_InvalidName_init : Str} {tf_InvalidName_init : Tok} {cd_InvalidName_init : PySem.ClassData} {A_InvalidRule_init : Addr} {oc_InvalidRule_init kV_InvalidRule_init doc_InvalidRule_init pm_InvalidRule_init ct_InvalidRule_init : Value} {od_InvalidRule_init an_InvalidRule_init : Option Addr} {sl_InvalidRule_init : Array (Option Value)} {cc_InvalidRule_init cda_InvalidRule_init : Addr} {cl_InvalidRule_init ccl_InvalidRule_init : Value} {cld_InvalidRule_init cdd_InvalidRule_init : Option Addr} {csl_InvalidRule_init ccs_InvalidRule_init : Array (Option Value)} {vs_InvalidRule_init : Array Value} {file_InvalidRule_init : Str} {tf_InvalidRule_init : Tok} {cd_InvalidRule_init : PySem.ClassData} {A_InvalidPlace_init : Addr} {oc_InvalidPlace_init kV_InvalidPlace_init doc_InvalidPlace_init pm_InvalidPlace_init ct_InvalidPlace_init : Value} {od_InvalidPlace_init an_InvalidPlace_init : Option Addr} {sl_InvalidPlace_init : Array (Option Value)} {cc_InvalidPlace_init cda_InvalidPlace_init : Addr} {cl_InvalidPlace_init ccl_InvalidPlace_init : Value} {cld_InvalidPlace_init cdd_InvalidPlace_init : Option Addr} {csl_InvalidPlace_init ccs_InvalidPlace_init : Array (Option Value)} {vs_InvalidPlace_init : Array Value} {file_InvalidPlace_init : Str} {tf_InvalidPlace_init : Tok} {cd_InvalidPlace_init : PySem.ClassData} {A_BadTree_init : Addr} {oc_BadTree_init kV_BadTree_init doc_BadTree_init pm_BadTree_init ct_BadTree_init : Value} {od_BadTree_init an_BadTree_init : Option Addr} {sl_BadTree_init : Array (Option Value)} {cc_BadTree_init cda_BadTree_init : Addr} {cl_BadTree_init ccl_BadTree_init : Value} {cld_BadTree_init cdd_BadTree_init : Option Addr} {csl_BadTree_init ccs_BadTree_init : Array (Option Value)} {vs_BadTree_init : Array Value} {file_BadTree_init : Str} {tf_BadTree_init : Tok} {cd_BadTree_init : PySem.ClassData} {A_TooMany_init : Addr} {oc_TooMany_init kV_TooMany_init doc_TooMany_init pm_TooMany_init ct_TooMany_init : Value} {od_TooMany_init an_TooMany_init : Option Addr} {sl_TooMany_init : Array (Option Value)} {cc_TooMany_init cda_TooMany_init : Addr} {cl_TooMany_init ccl_TooMany_init : Value} {cld_TooMany_init cdd_TooMany_init : Option Addr} {csl_TooMany_init ccs_TooMany_init : Array (Option Value)} {vs_TooMany_init : Array Value} {file_TooMany_init : Str} {tf_TooMany_init : Tok} {cd_TooMany_init : PySem.ClassData} {A_is_number : Addr} {oc_is_number kV_is_number doc_is_number pm_is_number ct_is_number : Value} {od_is_number an_is_number : Option Addr} {sl_is_number : Array (Option Value)} {cdv_is_number : Value} {A_is_name : Addr} {oc_is_name kV_is_name doc_is_name pm_is_name ct_is_name : Value} {od_is_name an_is_name : Option Addr} {sl_is_name : Array (Option Value)} {cdv_is_name : Value} {A_Rest_init : Addr} {oc_Rest_init kV_Rest_init doc_Rest_init pm_Rest_init ct_Rest_init : Value} {od_Rest_init an_Rest_init : Option Addr} {sl_Rest_init : Array (Option Value)} {cdv_Rest_init : Value} {A_Rest_eq : Addr} {oc_Rest_eq kV_Rest_eq doc_Rest_eq pm_Rest_eq ct_Rest_eq : Value} {od_Rest_eq an_Rest_eq : Option Addr} {sl_Rest_eq : Array (Option Value)} {cdv_Rest_eq : Value} {A_Window_init : Addr} {oc_Window_init kV_Window_init doc_Window_init pm_Window_init ct_Window_init : Value} {od_Window_init an_Window_init : Option Addr} {sl_Window_init : Array (Option Value)} {cc_Window_init cda_Window_init : Addr} {cl_Window_init ccl_Window_init : Value} {cld_Window_init cdd_Window_init : Option Addr} {csl_Window_init ccs_Window_init : Array (Option Value)} {vs_Window_init : Array Value} {file_Window_init : Str} {tf_Window_init : Tok} {cd_Window_init : PySem.ClassData} {A_Rule_init : Addr} {oc_Rule_init kV_Rule_init doc_Rule_init pm_Rule_init ct_Rule_init : Value} {od_Rule_init an_Rule_init : Option Addr} {sl_Rule_init : Array (Option Value)} {cdv_Rule_init : Value} {A_Place_init : Addr} {oc_Place_init doc_Place_init pm_Place_init ct_Place_init : Value} {od_Place_init an_Place_init : Option Addr} {sl_Place_init : Array (Option Value)} {cdv_Place_init : Value} {DT_Place_init : Addr} {dto_Place_init : Value} {dtd_Place_init : Option Addr} {dtn_Place_init : Nat} {dts_Place_init : Array (Option Value)} {KD_Place_init : Addr} {A_Place_eq : Addr} {oc_Place_eq kV_Place_eq doc_Place_eq pm_Place_eq ct_Place_eq : Value} {od_Place_eq an_Place_eq : Option Addr} {sl_Place_eq : Array (Option Value)} {cdv_Place_eq : Value} {A_Tree_init : Addr} {oc_Tree_init kV_Tree_init doc_Tree_init pm_Tree_init ct_Tree_init : Value} {od_Tree_init an_Tree_init : Option Addr} {sl_Tree_init : Array (Option Value)} {cdv_Tree_init : Value} {A_Tree_fits : Addr} {oc_Tree_fits kV_Tree_fits doc_Tree_fits pm_Tree_fits ct_Tree_fits : Value} {od_Tree_fits an_Tree_fits : Option Addr} {sl_Tree_fits : Array (Option Value)} {cdv_Tree_fits : Value} {A_Tree_places : Addr} {oc_Tree_places kV_Tree_places doc_Tree_places pm_Tree_places ct_Tree_places : Value} {od_Tree_places an_Tree_places : Option Addr} {sl_Tree_places : Array (Option Value)} {cdv_Tree_places : Value} {A_Tree_len : Addr} {oc_Tree_len kV_Tree_len doc_Tree_len pm_Tree_len ct_Tree_len : Value} {od_Tree_len an_Tree_len : Option Addr} {sl_Tree_len : Array (Option Value)} {cdv_Tree_len : Value} {A_bag : Addr} {oc_bag kV_bag doc_bag pm_bag ct_bag : Value} {od_bag an_bag : Option Addr} {sl_bag : Array (Option Value)} {cdv_bag : Value} {A_draw : Addr} {oc_draw kV_draw doc_draw pm_draw ct_draw : Value} {od_draw an_draw : Option Addr} {sl_draw : Array (Option Value)} {cdv_draw : Value} {A_of : Addr} {oc_of kV_of doc_of pm_of ct_of : Value} {od_of an_of : Option Addr} {sl_of : Array (Option Value)} {cdv_of : Value} {A_like : Addr} {oc_like kV_like doc_like pm_like ct_like : Value} {od_like an_like : Option Addr} {sl_like : Array (Option Value)} {cdv_like : Value} {A_odd : Addr} {oc_odd kV_odd doc_odd pm_odd ct_odd : Value} {od_odd an_odd : Option Addr} {sl_odd : Array (Option Value)} {cdv_odd : Value} {A_name : Addr} {oc_name kV_name doc_name pm_name ct_name : Value} {od_name an_name : Option Addr} {sl_name : Array (Option Value)} {cdv_name : Value} {A_names : Addr} {oc_names kV_names doc_names pm_names ct_names : Value} {od_names an_names : Option Addr} {sl_names : Array (Option Value)} {cdv_names : Value} {A_places : Addr} {oc_places kV_places doc_places pm_places ct_places : Value} {od_places an_places : Option Addr} {sl_places : Array (Option Value)} {cdv_places : Value} {A_place : Addr} {oc_place kV_place doc_place pm_place ct_place : Value} {od_place an_place : Option Addr} {sl_place : Array (Option Value)} {cdv_place : Value} {A_tree : Addr} {oc_tree kV_tree doc_tree pm_tree ct_tree : Value} {od_tree an_tree : Option Addr} {sl_tree : Array (Option Value)} {cdv_tree : Value} {A_row : Addr} {oc_row kV_row doc_row pm_row ct_row : Value} {od_row an_row : Option Addr} {sl_row : Array (Option Value)} {cdv_row : Value} {A_ask : Addr} {oc_ask kV_ask doc_ask pm_ask ct_ask : Value} {od_ask an_ask : Option Addr} {sl_ask : Array (Option Value)} {cdv_ask : Value} {A_bent : Addr} {oc_bent kV_bent doc_bent pm_bent ct_bent : Value} {od_bent an_bent : Option Addr} {sl_bent : Array (Option Value)} {cdv_bent : Value} {A_at_fault : Addr} {oc_at_fault kV_at_fault doc_at_fault pm_at_fault ct_at_fault : Value} {od_at_fault an_at_fault : Option Addr} {sl_at_fault : Array (Option Value)} {cdv_at_fault : Value} {A_due : Addr} {oc_due kV_due doc_due pm_due ct_due : Value} {od_due an_due : Option Addr} {sl_due : Array (Option Value)} {cdv_due : Value} {A_size : Addr} {oc_size kV_size doc_size pm_size ct_size : Value} {od_size an_size : Option Addr} {sl_size : Array (Option Value)} {cdv_size : Value} {A_so : Addr} {oc_so kV_so doc_so pm_so ct_so : Value} {od_so an_so : Option Addr} {sl_so : Array (Option Value)} {cda_so tb_so : Addr} {tcl_so : Value} {tcd_so : Option Addr} {tvs_so : Array Value} {tsl_so : Array (Option Value)} {A_named : Addr} {oc_named kV_named doc_named pm_named ct_named : Value} {od_named an_named : Option Addr} {sl_named : Array (Option Value)} {cdv_named : Value} {A_place_so : Addr} {oc_place_so kV_place_so doc_place_so pm_place_so ct_place_so : Value} {od_place_so an_place_so : Option Addr} {sl_place_so : Array (Option Value)} {cda_place_so tb_place_so : Addr} {tcl_place_so : Value} {tcd_place_so : Option Addr} {tvs_place_so : Array Value} {tsl_place_so : Array (Option Value)} {A_law : Addr} {oc_law kV_law doc_law pm_law ct_law : Value} {od_law an_law : Option Addr} {sl_law : Array (Option Value)} {cdv_law : Value} {t_DIGITS : Tok} {t_LETTERS : Tok} {t_PLACES : Tok} {nm_InvalidName q_InvalidName : Str} {N_InvalidName : Addr} {bs_InvalidName : List Value} {sn_InvalidName : List Str} {sb_InvalidName : List Value} {ab_InvalidName : Bool} {co_InvalidName : Option Bool} {dd_InvalidName : Option Addr} {e0_InvalidName e1_InvalidName e2_InvalidName e3_InvalidName e5_InvalidName : Option Value} {nm_InvalidRule q_InvalidRule : Str} {N_InvalidRule : Addr} {bs_InvalidRule : List Value} {sn_InvalidRule : List Str} {sb_InvalidRule : List Value} {ab_InvalidRule : Bool} {co_InvalidRule : Option Bool} {dd_InvalidRule : Option Addr} {e0_InvalidRule e1_InvalidRule e2_InvalidRule e3_InvalidRule e5_InvalidRule : Option Value} {nm_InvalidPlace q_InvalidPlace : Str} {N_InvalidPlace : Addr} {bs_InvalidPlace : List Value} {sn_InvalidPlace : List Str} {sb_InvalidPlace : List Value} {ab_InvalidPlace : Bool} {co_InvalidPlace : Option Bool} {dd_InvalidPlace : Option Addr} {e0_InvalidPlace e1_InvalidPlace e2_InvalidPlace e3_InvalidPlace e5_InvalidPlace : Option Value} {nm_BadTree q_BadTree : Str} {N_BadTree : Addr} {bs_BadTree : List Value} {sn_BadTree : List Str} {sb_BadTree : List Value} {ab_BadTree : Bool} {co_BadTree : Option Bool} {dd_BadTree : Option Addr} {e0_BadTree e1_BadTree e2_BadTree e3_BadTree e5_BadTree : Option Value} {nm_TooMany q_TooMany : Str} {N_TooMany : Addr} {bs_TooMany : List Value} {sn_TooMany : List Str} {sb_TooMany : List Value} {ab_TooMany : Bool} {co_TooMany : Option Bool} {dd_TooMany : Option Addr} {e0_TooMany e1_TooMany e2_TooMany e3_TooMany e5_TooMany : Option Value}
    (aC_SureletError : PySem.W.nsIn K mainGlobals "SureletError" = some (some (.ref C_SureletError))) (aC_InvalidName : PySem.W.nsIn K mainGlobals "InvalidName" = some (some (.ref C_InvalidName))) (aC_InvalidRule : PySem.W.nsIn K mainGlobals "InvalidRule" = some (some (.ref C_InvalidRule))) (aC_InvalidPlace : PySem.W.nsIn K mainGlobals "InvalidPlace" = some (some (.ref C_InvalidPlace))) (aC_BadTree : PySem.W.nsIn K mainGlobals "BadTree" = some (some (.ref C_BadTree))) (aC_TooMany : PySem.W.nsIn K mainGlobals "TooMany" = some (some (.ref C_TooMany))) (aC_Place : PySem.W.nsIn K mainGlobals "Place" = some (some (.ref C_Place))) (aC_Tree : PySem.W.nsIn K mainGlobals "Tree" = some (some (.ref C_Tree))) (aC_Rest : PySem.W.nsIn K mainGlobals "Rest" = some (some (.ref C_Rest))) (aC_Window : PySem.W.nsIn K mainGlobals "Window" = some (some (.ref C_Window))) (aC_Rule : PySem.W.nsIn K mainGlobals "Rule" = some (some (.ref C_Rule))) (a_InvalidName_init : PySem.W.findIn K (.ref C_InvalidName) "__init__" = some (some (.ref A_InvalidName_init))) (i_InvalidName_init : PySem.W.isFn K (.ref A_InvalidName_init) = true) (l_InvalidName_init : K.lookup A_InvalidName_init = some ⟨oc_InvalidName_init, od_InvalidName_init, .func (PySem.W.fnX "__init__" "InvalidName.__init__" (defArgs s_InvalidName_init) (defBody s_InvalidName_init) (defScope s_InvalidName_init) [("__class__", cc_InvalidName_init)] .none kV_InvalidName_init doc_InvalidName_init pm_InvalidName_init an_InvalidName_init (.ref cda_InvalidName_init) ct_InvalidName_init), sl_InvalidName_init⟩) (c_InvalidName_init : PySem.W.codeIn K (.ref cda_InvalidName_init) "InvalidName.__init__" = true) (k_InvalidName_init : PySem.W.keepIn K (.ref A_InvalidName_init) = true) (cell_InvalidName_init : K.lookup cc_InvalidName_init = some ⟨cl_InvalidName_init, cld_InvalidName_init, .cell (some (.ref C_InvalidName)), csl_InvalidName_init⟩) (code_InvalidName_init : K.lookup cda_InvalidName_init = some ⟨ccl_InvalidName_init, cdd_InvalidName_init, .fields vs_InvalidName_init, ccs_InvalidName_init⟩) (vs_InvalidName_init : vs_InvalidName_init[2]? = some (.str file_InvalidName_init tf_InvalidName_init)) (fl_InvalidName_init : ((P.main.file : Str) == file_InvalidName_init) = true) (cd_InvalidName_init : PySem.W.clsIn K C_InvalidName = some cd_InvalidName_init) (a_InvalidRule_init : PySem.W.findIn K (.ref C_InvalidRule) "__init__" = some (some (.ref A_InvalidRule_init))) (i_InvalidRule_init : PySem.W.isFn K (.ref A_InvalidRule_init) = true) (l_InvalidRule_init : K.lookup A_InvalidRule_init = some ⟨oc_InvalidRule_init, od_InvalidRule_init, .func (PySem.W.fnX "__init__" "InvalidRule.__init__" (defArgs s_InvalidRule_init) (defBody s_InvalidRule_init) (defScope s_InvalidRule_init) [("__class__", cc_InvalidRule_init)] .none kV_InvalidRule_init doc_InvalidRule_init pm_InvalidRule_init an_InvalidRule_init (.ref cda_InvalidRule_init) ct_InvalidRule_init), sl_InvalidRule_init⟩) (c_InvalidRule_init : PySem.W.codeIn K (.ref cda_InvalidRule_init) "InvalidRule.__init__" = true) (k_InvalidRule_init : PySem.W.keepIn K (.ref A_InvalidRule_init) = true) (cell_InvalidRule_init : K.lookup cc_InvalidRule_init = some ⟨cl_InvalidRule_init, cld_InvalidRule_init, .cell (some (.ref C_InvalidRule)), csl_InvalidRule_init⟩) (code_InvalidRule_init : K.lookup cda_InvalidRule_init = some ⟨ccl_InvalidRule_init, cdd_InvalidRule_init, .fields vs_InvalidRule_init, ccs_InvalidRule_init⟩) (vs_InvalidRule_init : vs_InvalidRule_init[2]? = some (.str file_InvalidRule_init tf_InvalidRule_init)) (fl_InvalidRule_init : ((P.main.file : Str) == file_InvalidRule_init) = true) (cd_InvalidRule_init : PySem.W.clsIn K C_InvalidRule = some cd_InvalidRule_init) (a_InvalidPlace_init : PySem.W.findIn K (.ref C_InvalidPlace) "__init__" = some (some (.ref A_InvalidPlace_init))) (i_InvalidPlace_init : PySem.W.isFn K (.ref A_InvalidPlace_init) = true) (l_InvalidPlace_init : K.lookup A_InvalidPlace_init = some ⟨oc_InvalidPlace_init, od_InvalidPlace_init, .func (PySem.W.fnX "__init__" "InvalidPlace.__init__" (defArgs s_InvalidPlace_init) (defBody s_InvalidPlace_init) (defScope s_InvalidPlace_init) [("__class__", cc_InvalidPlace_init)] .none kV_InvalidPlace_init doc_InvalidPlace_init pm_InvalidPlace_init an_InvalidPlace_init (.ref cda_InvalidPlace_init) ct_InvalidPlace_init), sl_InvalidPlace_init⟩) (c_InvalidPlace_init : PySem.W.codeIn K (.ref cda_InvalidPlace_init) "InvalidPlace.__init__" = true) (k_InvalidPlace_init : PySem.W.keepIn K (.ref A_InvalidPlace_init) = true) (cell_InvalidPlace_init : K.lookup cc_InvalidPlace_init = some ⟨cl_InvalidPlace_init, cld_InvalidPlace_init, .cell (some (.ref C_InvalidPlace)), csl_InvalidPlace_init⟩) (code_InvalidPlace_init : K.lookup cda_InvalidPlace_init = some ⟨ccl_InvalidPlace_init, cdd_InvalidPlace_init, .fields vs_InvalidPlace_init, ccs_InvalidPlace_init⟩) (vs_InvalidPlace_init : vs_InvalidPlace_init[2]? = some (.str file_InvalidPlace_init tf_InvalidPlace_init)) (fl_InvalidPlace_init : ((P.main.file : Str) == file_InvalidPlace_init) = true) (cd_InvalidPlace_init : PySem.W.clsIn K C_InvalidPlace = some cd_InvalidPlace_init) (a_BadTree_init : PySem.W.findIn K (.ref C_BadTree) "__init__" = some (some (.ref A_BadTree_init))) (i_BadTree_init : PySem.W.isFn K (.ref A_BadTree_init) = true) (l_BadTree_init : K.lookup A_BadTree_init = some ⟨oc_BadTree_init, od_BadTree_init, .func (PySem.W.fnX "__init__" "BadTree.__init__" (defArgs s_BadTree_init) (defBody s_BadTree_init) (defScope s_BadTree_init) [("__class__", cc_BadTree_init)] .none kV_BadTree_init doc_BadTree_init pm_BadTree_init an_BadTree_init (.ref cda_BadTree_init) ct_BadTree_init), sl_BadTree_init⟩) (c_BadTree_init : PySem.W.codeIn K (.ref cda_BadTree_init) "BadTree.__init__" = true) (k_BadTree_init : PySem.W.keepIn K (.ref A_BadTree_init) = true) (cell_BadTree_init : K.lookup cc_BadTree_init = some ⟨cl_BadTree_init, cld_BadTree_init, .cell (some (.ref C_BadTree)), csl_BadTree_init⟩) (code_BadTree_init : K.lookup cda_BadTree_init = some ⟨ccl_BadTree_init, cdd_BadTree_init, .fields vs_BadTree_init, ccs_BadTree_init⟩) (vs_BadTree_init : vs_BadTree_init[2]? = some (.str file_BadTree_init tf_BadTree_init)) (fl_BadTree_init : ((P.main.file : Str) == file_BadTree_init) = true) (cd_BadTree_init : PySem.W.clsIn K C_BadTree = some cd_BadTree_init) (a_TooMany_init : PySem.W.findIn K (.ref C_TooMany) "__init__" = some (some (.ref A_TooMany_init))) (i_TooMany_init : PySem.W.isFn K (.ref A_TooMany_init) = true) (l_TooMany_init : K.lookup A_TooMany_init = some ⟨oc_TooMany_init, od_TooMany_init, .func (PySem.W.fnX "__init__" "TooMany.__init__" (defArgs s_TooMany_init) (defBody s_TooMany_init) (defScope s_TooMany_init) [("__class__", cc_TooMany_init)] .none kV_TooMany_init doc_TooMany_init pm_TooMany_init an_TooMany_init (.ref cda_TooMany_init) ct_TooMany_init), sl_TooMany_init⟩) (c_TooMany_init : PySem.W.codeIn K (.ref cda_TooMany_init) "TooMany.__init__" = true) (k_TooMany_init : PySem.W.keepIn K (.ref A_TooMany_init) = true) (cell_TooMany_init : K.lookup cc_TooMany_init = some ⟨cl_TooMany_init, cld_TooMany_init, .cell (some (.ref C_TooMany)), csl_TooMany_init⟩) (code_TooMany_init : K.lookup cda_TooMany_init = some ⟨ccl_TooMany_init, cdd_TooMany_init, .fields vs_TooMany_init, ccs_TooMany_init⟩) (vs_TooMany_init : vs_TooMany_init[2]? = some (.str file_TooMany_init tf_TooMany_init)) (fl_TooMany_init : ((P.main.file : Str) == file_TooMany_init) = true) (cd_TooMany_init : PySem.W.clsIn K C_TooMany = some cd_TooMany_init) (a_is_number : PySem.W.nsIn K mainGlobals "is_number" = some (some (.ref A_is_number))) (l_is_number : K.lookup A_is_number = some ⟨oc_is_number, od_is_number, .func (PySem.W.fnOf "is_number" "is_number" (defArgs s_is_number) (defBody s_is_number) (defScope s_is_number) .none kV_is_number doc_is_number pm_is_number an_is_number cdv_is_number ct_is_number), sl_is_number⟩) (c_is_number : PySem.W.codeIn K cdv_is_number "is_number" = true) (k_is_number : PySem.W.keepIn K (.ref A_is_number) = true) (a_is_name : PySem.W.nsIn K mainGlobals "is_name" = some (some (.ref A_is_name))) (l_is_name : K.lookup A_is_name = some ⟨oc_is_name, od_is_name, .func (PySem.W.fnOf "is_name" "is_name" (defArgs s_is_name) (defBody s_is_name) (defScope s_is_name) .none kV_is_name doc_is_name pm_is_name an_is_name cdv_is_name ct_is_name), sl_is_name⟩) (c_is_name : PySem.W.codeIn K cdv_is_name "is_name" = true) (k_is_name : PySem.W.keepIn K (.ref A_is_name) = true) (a_Rest_init : PySem.W.findIn K (.ref C_Rest) "__init__" = some (some (.ref A_Rest_init))) (i_Rest_init : PySem.W.isFn K (.ref A_Rest_init) = true) (l_Rest_init : K.lookup A_Rest_init = some ⟨oc_Rest_init, od_Rest_init, .func (PySem.W.fnOf "__init__" "Rest.__init__" (defArgs s_Rest_init) (defBody s_Rest_init) (defScope s_Rest_init) .none kV_Rest_init doc_Rest_init pm_Rest_init an_Rest_init cdv_Rest_init ct_Rest_init), sl_Rest_init⟩) (c_Rest_init : PySem.W.codeIn K cdv_Rest_init "Rest.__init__" = true) (k_Rest_init : PySem.W.keepIn K (.ref A_Rest_init) = true) (a_Rest_eq : PySem.W.findIn K (.ref C_Rest) "__eq__" = some (some (.ref A_Rest_eq))) (i_Rest_eq : PySem.W.isFn K (.ref A_Rest_eq) = true) (l_Rest_eq : K.lookup A_Rest_eq = some ⟨oc_Rest_eq, od_Rest_eq, .func (PySem.W.fnOf "__eq__" "Rest.__eq__" (defArgs s_Rest_eq) (defBody s_Rest_eq) (defScope s_Rest_eq) .none kV_Rest_eq doc_Rest_eq pm_Rest_eq an_Rest_eq cdv_Rest_eq ct_Rest_eq), sl_Rest_eq⟩) (c_Rest_eq : PySem.W.codeIn K cdv_Rest_eq "Rest.__eq__" = true) (k_Rest_eq : PySem.W.keepIn K (.ref A_Rest_eq) = true) (a_Window_init : PySem.W.findIn K (.ref C_Window) "__init__" = some (some (.ref A_Window_init))) (i_Window_init : PySem.W.isFn K (.ref A_Window_init) = true) (l_Window_init : K.lookup A_Window_init = some ⟨oc_Window_init, od_Window_init, .func (PySem.W.fnX "__init__" "Window.__init__" (defArgs s_Window_init) (defBody s_Window_init) (defScope s_Window_init) [("__class__", cc_Window_init)] .none kV_Window_init doc_Window_init pm_Window_init an_Window_init (.ref cda_Window_init) ct_Window_init), sl_Window_init⟩) (c_Window_init : PySem.W.codeIn K (.ref cda_Window_init) "Window.__init__" = true) (k_Window_init : PySem.W.keepIn K (.ref A_Window_init) = true) (cell_Window_init : K.lookup cc_Window_init = some ⟨cl_Window_init, cld_Window_init, .cell (some (.ref C_Window)), csl_Window_init⟩) (code_Window_init : K.lookup cda_Window_init = some ⟨ccl_Window_init, cdd_Window_init, .fields vs_Window_init, ccs_Window_init⟩) (vs_Window_init : vs_Window_init[2]? = some (.str file_Window_init tf_Window_init)) (fl_Window_init : ((P.main.file : Str) == file_Window_init) = true) (cd_Window_init : PySem.W.clsIn K C_Window = some cd_Window_init) (a_Rule_init : PySem.W.findIn K (.ref C_Rule) "__init__" = some (some (.ref A_Rule_init))) (i_Rule_init : PySem.W.isFn K (.ref A_Rule_init) = true) (l_Rule_init : K.lookup A_Rule_init = some ⟨oc_Rule_init, od_Rule_init, .func (PySem.W.fnOf "__init__" "Rule.__init__" (defArgs s_Rule_init) (defBody s_Rule_init) (defScope s_Rule_init) .none kV_Rule_init doc_Rule_init pm_Rule_init an_Rule_init cdv_Rule_init ct_Rule_init), sl_Rule_init⟩) (c_Rule_init : PySem.W.codeIn K cdv_Rule_init "Rule.__init__" = true) (k_Rule_init : PySem.W.keepIn K (.ref A_Rule_init) = true) (a_Place_init : PySem.W.findIn K (.ref C_Place) "__init__" = some (some (.ref A_Place_init))) (i_Place_init : PySem.W.isFn K (.ref A_Place_init) = true) (l_Place_init : K.lookup A_Place_init = some ⟨oc_Place_init, od_Place_init, .func (PySem.W.fnOf "__init__" "Place.__init__" (defArgs s_Place_init) (defBody s_Place_init) (defScope s_Place_init) (.ref DT_Place_init) (.ref KD_Place_init) doc_Place_init pm_Place_init an_Place_init cdv_Place_init ct_Place_init), sl_Place_init⟩) (c_Place_init : PySem.W.codeIn K cdv_Place_init "Place.__init__" = true) (k_Place_init : PySem.W.keepIn K (.ref A_Place_init) = true) (dt_Place_init : K.lookup DT_Place_init = some ⟨dto_Place_init, dtd_Place_init, .seq #[.none] dtn_Place_init, dts_Place_init⟩) (kd_Place_init_memory : PySem.W.nsIn K KD_Place_init "memory" = some (some (.bool false))) (kd_Place_init_customer : PySem.W.nsIn K KD_Place_init "customer" = some (some (.none))) (a_Place_eq : PySem.W.findIn K (.ref C_Place) "__eq__" = some (some (.ref A_Place_eq))) (i_Place_eq : PySem.W.isFn K (.ref A_Place_eq) = true) (l_Place_eq : K.lookup A_Place_eq = some ⟨oc_Place_eq, od_Place_eq, .func (PySem.W.fnOf "__eq__" "Place.__eq__" (defArgs s_Place_eq) (defBody s_Place_eq) (defScope s_Place_eq) .none kV_Place_eq doc_Place_eq pm_Place_eq an_Place_eq cdv_Place_eq ct_Place_eq), sl_Place_eq⟩) (c_Place_eq : PySem.W.codeIn K cdv_Place_eq "Place.__eq__" = true) (k_Place_eq : PySem.W.keepIn K (.ref A_Place_eq) = true) (a_Tree_init : PySem.W.findIn K (.ref C_Tree) "__init__" = some (some (.ref A_Tree_init))) (i_Tree_init : PySem.W.isFn K (.ref A_Tree_init) = true) (l_Tree_init : K.lookup A_Tree_init = some ⟨oc_Tree_init, od_Tree_init, .func (PySem.W.fnOf "__init__" "Tree.__init__" (defArgs s_Tree_init) (defBody s_Tree_init) (defScope s_Tree_init) .none kV_Tree_init doc_Tree_init pm_Tree_init an_Tree_init cdv_Tree_init ct_Tree_init), sl_Tree_init⟩) (c_Tree_init : PySem.W.codeIn K cdv_Tree_init "Tree.__init__" = true) (k_Tree_init : PySem.W.keepIn K (.ref A_Tree_init) = true) (a_Tree_fits : PySem.W.findIn K (.ref C_Tree) "_fits" = some (some (.ref A_Tree_fits))) (i_Tree_fits : PySem.W.isFn K (.ref A_Tree_fits) = true) (l_Tree_fits : K.lookup A_Tree_fits = some ⟨oc_Tree_fits, od_Tree_fits, .func (PySem.W.fnOf "_fits" "Tree._fits" (defArgs s_Tree_fits) (defBody s_Tree_fits) (defScope s_Tree_fits) .none kV_Tree_fits doc_Tree_fits pm_Tree_fits an_Tree_fits cdv_Tree_fits ct_Tree_fits), sl_Tree_fits⟩) (c_Tree_fits : PySem.W.codeIn K cdv_Tree_fits "Tree._fits" = true) (k_Tree_fits : PySem.W.keepIn K (.ref A_Tree_fits) = true) (a_Tree_places : PySem.W.findIn K (.ref C_Tree) "places" = some (some (.ref A_Tree_places))) (i_Tree_places : PySem.W.isFn K (.ref A_Tree_places) = true) (l_Tree_places : K.lookup A_Tree_places = some ⟨oc_Tree_places, od_Tree_places, .func (PySem.W.fnOf "places" "Tree.places" (defArgs s_Tree_places) (defBody s_Tree_places) (defScope s_Tree_places) .none kV_Tree_places doc_Tree_places pm_Tree_places an_Tree_places cdv_Tree_places ct_Tree_places), sl_Tree_places⟩) (c_Tree_places : PySem.W.codeIn K cdv_Tree_places "Tree.places" = true) (k_Tree_places : PySem.W.keepIn K (.ref A_Tree_places) = true) (a_Tree_len : PySem.W.findIn K (.ref C_Tree) "__len__" = some (some (.ref A_Tree_len))) (i_Tree_len : PySem.W.isFn K (.ref A_Tree_len) = true) (l_Tree_len : K.lookup A_Tree_len = some ⟨oc_Tree_len, od_Tree_len, .func (PySem.W.fnOf "__len__" "Tree.__len__" (defArgs s_Tree_len) (defBody s_Tree_len) (defScope s_Tree_len) .none kV_Tree_len doc_Tree_len pm_Tree_len an_Tree_len cdv_Tree_len ct_Tree_len), sl_Tree_len⟩) (c_Tree_len : PySem.W.codeIn K cdv_Tree_len "Tree.__len__" = true) (k_Tree_len : PySem.W.keepIn K (.ref A_Tree_len) = true) (a_bag : PySem.W.nsIn K mainGlobals "_law_bag" = some (some (.ref A_bag))) (l_bag : K.lookup A_bag = some ⟨oc_bag, od_bag, .func (PySem.W.fnOf "_law_bag" "_law_bag" (defArgs s_bag) (defBody s_bag) (defScope s_bag) .none kV_bag doc_bag pm_bag an_bag cdv_bag ct_bag), sl_bag⟩) (c_bag : PySem.W.codeIn K cdv_bag "_law_bag" = true) (k_bag : PySem.W.keepIn K (.ref A_bag) = true) (a_draw : PySem.W.nsIn K mainGlobals "_law_draw" = some (some (.ref A_draw))) (l_draw : K.lookup A_draw = some ⟨oc_draw, od_draw, .func (PySem.W.fnOf "_law_draw" "_law_draw" (defArgs s_draw) (defBody s_draw) (defScope s_draw) .none kV_draw doc_draw pm_draw an_draw cdv_draw ct_draw), sl_draw⟩) (c_draw : PySem.W.codeIn K cdv_draw "_law_draw" = true) (k_draw : PySem.W.keepIn K (.ref A_draw) = true) (a_of : PySem.W.nsIn K mainGlobals "_law_of" = some (some (.ref A_of))) (l_of : K.lookup A_of = some ⟨oc_of, od_of, .func (PySem.W.fnOf "_law_of" "_law_of" (defArgs s_of) (defBody s_of) (defScope s_of) .none kV_of doc_of pm_of an_of cdv_of ct_of), sl_of⟩) (c_of : PySem.W.codeIn K cdv_of "_law_of" = true) (k_of : PySem.W.keepIn K (.ref A_of) = true) (a_like : PySem.W.nsIn K mainGlobals "_law_like" = some (some (.ref A_like))) (l_like : K.lookup A_like = some ⟨oc_like, od_like, .func (PySem.W.fnOf "_law_like" "_law_like" (defArgs s_like) (defBody s_like) (defScope s_like) .none kV_like doc_like pm_like an_like cdv_like ct_like), sl_like⟩) (c_like : PySem.W.codeIn K cdv_like "_law_like" = true) (k_like : PySem.W.keepIn K (.ref A_like) = true) (a_odd : PySem.W.nsIn K mainGlobals "_law_odd" = some (some (.ref A_odd))) (l_odd : K.lookup A_odd = some ⟨oc_odd, od_odd, .func (PySem.W.fnOf "_law_odd" "_law_odd" (defArgs s_odd) (defBody s_odd) (defScope s_odd) .none kV_odd doc_odd pm_odd an_odd cdv_odd ct_odd), sl_odd⟩) (c_odd : PySem.W.codeIn K cdv_odd "_law_odd" = true) (k_odd : PySem.W.keepIn K (.ref A_odd) = true) (a_name : PySem.W.nsIn K mainGlobals "_law_name" = some (some (.ref A_name))) (l_name : K.lookup A_name = some ⟨oc_name, od_name, .func (PySem.W.fnOf "_law_name" "_law_name" (defArgs s_name) (defBody s_name) (defScope s_name) .none kV_name doc_name pm_name an_name cdv_name ct_name), sl_name⟩) (c_name : PySem.W.codeIn K cdv_name "_law_name" = true) (k_name : PySem.W.keepIn K (.ref A_name) = true) (a_names : PySem.W.nsIn K mainGlobals "_law_names" = some (some (.ref A_names))) (l_names : K.lookup A_names = some ⟨oc_names, od_names, .func (PySem.W.fnOf "_law_names" "_law_names" (defArgs s_names) (defBody s_names) (defScope s_names) .none kV_names doc_names pm_names an_names cdv_names ct_names), sl_names⟩) (c_names : PySem.W.codeIn K cdv_names "_law_names" = true) (k_names : PySem.W.keepIn K (.ref A_names) = true) (a_places : PySem.W.nsIn K mainGlobals "_law_places" = some (some (.ref A_places))) (l_places : K.lookup A_places = some ⟨oc_places, od_places, .func (PySem.W.fnOf "_law_places" "_law_places" (defArgs s_places) (defBody s_places) (defScope s_places) .none kV_places doc_places pm_places an_places cdv_places ct_places), sl_places⟩) (c_places : PySem.W.codeIn K cdv_places "_law_places" = true) (k_places : PySem.W.keepIn K (.ref A_places) = true) (a_place : PySem.W.nsIn K mainGlobals "_law_place" = some (some (.ref A_place))) (l_place : K.lookup A_place = some ⟨oc_place, od_place, .func (PySem.W.fnOf "_law_place" "_law_place" (defArgs s_place) (defBody s_place) (defScope s_place) .none kV_place doc_place pm_place an_place cdv_place ct_place), sl_place⟩) (c_place : PySem.W.codeIn K cdv_place "_law_place" = true) (k_place : PySem.W.keepIn K (.ref A_place) = true) (a_tree : PySem.W.nsIn K mainGlobals "_law_tree" = some (some (.ref A_tree))) (l_tree : K.lookup A_tree = some ⟨oc_tree, od_tree, .func (PySem.W.fnOf "_law_tree" "_law_tree" (defArgs s_tree) (defBody s_tree) (defScope s_tree) .none kV_tree doc_tree pm_tree an_tree cdv_tree ct_tree), sl_tree⟩) (c_tree : PySem.W.codeIn K cdv_tree "_law_tree" = true) (k_tree : PySem.W.keepIn K (.ref A_tree) = true) (a_row : PySem.W.nsIn K mainGlobals "_law_row" = some (some (.ref A_row))) (l_row : K.lookup A_row = some ⟨oc_row, od_row, .func (PySem.W.fnOf "_law_row" "_law_row" (defArgs s_row) (defBody s_row) (defScope s_row) .none kV_row doc_row pm_row an_row cdv_row ct_row), sl_row⟩) (c_row : PySem.W.codeIn K cdv_row "_law_row" = true) (k_row : PySem.W.keepIn K (.ref A_row) = true) (a_ask : PySem.W.nsIn K mainGlobals "_law_ask" = some (some (.ref A_ask))) (l_ask : K.lookup A_ask = some ⟨oc_ask, od_ask, .func (PySem.W.fnOf "_law_ask" "_law_ask" (defArgs s_ask) (defBody s_ask) (defScope s_ask) .none kV_ask doc_ask pm_ask an_ask cdv_ask ct_ask), sl_ask⟩) (c_ask : PySem.W.codeIn K cdv_ask "_law_ask" = true) (k_ask : PySem.W.keepIn K (.ref A_ask) = true) (a_bent : PySem.W.nsIn K mainGlobals "_law_bent" = some (some (.ref A_bent))) (l_bent : K.lookup A_bent = some ⟨oc_bent, od_bent, .func (PySem.W.fnOf "_law_bent" "_law_bent" (defArgs s_bent) (defBody s_bent) (defScope s_bent) .none kV_bent doc_bent pm_bent an_bent cdv_bent ct_bent), sl_bent⟩) (c_bent : PySem.W.codeIn K cdv_bent "_law_bent" = true) (k_bent : PySem.W.keepIn K (.ref A_bent) = true) (a_at_fault : PySem.W.nsIn K mainGlobals "_law_at_fault" = some (some (.ref A_at_fault))) (l_at_fault : K.lookup A_at_fault = some ⟨oc_at_fault, od_at_fault, .func (PySem.W.fnOf "_law_at_fault" "_law_at_fault" (defArgs s_at_fault) (defBody s_at_fault) (defScope s_at_fault) .none kV_at_fault doc_at_fault pm_at_fault an_at_fault cdv_at_fault ct_at_fault), sl_at_fault⟩) (c_at_fault : PySem.W.codeIn K cdv_at_fault "_law_at_fault" = true) (k_at_fault : PySem.W.keepIn K (.ref A_at_fault) = true) (a_due : PySem.W.nsIn K mainGlobals "_law_due" = some (some (.ref A_due))) (l_due : K.lookup A_due = some ⟨oc_due, od_due, .func (PySem.W.fnOf "_law_due" "_law_due" (defArgs s_due) (defBody s_due) (defScope s_due) .none kV_due doc_due pm_due an_due cdv_due ct_due), sl_due⟩) (c_due : PySem.W.codeIn K cdv_due "_law_due" = true) (k_due : PySem.W.keepIn K (.ref A_due) = true) (a_size : PySem.W.nsIn K mainGlobals "_law_size" = some (some (.ref A_size))) (l_size : K.lookup A_size = some ⟨oc_size, od_size, .func (PySem.W.fnOf "_law_size" "_law_size" (defArgs s_size) (defBody s_size) (defScope s_size) .none kV_size doc_size pm_size an_size cdv_size ct_size), sl_size⟩) (c_size : PySem.W.codeIn K cdv_size "_law_size" = true) (k_size : PySem.W.keepIn K (.ref A_size) = true) (a_so : PySem.W.nsIn K mainGlobals "_law_so" = some (some (.ref A_so))) (l_so : K.lookup A_so = some ⟨oc_so, od_so, .func (PySem.W.fnOf "_law_so" "_law_so" (defArgs s_so) (defBody s_so) (defScope s_so) .none kV_so doc_so pm_so an_so (.ref cda_so) ct_so), sl_so⟩) (c_so : PySem.W.codeIn K (.ref cda_so) "_law_so" = true) (k_so : PySem.W.keepIn K (.ref A_so) = true) (td_so : K.lookup cda_so = some ⟨tcl_so, tcd_so, .fields tvs_so, tsl_so⟩) (tp_so : tvs_so[11]? = some (.ref tb_so)) (tn_so : K.lookup tb_so = none) (a_named : PySem.W.nsIn K mainGlobals "_law_named" = some (some (.ref A_named))) (l_named : K.lookup A_named = some ⟨oc_named, od_named, .func (PySem.W.fnOf "_law_named" "_law_named" (defArgs s_named) (defBody s_named) (defScope s_named) .none kV_named doc_named pm_named an_named cdv_named ct_named), sl_named⟩) (c_named : PySem.W.codeIn K cdv_named "_law_named" = true) (k_named : PySem.W.keepIn K (.ref A_named) = true) (a_place_so : PySem.W.nsIn K mainGlobals "_law_place_so" = some (some (.ref A_place_so))) (l_place_so : K.lookup A_place_so = some ⟨oc_place_so, od_place_so, .func (PySem.W.fnOf "_law_place_so" "_law_place_so" (defArgs s_place_so) (defBody s_place_so) (defScope s_place_so) .none kV_place_so doc_place_so pm_place_so an_place_so (.ref cda_place_so) ct_place_so), sl_place_so⟩) (c_place_so : PySem.W.codeIn K (.ref cda_place_so) "_law_place_so" = true) (k_place_so : PySem.W.keepIn K (.ref A_place_so) = true) (td_place_so : K.lookup cda_place_so = some ⟨tcl_place_so, tcd_place_so, .fields tvs_place_so, tsl_place_so⟩) (tp_place_so : tvs_place_so[11]? = some (.ref tb_place_so)) (tn_place_so : K.lookup tb_place_so = none) (a_law : PySem.W.nsIn K mainGlobals "law" = some (some (.ref A_law))) (l_law : K.lookup A_law = some ⟨oc_law, od_law, .func (PySem.W.fnOf "law" "law" (defArgs s_law) (defBody s_law) (defScope s_law) .none kV_law doc_law pm_law an_law cdv_law ct_law), sl_law⟩) (c_law : PySem.W.codeIn K cdv_law "law" = true) (k_law : PySem.W.keepIn K (.ref A_law) = true) (tne_so_place_so : tb_so ≠ tb_place_so) (top_super : (P.main.scope.names.lookup ("super" : Str)).isSome = false) (st_thirdparty : PySem.W.nsIn K cStatics "thirdparty.any" = some none) (z_all : PySem.W.nsIn K mainGlobals "all" = some none) (z_bool : PySem.W.nsIn K mainGlobals "bool" = some none) (z_dict : PySem.W.nsIn K mainGlobals "dict" = some none) (z_enumerate : PySem.W.nsIn K mainGlobals "enumerate" = some none) (z_int : PySem.W.nsIn K mainGlobals "int" = some none) (z_isinstance : PySem.W.nsIn K mainGlobals "isinstance" = some none) (z_len : PySem.W.nsIn K mainGlobals "len" = some none) (z_list : PySem.W.nsIn K mainGlobals "list" = some none) (z_min : PySem.W.nsIn K mainGlobals "min" = some none) (z_range : PySem.W.nsIn K mainGlobals "range" = some none) (z_str : PySem.W.nsIn K mainGlobals "str" = some none) (z_super : PySem.W.nsIn K mainGlobals "super" = some none) (z_tuple : PySem.W.nsIn K mainGlobals "tuple" = some none) (z_zip : PySem.W.nsIn K mainGlobals "zip" = some none) (ac_DIGITS : PySem.W.nsIn K mainGlobals "DIGITS" = some (some (.str "0123456789" t_DIGITS))) (ac_LETTERS : PySem.W.nsIn K mainGlobals "LETTERS" = some (some (.str "abcdefghijklmnopqrstuvwxyz" t_LETTERS))) (ac_PLACES : PySem.W.nsIn K mainGlobals "PLACES" = some (some (.int 24 t_PLACES))) (el_InvalidName : K.lookup C_InvalidName = some (excClassObj nm_InvalidName q_InvalidName C_InvalidName N_InvalidName bs_InvalidName [.ref C_SureletError, .type "ValueError", .type "Exception", .type "BaseException", .type "object"] true sn_InvalidName sb_InvalidName ab_InvalidName co_InvalidName dd_InvalidName e0_InvalidName e1_InvalidName e2_InvalidName e3_InvalidName e5_InvalidName "ValueError.__new__")) (es_InvalidName : PySem.W.findIn K (.ref C_InvalidName) "__setattr__" = some (some (.builtin "object.__setattr__"))) (eb_InvalidName : PySem.W.subIn K (.ref C_InvalidName) (.type "BaseException") = some true) (et_InvalidName : PySem.W.typeIn K (.ref C_InvalidName) = some (.type "type")) (ek_InvalidName : PySem.W.keepIn K (.ref C_InvalidName) = true) (em_InvalidName : PySem.W.mroIn K C_InvalidName (.ref C_InvalidName) = some true) (eu_InvalidName : PySem.W.ks_superIn K C_InvalidName C_InvalidName "__init__" = some (some (.builtin "ValueError.__init__"))) (ev_InvalidName : PySem.W.subIn K (.ref C_InvalidName) (.type "ValueError") = some true) (ega_InvalidName : PySem.W.findIn K (.ref C_InvalidName) "__getattribute__" = some (some (.builtin "BaseException.__getattribute__"))) (egg_InvalidName : PySem.W.findIn K (.ref C_InvalidName) "__getattr__" = some none) (ehd_InvalidName : PySem.W.hasDictIn K C_InvalidName = true) (eti_InvalidName : PySem.W.typeIn K (.ref A_InvalidName_init) = some (.type "function")) (xb_InvalidName_InvalidName : PySem.W.subIn K (.ref C_InvalidName) (.type "BaseException") = some true) (xi_InvalidName_InvalidName : PySem.W.isClsIn K C_InvalidName = true) (xt_InvalidName_InvalidName : PySem.W.typeIn K (.ref C_InvalidName) = some (.type "type")) (xs_InvalidName_InvalidName : PySem.W.subIn K (.ref C_InvalidName) (.ref C_InvalidName) = some true) (no_InvalidName_value : PySem.W.findIn K (.ref C_InvalidName) "value" = some none) (no_InvalidName_code : PySem.W.findIn K (.ref C_InvalidName) "code" = some none) (el_InvalidRule : K.lookup C_InvalidRule = some (excClassObj nm_InvalidRule q_InvalidRule C_InvalidRule N_InvalidRule bs_InvalidRule [.ref C_SureletError, .type "ValueError", .type "Exception", .type "BaseException", .type "object"] true sn_InvalidRule sb_InvalidRule ab_InvalidRule co_InvalidRule dd_InvalidRule e0_InvalidRule e1_InvalidRule e2_InvalidRule e3_InvalidRule e5_InvalidRule "ValueError.__new__")) (es_InvalidRule : PySem.W.findIn K (.ref C_InvalidRule) "__setattr__" = some (some (.builtin "object.__setattr__"))) (eb_InvalidRule : PySem.W.subIn K (.ref C_InvalidRule) (.type "BaseException") = some true) (et_InvalidRule : PySem.W.typeIn K (.ref C_InvalidRule) = some (.type "type")) (ek_InvalidRule : PySem.W.keepIn K (.ref C_InvalidRule) = true) (em_InvalidRule : PySem.W.mroIn K C_InvalidRule (.ref C_InvalidRule) = some true) (eu_InvalidRule : PySem.W.ks_superIn K C_InvalidRule C_InvalidRule "__init__" = some (some (.builtin "ValueError.__init__"))) (ev_InvalidRule : PySem.W.subIn K (.ref C_InvalidRule) (.type "ValueError") = some true) (ega_InvalidRule : PySem.W.findIn K (.ref C_InvalidRule) "__getattribute__" = some (some (.builtin "BaseException.__getattribute__"))) (egg_InvalidRule : PySem.W.findIn K (.ref C_InvalidRule) "__getattr__" = some none) (ehd_InvalidRule : PySem.W.hasDictIn K C_InvalidRule = true) (eti_InvalidRule : PySem.W.typeIn K (.ref A_InvalidRule_init) = some (.type "function")) (xb_InvalidRule_InvalidName : PySem.W.subIn K (.ref C_InvalidName) (.type "BaseException") = some true) (xi_InvalidRule_InvalidName : PySem.W.isClsIn K C_InvalidName = true) (xt_InvalidRule_InvalidName : PySem.W.typeIn K (.ref C_InvalidName) = some (.type "type")) (xs_InvalidRule_InvalidName : PySem.W.subIn K (.ref C_InvalidRule) (.ref C_InvalidName) = some false) (xb_InvalidRule_InvalidRule : PySem.W.subIn K (.ref C_InvalidRule) (.type "BaseException") = some true) (xi_InvalidRule_InvalidRule : PySem.W.isClsIn K C_InvalidRule = true) (xt_InvalidRule_InvalidRule : PySem.W.typeIn K (.ref C_InvalidRule) = some (.type "type")) (xs_InvalidRule_InvalidRule : PySem.W.subIn K (.ref C_InvalidRule) (.ref C_InvalidRule) = some true) (no_InvalidRule_value : PySem.W.findIn K (.ref C_InvalidRule) "value" = some none) (no_InvalidRule_code : PySem.W.findIn K (.ref C_InvalidRule) "code" = some none) (el_InvalidPlace : K.lookup C_InvalidPlace = some (excClassObj nm_InvalidPlace q_InvalidPlace C_InvalidPlace N_InvalidPlace bs_InvalidPlace [.ref C_SureletError, .type "ValueError", .type "Exception", .type "BaseException", .type "object"] true sn_InvalidPlace sb_InvalidPlace ab_InvalidPlace co_InvalidPlace dd_InvalidPlace e0_InvalidPlace e1_InvalidPlace e2_InvalidPlace e3_InvalidPlace e5_InvalidPlace "ValueError.__new__")) (es_InvalidPlace : PySem.W.findIn K (.ref C_InvalidPlace) "__setattr__" = some (some (.builtin "object.__setattr__"))) (eb_InvalidPlace : PySem.W.subIn K (.ref C_InvalidPlace) (.type "BaseException") = some true) (et_InvalidPlace : PySem.W.typeIn K (.ref C_InvalidPlace) = some (.type "type")) (ek_InvalidPlace : PySem.W.keepIn K (.ref C_InvalidPlace) = true) (em_InvalidPlace : PySem.W.mroIn K C_InvalidPlace (.ref C_InvalidPlace) = some true) (eu_InvalidPlace : PySem.W.ks_superIn K C_InvalidPlace C_InvalidPlace "__init__" = some (some (.builtin "ValueError.__init__"))) (ev_InvalidPlace : PySem.W.subIn K (.ref C_InvalidPlace) (.type "ValueError") = some true) (ega_InvalidPlace : PySem.W.findIn K (.ref C_InvalidPlace) "__getattribute__" = some (some (.builtin "BaseException.__getattribute__"))) (egg_InvalidPlace : PySem.W.findIn K (.ref C_InvalidPlace) "__getattr__" = some none) (ehd_InvalidPlace : PySem.W.hasDictIn K C_InvalidPlace = true) (eti_InvalidPlace : PySem.W.typeIn K (.ref A_InvalidPlace_init) = some (.type "function")) (xb_InvalidPlace_InvalidName : PySem.W.subIn K (.ref C_InvalidName) (.type "BaseException") = some true) (xi_InvalidPlace_InvalidName : PySem.W.isClsIn K C_InvalidName = true) (xt_InvalidPlace_InvalidName : PySem.W.typeIn K (.ref C_InvalidName) = some (.type "type")) (xs_InvalidPlace_InvalidName : PySem.W.subIn K (.ref C_InvalidPlace) (.ref C_InvalidName) = some false) (xb_InvalidPlace_InvalidRule : PySem.W.subIn K (.ref C_InvalidRule) (.type "BaseException") = some true) (xi_InvalidPlace_InvalidRule : PySem.W.isClsIn K C_InvalidRule = true) (xt_InvalidPlace_InvalidRule : PySem.W.typeIn K (.ref C_InvalidRule) = some (.type "type")) (xs_InvalidPlace_InvalidRule : PySem.W.subIn K (.ref C_InvalidPlace) (.ref C_InvalidRule) = some false) (xb_InvalidPlace_InvalidPlace : PySem.W.subIn K (.ref C_InvalidPlace) (.type "BaseException") = some true) (xi_InvalidPlace_InvalidPlace : PySem.W.isClsIn K C_InvalidPlace = true) (xt_InvalidPlace_InvalidPlace : PySem.W.typeIn K (.ref C_InvalidPlace) = some (.type "type")) (xs_InvalidPlace_InvalidPlace : PySem.W.subIn K (.ref C_InvalidPlace) (.ref C_InvalidPlace) = some true) (no_InvalidPlace_at : PySem.W.findIn K (.ref C_InvalidPlace) "at" = some none) (no_InvalidPlace_code : PySem.W.findIn K (.ref C_InvalidPlace) "code" = some none) (el_BadTree : K.lookup C_BadTree = some (excClassObj nm_BadTree q_BadTree C_BadTree N_BadTree bs_BadTree [.ref C_SureletError, .type "ValueError", .type "Exception", .type "BaseException", .type "object"] true sn_BadTree sb_BadTree ab_BadTree co_BadTree dd_BadTree e0_BadTree e1_BadTree e2_BadTree e3_BadTree e5_BadTree "ValueError.__new__")) (es_BadTree : PySem.W.findIn K (.ref C_BadTree) "__setattr__" = some (some (.builtin "object.__setattr__"))) (eb_BadTree : PySem.W.subIn K (.ref C_BadTree) (.type "BaseException") = some true) (et_BadTree : PySem.W.typeIn K (.ref C_BadTree) = some (.type "type")) (ek_BadTree : PySem.W.keepIn K (.ref C_BadTree) = true) (em_BadTree : PySem.W.mroIn K C_BadTree (.ref C_BadTree) = some true) (eu_BadTree : PySem.W.ks_superIn K C_BadTree C_BadTree "__init__" = some (some (.builtin "ValueError.__init__"))) (ev_BadTree : PySem.W.subIn K (.ref C_BadTree) (.type "ValueError") = some true) (ega_BadTree : PySem.W.findIn K (.ref C_BadTree) "__getattribute__" = some (some (.builtin "BaseException.__getattribute__"))) (egg_BadTree : PySem.W.findIn K (.ref C_BadTree) "__getattr__" = some none) (ehd_BadTree : PySem.W.hasDictIn K C_BadTree = true) (eti_BadTree : PySem.W.typeIn K (.ref A_BadTree_init) = some (.type "function")) (xb_BadTree_InvalidName : PySem.W.subIn K (.ref C_InvalidName) (.type "BaseException") = some true) (xi_BadTree_InvalidName : PySem.W.isClsIn K C_InvalidName = true) (xt_BadTree_InvalidName : PySem.W.typeIn K (.ref C_InvalidName) = some (.type "type")) (xs_BadTree_InvalidName : PySem.W.subIn K (.ref C_BadTree) (.ref C_InvalidName) = some false) (xb_BadTree_InvalidRule : PySem.W.subIn K (.ref C_InvalidRule) (.type "BaseException") = some true) (xi_BadTree_InvalidRule : PySem.W.isClsIn K C_InvalidRule = true) (xt_BadTree_InvalidRule : PySem.W.typeIn K (.ref C_InvalidRule) = some (.type "type")) (xs_BadTree_InvalidRule : PySem.W.subIn K (.ref C_BadTree) (.ref C_InvalidRule) = some false) (xb_BadTree_InvalidPlace : PySem.W.subIn K (.ref C_InvalidPlace) (.type "BaseException") = some true) (xi_BadTree_InvalidPlace : PySem.W.isClsIn K C_InvalidPlace = true) (xt_BadTree_InvalidPlace : PySem.W.typeIn K (.ref C_InvalidPlace) = some (.type "type")) (xs_BadTree_InvalidPlace : PySem.W.subIn K (.ref C_BadTree) (.ref C_InvalidPlace) = some false) (xb_BadTree_BadTree : PySem.W.subIn K (.ref C_BadTree) (.type "BaseException") = some true) (xi_BadTree_BadTree : PySem.W.isClsIn K C_BadTree = true) (xt_BadTree_BadTree : PySem.W.typeIn K (.ref C_BadTree) = some (.type "type")) (xs_BadTree_BadTree : PySem.W.subIn K (.ref C_BadTree) (.ref C_BadTree) = some true) (no_BadTree_place : PySem.W.findIn K (.ref C_BadTree) "place" = some none) (no_BadTree_code : PySem.W.findIn K (.ref C_BadTree) "code" = some none) (el_TooMany : K.lookup C_TooMany = some (excClassObj nm_TooMany q_TooMany C_TooMany N_TooMany bs_TooMany [.ref C_SureletError, .type "ValueError", .type "Exception", .type "BaseException", .type "object"] true sn_TooMany sb_TooMany ab_TooMany co_TooMany dd_TooMany e0_TooMany e1_TooMany e2_TooMany e3_TooMany e5_TooMany "ValueError.__new__")) (es_TooMany : PySem.W.findIn K (.ref C_TooMany) "__setattr__" = some (some (.builtin "object.__setattr__"))) (eb_TooMany : PySem.W.subIn K (.ref C_TooMany) (.type "BaseException") = some true) (et_TooMany : PySem.W.typeIn K (.ref C_TooMany) = some (.type "type")) (ek_TooMany : PySem.W.keepIn K (.ref C_TooMany) = true) (em_TooMany : PySem.W.mroIn K C_TooMany (.ref C_TooMany) = some true) (eu_TooMany : PySem.W.ks_superIn K C_TooMany C_TooMany "__init__" = some (some (.builtin "ValueError.__init__"))) (ev_TooMany : PySem.W.subIn K (.ref C_TooMany) (.type "ValueError") = some true) (ega_TooMany : PySem.W.findIn K (.ref C_TooMany) "__getattribute__" = some (some (.builtin "BaseException.__getattribute__"))) (egg_TooMany : PySem.W.findIn K (.ref C_TooMany) "__getattr__" = some none) (ehd_TooMany : PySem.W.hasDictIn K C_TooMany = true) (eti_TooMany : PySem.W.typeIn K (.ref A_TooMany_init) = some (.type "function")) (xb_TooMany_InvalidName : PySem.W.subIn K (.ref C_InvalidName) (.type "BaseException") = some true) (xi_TooMany_InvalidName : PySem.W.isClsIn K C_InvalidName = true) (xt_TooMany_InvalidName : PySem.W.typeIn K (.ref C_InvalidName) = some (.type "type")) (xs_TooMany_InvalidName : PySem.W.subIn K (.ref C_TooMany) (.ref C_InvalidName) = some false) (xb_TooMany_InvalidRule : PySem.W.subIn K (.ref C_InvalidRule) (.type "BaseException") = some true) (xi_TooMany_InvalidRule : PySem.W.isClsIn K C_InvalidRule = true) (xt_TooMany_InvalidRule : PySem.W.typeIn K (.ref C_InvalidRule) = some (.type "type")) (xs_TooMany_InvalidRule : PySem.W.subIn K (.ref C_TooMany) (.ref C_InvalidRule) = some false) (xb_TooMany_InvalidPlace : PySem.W.subIn K (.ref C_InvalidPlace) (.type "BaseException") = some true) (xi_TooMany_InvalidPlace : PySem.W.isClsIn K C_InvalidPlace = true) (xt_TooMany_InvalidPlace : PySem.W.typeIn K (.ref C_InvalidPlace) = some (.type "type")) (xs_TooMany_InvalidPlace : PySem.W.subIn K (.ref C_TooMany) (.ref C_InvalidPlace) = some false) (xb_TooMany_BadTree : PySem.W.subIn K (.ref C_BadTree) (.type "BaseException") = some true) (xi_TooMany_BadTree : PySem.W.isClsIn K C_BadTree = true) (xt_TooMany_BadTree : PySem.W.typeIn K (.ref C_BadTree) = some (.type "type")) (xs_TooMany_BadTree : PySem.W.subIn K (.ref C_TooMany) (.ref C_BadTree) = some false) (xb_TooMany_TooMany : PySem.W.subIn K (.ref C_TooMany) (.type "BaseException") = some true) (xi_TooMany_TooMany : PySem.W.isClsIn K C_TooMany = true) (xt_TooMany_TooMany : PySem.W.typeIn K (.ref C_TooMany) = some (.type "type")) (xs_TooMany_TooMany : PySem.W.subIn K (.ref C_TooMany) (.ref C_TooMany) = some true) (no_TooMany_what : PySem.W.findIn K (.ref C_TooMany) "what" = some none) (no_TooMany_count : PySem.W.findIn K (.ref C_TooMany) "count" = some none) (no_TooMany_code : PySem.W.findIn K (.ref C_TooMany) "code" = some none) (pg_Place : PySem.W.plainGet K C_Place Str.empty = true) (hd_Place : PySem.W.hasDictIn K C_Place = true) (po_Place : PySem.W.plainOver K C_Place = true) (sa_Place : PySem.W.findIn K (.ref C_Place) "__setattr__" = some (some (.builtin "object.__setattr__"))) (mk_Place : PySem.W.makesIn K C_Place = true) (kc_Place : PySem.W.keepIn K (.ref C_Place) = true) (th_Place : PySem.W.findIn K (.ref C_Place) "__class__" = some (some (.builtin "object.__class__"))) (tn_Place : PySem.W.specialIn K (.builtin "object.__class__") "__get__" = some (some (.builtin "getset_descriptor.__get__"))) (tk_Place : PySem.W.takesIn K (.builtin "object.__class__") = some true) (tm_Place : PySem.W.mroIn K C_Place (.type "object") = some true) (kt_Place_Place : PySem.W.kitOne K (.ref C_Place) (.ref C_Place) = some true) (kt_Place_Rule : PySem.W.kitOne K (.ref C_Place) (.ref C_Rule) = some false) (no_Place_name : PySem.W.findIn K (.ref C_Place) "name" = some none) (no_Place_server : PySem.W.findIn K (.ref C_Place) "server" = some none) (no_Place_elder : PySem.W.findIn K (.ref C_Place) "elder" = some none) (no_Place_memory : PySem.W.findIn K (.ref C_Place) "memory" = some none) (no_Place_customer : PySem.W.findIn K (.ref C_Place) "customer" = some none) (eqf_Place : PySem.W.findIn K (.ref C_Place) "__eq__" = some (some (.ref A_Place_eq))) (eqi_Place : PySem.W.isFn K (.ref A_Place_eq) = true) (nf_Place_str : PySem.W.notFirst K C_Place (.type "str") = true) (nf_Place_int : PySem.W.notFirst K C_Place (.type "int") = true) (nf_Place : PySem.W.notFirst K C_Place (.ref C_Place) = true) (ktt_Place_int : PySem.W.kitOne K (.ref C_Place) (.type "int") = some false) (ktt_Place_bool : PySem.W.kitOne K (.ref C_Place) (.type "bool") = some false) (ktt_Place_str : PySem.W.kitOne K (.ref C_Place) (.type "str") = some false) (ktt_Place_list : PySem.W.kitOne K (.ref C_Place) (.type "list") = some false) (ktt_Place_tuple : PySem.W.kitOne K (.ref C_Place) (.type "tuple") = some false) (ktt_Place_dict : PySem.W.kitOne K (.ref C_Place) (.type "dict") = some false) (kb_int_Place : PySem.W.kitOne K (.type "int") (.ref C_Place) = some false) (kb_bool_Place : PySem.W.kitOne K (.type "bool") (.ref C_Place) = some false) (kb_str_Place : PySem.W.kitOne K (.type "str") (.ref C_Place) = some false) (kb_NoneType_Place : PySem.W.kitOne K (.type "NoneType") (.ref C_Place) = some false) (kb_list_Place : PySem.W.kitOne K (.type "list") (.ref C_Place) = some false) (kb_tuple_Place : PySem.W.kitOne K (.type "tuple") (.ref C_Place) = some false) (kb_dict_Place : PySem.W.kitOne K (.type "dict") (.ref C_Place) = some false) (pg_Tree : PySem.W.plainGet K C_Tree Str.empty = true) (hd_Tree : PySem.W.hasDictIn K C_Tree = true) (po_Tree : PySem.W.plainOver K C_Tree = true) (sa_Tree : PySem.W.findIn K (.ref C_Tree) "__setattr__" = some (some (.builtin "object.__setattr__"))) (mk_Tree : PySem.W.makesIn K C_Tree = true) (kc_Tree : PySem.W.keepIn K (.ref C_Tree) = true) (th_Tree : PySem.W.findIn K (.ref C_Tree) "__class__" = some (some (.builtin "object.__class__"))) (tn_Tree : PySem.W.specialIn K (.builtin "object.__class__") "__get__" = some (some (.builtin "getset_descriptor.__get__"))) (tk_Tree : PySem.W.takesIn K (.builtin "object.__class__") = some true) (tm_Tree : PySem.W.mroIn K C_Tree (.type "object") = some true) (kt_Tree_Tree : PySem.W.kitOne K (.ref C_Tree) (.ref C_Tree) = some true) (no_Tree_rule : PySem.W.findIn K (.ref C_Tree) "rule" = some none) (no_Tree_places : PySem.W.findIn K (.ref C_Tree) "_places" = some none) (no_Tree_by_name : PySem.W.findIn K (.ref C_Tree) "_by_name" = some none) (no_Tree_children : PySem.W.findIn K (.ref C_Tree) "_children" = some none) (no_Tree_tops : PySem.W.findIn K (.ref C_Tree) "_tops" = some none) (me_Tree_fits : PySem.W.findIn K (.ref C_Tree) "_fits" = some (some (.ref A_Tree_fits))) (mi_Tree_fits : PySem.W.isFn K (.ref A_Tree_fits) = true) (me_Tree_places : PySem.W.findIn K (.ref C_Tree) "places" = some (some (.ref A_Tree_places))) (mi_Tree_places : PySem.W.isFn K (.ref A_Tree_places) = true) (lt_Tree : PySem.W.typeIn K (.ref A_Tree_len) = some (.type "function")) (kb_int_Rest : PySem.W.kitOne K (.type "int") (.ref C_Rest) = some false) (kb_bool_Rest : PySem.W.kitOne K (.type "bool") (.ref C_Rest) = some false) (kb_str_Rest : PySem.W.kitOne K (.type "str") (.ref C_Rest) = some false) (kb_NoneType_Rest : PySem.W.kitOne K (.type "NoneType") (.ref C_Rest) = some false) (kb_list_Rest : PySem.W.kitOne K (.type "list") (.ref C_Rest) = some false) (kb_tuple_Rest : PySem.W.kitOne K (.type "tuple") (.ref C_Rest) = some false) (kb_dict_Rest : PySem.W.kitOne K (.type "dict") (.ref C_Rest) = some false) (pg_Window : PySem.W.plainGet K C_Window Str.empty = true) (hd_Window : PySem.W.hasDictIn K C_Window = true) (po_Window : PySem.W.plainOver K C_Window = true) (sa_Window : PySem.W.findIn K (.ref C_Window) "__setattr__" = some (some (.builtin "object.__setattr__"))) (mk_Window : PySem.W.makesIn K C_Window = true) (kc_Window : PySem.W.keepIn K (.ref C_Window) = true) (th_Window : PySem.W.findIn K (.ref C_Window) "__class__" = some (some (.builtin "object.__class__"))) (tn_Window : PySem.W.specialIn K (.builtin "object.__class__") "__get__" = some (some (.builtin "getset_descriptor.__get__"))) (tk_Window : PySem.W.takesIn K (.builtin "object.__class__") = some true) (tm_Window : PySem.W.mroIn K C_Window (.type "object") = some true) (kt_Window_Rest : PySem.W.kitOne K (.ref C_Window) (.ref C_Rest) = some true) (kt_Window_Window : PySem.W.kitOne K (.ref C_Window) (.ref C_Window) = some true) (kt_Window_Place : PySem.W.kitOne K (.ref C_Window) (.ref C_Place) = some false) (kt_Window_Rule : PySem.W.kitOne K (.ref C_Window) (.ref C_Rule) = some false) (su_Window : PySem.W.mroIn K C_Window (.ref C_Window) = some true) (sm_Window : PySem.W.ks_superIn K C_Window C_Window "__init__" = some (some (.ref A_Rest_init))) (sf_Window : PySem.W.fnIn K A_Rest_init = true) (st_Window : PySem.W.typeIn K (.ref A_Rest_init) = some (.type "function")) (no_Window_text : PySem.W.findIn K (.ref C_Window) "_text" = some none) (no_Window_forms : PySem.W.findIn K (.ref C_Window) "_forms" = some none) (no_Window_period : PySem.W.findIn K (.ref C_Window) "_period" = some none) (no_Window_bend : PySem.W.findIn K (.ref C_Window) "_bend" = some none) (no_Window_width : PySem.W.findIn K (.ref C_Window) "width" = some none) (eqf_Window : PySem.W.findIn K (.ref C_Window) "__eq__" = some (some (.ref A_Rest_eq))) (eqi_Window : PySem.W.isFn K (.ref A_Rest_eq) = true) (nf_Window_str : PySem.W.notFirst K C_Window (.type "str") = true) (nf_Window_int : PySem.W.notFirst K C_Window (.type "int") = true) (nf_Window : PySem.W.notFirst K C_Window (.ref C_Window) = true) (ktt_Window_int : PySem.W.kitOne K (.ref C_Window) (.type "int") = some false) (ktt_Window_bool : PySem.W.kitOne K (.ref C_Window) (.type "bool") = some false) (ktt_Window_str : PySem.W.kitOne K (.ref C_Window) (.type "str") = some false) (ktt_Window_list : PySem.W.kitOne K (.ref C_Window) (.type "list") = some false) (ktt_Window_tuple : PySem.W.kitOne K (.ref C_Window) (.type "tuple") = some false) (ktt_Window_dict : PySem.W.kitOne K (.ref C_Window) (.type "dict") = some false) (kb_int_Window : PySem.W.kitOne K (.type "int") (.ref C_Window) = some false) (kb_bool_Window : PySem.W.kitOne K (.type "bool") (.ref C_Window) = some false) (kb_str_Window : PySem.W.kitOne K (.type "str") (.ref C_Window) = some false) (kb_NoneType_Window : PySem.W.kitOne K (.type "NoneType") (.ref C_Window) = some false) (kb_list_Window : PySem.W.kitOne K (.type "list") (.ref C_Window) = some false) (kb_tuple_Window : PySem.W.kitOne K (.type "tuple") (.ref C_Window) = some false) (kb_dict_Window : PySem.W.kitOne K (.type "dict") (.ref C_Window) = some false) (pg_Rule : PySem.W.plainGet K C_Rule Str.empty = true) (hd_Rule : PySem.W.hasDictIn K C_Rule = true) (po_Rule : PySem.W.plainOver K C_Rule = true) (sa_Rule : PySem.W.findIn K (.ref C_Rule) "__setattr__" = some (some (.builtin "object.__setattr__"))) (mk_Rule : PySem.W.makesIn K C_Rule = true) (kc_Rule : PySem.W.keepIn K (.ref C_Rule) = true) (th_Rule : PySem.W.findIn K (.ref C_Rule) "__class__" = some (some (.builtin "object.__class__"))) (tn_Rule : PySem.W.specialIn K (.builtin "object.__class__") "__get__" = some (some (.builtin "getset_descriptor.__get__"))) (tk_Rule : PySem.W.takesIn K (.builtin "object.__class__") = some true) (tm_Rule : PySem.W.mroIn K C_Rule (.type "object") = some true) (kt_Rule_Rule : PySem.W.kitOne K (.ref C_Rule) (.ref C_Rule) = some true) (kt_Rule_Place : PySem.W.kitOne K (.ref C_Rule) (.ref C_Place) = some false) (kb_int_Rule : PySem.W.kitOne K (.type "int") (.ref C_Rule) = some false) (kb_bool_Rule : PySem.W.kitOne K (.type "bool") (.ref C_Rule) = some false) (kb_str_Rule : PySem.W.kitOne K (.type "str") (.ref C_Rule) = some false) (kb_NoneType_Rule : PySem.W.kitOne K (.type "NoneType") (.ref C_Rule) = some false) (kb_list_Rule : PySem.W.kitOne K (.type "list") (.ref C_Rule) = some false) (kb_tuple_Rule : PySem.W.kitOne K (.type "tuple") (.ref C_Rule) = some false) (kb_dict_Rule : PySem.W.kitOne K (.type "dict") (.ref C_Rule) = some false) (no_Rule_name : PySem.W.findIn K (.ref C_Rule) "name" = some none) (no_Rule_chips : PySem.W.findIn K (.ref C_Rule) "chips" = some none) (no_Rule_rest : PySem.W.findIn K (.ref C_Rule) "rest" = some none) :
    LamX.LawAtS PySem.Challenge.rw_surelet_k12_whole_trees_refused w K CX0 16 63 "_law_script" mg fa h := by
  have e := hfa.symm.trans (PySem.W.mg_of X G a_law)
  cases e
  let T := tx_mk X G aC_SureletError aC_InvalidName aC_InvalidRule aC_InvalidPlace aC_BadTree aC_TooMany aC_Place aC_Tree aC_Rest aC_Window aC_Rule a_InvalidName_init i_InvalidName_init l_InvalidName_init c_InvalidName_init k_InvalidName_init cell_InvalidName_init code_InvalidName_init vs_InvalidName_init fl_InvalidName_init cd_InvalidName_init a_InvalidRule_init i_InvalidRule_init l_InvalidRule_init c_InvalidRule_init k_InvalidRule_init cell_InvalidRule_init code_InvalidRule_init vs_InvalidRule_init fl_InvalidRule_init cd_InvalidRule_init a_InvalidPlace_init i_InvalidPlace_init l_InvalidPlace_init c_InvalidPlace_init k_InvalidPlace_init cell_InvalidPlace_init code_InvalidPlace_init vs_InvalidPlace_init fl_InvalidPlace_init cd_InvalidPlace_init a_BadTree_init i_BadTree_init l_BadTree_init c_BadTree_init k_BadTree_init cell_BadTree_init code_BadTree_init vs_BadTree_init fl_BadTree_init cd_BadTree_init a_TooMany_init i_TooMany_init l_TooMany_init c_TooMany_init k_TooMany_init cell_TooMany_init code_TooMany_init vs_TooMany_init fl_TooMany_init cd_TooMany_init a_is_number l_is_number c_is_number k_is_number a_is_name l_is_name c_is_name k_is_name a_Rest_init i_Rest_init l_Rest_init c_Rest_init k_Rest_init a_Rest_eq i_Rest_eq l_Rest_eq c_Rest_eq k_Rest_eq a_Window_init i_Window_init l_Window_init c_Window_init k_Window_init cell_Window_init code_Window_init vs_Window_init fl_Window_init cd_Window_init a_Rule_init i_Rule_init l_Rule_init c_Rule_init k_Rule_init a_Place_init i_Place_init l_Place_init c_Place_init k_Place_init dt_Place_init kd_Place_init_memory kd_Place_init_customer a_Place_eq i_Place_eq l_Place_eq c_Place_eq k_Place_eq a_Tree_init i_Tree_init l_Tree_init c_Tree_init k_Tree_init a_Tree_fits i_Tree_fits l_Tree_fits c_Tree_fits k_Tree_fits a_Tree_places i_Tree_places l_Tree_places c_Tree_places k_Tree_places a_Tree_len i_Tree_len l_Tree_len c_Tree_len k_Tree_len a_bag l_bag c_bag k_bag a_draw l_draw c_draw k_draw a_of l_of c_of k_of a_like l_like c_like k_like a_odd l_odd c_odd k_odd a_name l_name c_name k_name a_names l_names c_names k_names a_places l_places c_places k_places a_place l_place c_place k_place a_tree l_tree c_tree k_tree a_row l_row c_row k_row a_ask l_ask c_ask k_ask a_bent l_bent c_bent k_bent a_at_fault l_at_fault c_at_fault k_at_fault a_due l_due c_due k_due a_size l_size c_size k_size a_so l_so c_so k_so td_so tp_so tn_so a_named l_named c_named k_named a_place_so l_place_so c_place_so k_place_so td_place_so tp_place_so tn_place_so a_law l_law c_law k_law tne_so_place_so top_super st_thirdparty z_all z_bool z_dict z_enumerate z_int z_isinstance z_len z_list z_min z_range z_str z_super z_tuple z_zip ac_DIGITS ac_LETTERS ac_PLACES el_InvalidName es_InvalidName eb_InvalidName et_InvalidName ek_InvalidName em_InvalidName eu_InvalidName ev_InvalidName ega_InvalidName egg_InvalidName ehd_InvalidName eti_InvalidName xb_InvalidName_InvalidName xi_InvalidName_InvalidName xt_InvalidName_InvalidName xs_InvalidName_InvalidName no_InvalidName_value no_InvalidName_code el_InvalidRule es_InvalidRule eb_InvalidRule et_InvalidRule ek_InvalidRule em_InvalidRule eu_InvalidRule ev_InvalidRule ega_InvalidRule egg_InvalidRule ehd_InvalidRule eti_InvalidRule xb_InvalidRule_InvalidName xi_InvalidRule_InvalidName xt_InvalidRule_InvalidName xs_InvalidRule_InvalidName xb_InvalidRule_InvalidRule xi_InvalidRule_InvalidRule xt_InvalidRule_InvalidRule xs_InvalidRule_InvalidRule no_InvalidRule_value no_InvalidRule_code el_InvalidPlace es_InvalidPlace eb_InvalidPlace et_InvalidPlace ek_InvalidPlace em_InvalidPlace eu_InvalidPlace ev_InvalidPlace ega_InvalidPlace egg_InvalidPlace ehd_InvalidPlace eti_InvalidPlace xb_InvalidPlace_InvalidName xi_InvalidPlace_InvalidName xt_InvalidPlace_InvalidName xs_InvalidPlace_InvalidName xb_InvalidPlace_InvalidRule xi_InvalidPlace_InvalidRule xt_InvalidPlace_InvalidRule xs_InvalidPlace_InvalidRule xb_InvalidPlace_InvalidPlace xi_InvalidPlace_InvalidPlace xt_InvalidPlace_InvalidPlace xs_InvalidPlace_InvalidPlace no_InvalidPlace_at no_InvalidPlace_code el_BadTree es_BadTree eb_BadTree et_BadTree ek_BadTree em_BadTree eu_BadTree ev_BadTree ega_BadTree egg_BadTree ehd_BadTree eti_BadTree xb_BadTree_InvalidName xi_BadTree_InvalidName xt_BadTree_InvalidName xs_BadTree_InvalidName xb_BadTree_InvalidRule xi_BadTree_InvalidRule xt_BadTree_InvalidRule xs_BadTree_InvalidRule xb_BadTree_InvalidPlace xi_BadTree_InvalidPlace xt_BadTree_InvalidPlace xs_BadTree_InvalidPlace xb_BadTree_BadTree xi_BadTree_BadTree xt_BadTree_BadTree xs_BadTree_BadTree no_BadTree_place no_BadTree_code el_TooMany es_TooMany eb_TooMany et_TooMany ek_TooMany em_TooMany eu_TooMany ev_TooMany ega_TooMany egg_TooMany ehd_TooMany eti_TooMany xb_TooMany_InvalidName xi_TooMany_InvalidName xt_TooMany_InvalidName xs_TooMany_InvalidName xb_TooMany_InvalidRule xi_TooMany_InvalidRule xt_TooMany_InvalidRule xs_TooMany_InvalidRule xb_TooMany_InvalidPlace xi_TooMany_InvalidPlace xt_TooMany_InvalidPlace xs_TooMany_InvalidPlace xb_TooMany_BadTree xi_TooMany_BadTree xt_TooMany_BadTree xs_TooMany_BadTree xb_TooMany_TooMany xi_TooMany_TooMany xt_TooMany_TooMany xs_TooMany_TooMany no_TooMany_what no_TooMany_count no_TooMany_code pg_Place hd_Place po_Place sa_Place mk_Place kc_Place th_Place tn_Place tk_Place tm_Place kt_Place_Place kt_Place_Rule no_Place_name no_Place_server no_Place_elder no_Place_memory no_Place_customer eqf_Place eqi_Place nf_Place_str nf_Place_int nf_Place ktt_Place_int ktt_Place_bool ktt_Place_str ktt_Place_list ktt_Place_tuple ktt_Place_dict kb_int_Place kb_bool_Place kb_str_Place kb_NoneType_Place kb_list_Place kb_tuple_Place kb_dict_Place pg_Tree hd_Tree po_Tree sa_Tree mk_Tree kc_Tree th_Tree tn_Tree tk_Tree tm_Tree kt_Tree_Tree no_Tree_rule no_Tree_places no_Tree_by_name no_Tree_children no_Tree_tops me_Tree_fits mi_Tree_fits me_Tree_places mi_Tree_places lt_Tree kb_int_Rest kb_bool_Rest kb_str_Rest kb_NoneType_Rest kb_list_Rest kb_tuple_Rest kb_dict_Rest pg_Window hd_Window po_Window sa_Window mk_Window kc_Window th_Window tn_Window tk_Window tm_Window kt_Window_Rest kt_Window_Window kt_Window_Place kt_Window_Rule su_Window sm_Window sf_Window st_Window no_Window_text no_Window_forms no_Window_period no_Window_bend no_Window_width eqf_Window eqi_Window nf_Window_str nf_Window_int nf_Window ktt_Window_int ktt_Window_bool ktt_Window_str ktt_Window_list ktt_Window_tuple ktt_Window_dict kb_int_Window kb_bool_Window kb_str_Window kb_NoneType_Window kb_list_Window kb_tuple_Window kb_dict_Window pg_Rule hd_Rule po_Rule sa_Rule mk_Rule kc_Rule th_Rule tn_Rule tk_Rule tm_Rule kt_Rule_Rule kt_Rule_Place kb_int_Rule kb_bool_Rule kb_str_Rule kb_NoneType_Rule kb_list_Rule kb_tuple_Rule kb_dict_Rule no_Rule_name no_Rule_chips no_Rule_rest
  have at_so := tab _ _ _ rc_so (tabIn_of a_so l_so rfl td_so tp_so)
  have at_place_so := tab _ _ _ rc_place_so (tabIn_of a_place_so l_place_so rfl td_place_so tp_place_so)
  have c1 : ∀ p ∈ ([(cda_so, tb_so), (cda_place_so, tb_place_so)] : List (Addr × Addr)), h.get? p.2 = some { cls := .none, data := .fields #[] } := fun p hp => by
    rcases List.mem_cons.mp hp with rfl | hp
    · exact at_so.2
    rcases List.mem_cons.mp hp with rfl | hp
    · exact at_place_so.2
    cases hp
  have c2 : ∀ p ∈ ([(cda_so, tb_so), (cda_place_so, tb_place_so)] : List (Addr × Addr)), K.lookup p.2 = none := fun p hp => by
    rcases List.mem_cons.mp hp with rfl | hp
    · exact tn_so
    rcases List.mem_cons.mp hp with rfl | hp
    · exact tn_place_so
    cases hp
  have c3 : ∀ p ∈ ([(cda_so, tb_so), (cda_place_so, tb_place_so)] : List (Addr × Addr)), PySem.W.CodeHd h p.1 p.2 := fun p hp => by
    rcases List.mem_cons.mp hp with rfl | hp
    · exact at_so.1
    rcases List.mem_cons.mp hp with rfl | hp
    · exact at_place_so.1
    cases hp
  refine ⟨_, [(cda_so, tb_so), (cda_place_so, tb_place_so)], spLaw T, c1, c2, c3, fun s v => .of_eq rfl, fun H a ns _ _ ht hS => ⟨a, ns, rfl, hS, fun p hp => ?_, fun _ => rfl⟩, fun base _ _ TB => ok_law T (TB (cda_so, tb_so) ((.head _))) (TB (cda_place_so, tb_place_so) ((.tail _ (.head _))))⟩
  have ht2 := fun (p : Addr × Addr) (hp : p ∈ ([(cda_so, tb_so), (cda_place_so, tb_place_so)] : List (Addr × Addr))) => ht p hp
  have key : H p.1 = some (.tbl #[]) := by
    have h_so : H tb_so = some (.tbl #[]) := ht2 (cda_so, tb_so) ((.head _))
    have h_place_so : H tb_place_so = some (.tbl #[]) := ht2 (cda_place_so, tb_place_so) ((.tail _ (.head _)))
    rcases mem_TL hp with e | e <;> rw [e] <;> assumption
  exact LamX.TabS.nil key
theorem walk {q : Program} {loose : List Str} {XP : (Str → Option Value) → Heap → Prop} {YP : World → Heap → Prop} {d : DefRec} {K : Params → PySem.W.Frag} (hn : PySem.Challenge.rw_surelet_k12_whole_trees_refused.most = some 63) (hdf : d.params.defaults = [])
    (hY : ∀ (w : World) (h : Heap), YP w h → (K w.params).In h)
    (F : ∀ (w : World) (mg : Str → Option Value) (fa : Addr) (h : Heap), (K w.params).In h → h.Ns mainGlobals mg → mg d.name = some (.ref fa) → TabsTold q (K w.params) h → LamX.LawAtS PySem.Challenge.rw_surelet_k12_whole_trees_refused w (K w.params) CX0 16 63 "_law_script" mg fa h) :
    PySem.W.WalkO q loose XP YP PySem.Challenge.rw_surelet_k12_whole_trees_refused.row.toRowW d [] (fun f vs => PySem.call f vs) := by
  refine Att.attach_callB hn hdf fun w z0 z1 mg mb fa ob pm cd doc a us ns GT Y ho hd hcd hmg hobj hints hlen hbits hgens => ?_
  have KX := hY w _ Y
  obtain ⟨fd, cs, sp, a1, a2, a3, a4, a5, a6⟩ := F w mg fa _ KX GT.T.g hmg fun x c P hr ht => by
    obtain ⟨d2, hd2⟩ := Option.isSome_iff_exists.mp hr
    exact PySem.W.tab_of GT.T KX hd2 ht
  have small : ns.length ≤ sizeLine := Nat.le_trans hlen (by decide)
  exact LamX.law_callTs KX GT.T.g GT.T.b GT.T.builtins GT.T.nolimit hgens a1 a2 a3 GT.T.bmain hobj hints small ⟨rfl, by decide, by decide⟩ a6 a4 (fun H hH hS => a5 H a ns hlen hbits hH hS) fun _ _ _ z => z
end Law

open PySem PySem.W PyProof.Rows in
set_option maxRecDepth 100000 in
set_option maxHeartbeats 0 in
theorem PySem.Challenge.cw_surelet_k12_whole_trees_refused_holds : PySem.Challenge.rw_surelet_k12_whole_trees_refused.Holds := by
  w_on; o_law; k_head; (case hw => w_witness2)
  k_fill
  refine Law.walk rfl rfl (fun w h Y => PySem.W.km_in_of Y) ?F
  case F =>
    intro w mg fa h KX G hmg tab
    refine' Law.all_mk KX G hmg tab ?rc_so ?rc_place_so ?aC_SureletError ?aC_InvalidName ?aC_InvalidRule ?aC_InvalidPlace ?aC_BadTree ?aC_TooMany ?aC_Place ?aC_Tree ?aC_Rest ?aC_Window ?aC_Rule ?a_InvalidName_init ?i_InvalidName_init ?l_InvalidName_init ?c_InvalidName_init ?k_InvalidName_init ?cell_InvalidName_init ?code_InvalidName_init ?vs_InvalidName_init ?fl_InvalidName_init ?cd_InvalidName_init ?a_InvalidRule_init ?i_InvalidRule_init ?l_InvalidRule_init ?c_InvalidRule_init ?k_InvalidRule_init ?cell_InvalidRule_init ?code_InvalidRule_init ?vs_InvalidRule_init ?fl_InvalidRule_init ?cd_InvalidRule_init ?a_InvalidPlace_init ?i_InvalidPlace_init ?l_InvalidPlace_init ?c_InvalidPlace_init ?k_InvalidPlace_init ?cell_InvalidPlace_init ?code_InvalidPlace_init ?vs_InvalidPlace_init ?fl_InvalidPlace_init ?cd_InvalidPlace_init ?a_BadTree_init ?i_BadTree_init ?l_BadTree_init ?c_BadTree_init ?k_BadTree_init ?cell_BadTree_init ?code_BadTree_init ?vs_BadTree_init ?fl_BadTree_init ?cd_BadTree_init ?a_TooMany_init ?i_TooMany_init ?l_TooMany_init ?c_TooMany_init ?k_TooMany_init ?cell_TooMany_init ?code_TooMany_init ?vs_TooMany_init ?fl_TooMany_init ?cd_TooMany_init ?a_is_number ?l_is_number ?c_is_number ?k_is_number ?a_is_name ?l_is_name ?c_is_name ?k_is_name ?a_Rest_init ?i_Rest_init ?l_Rest_init ?c_Rest_init ?k_Rest_init ?a_Rest_eq ?i_Rest_eq ?l_Rest_eq ?c_Rest_eq ?k_Rest_eq ?a_Window_init ?i_Window_init ?l_Window_init ?c_Window_init ?k_Window_init ?cell_Window_init ?code_Window_init ?vs_Window_init ?fl_Window_init ?cd_Window_init ?a_Rule_init ?i_Rule_init ?l_Rule_init ?c_Rule_init ?k_Rule_init ?a_Place_init ?i_Place_init ?l_Place_init ?c_Place_init ?k_Place_init ?dt_Place_init ?kd_Place_init_memory ?kd_Place_init_customer ?a_Place_eq ?i_Place_eq ?l_Place_eq ?c_Place_eq ?k_Place_eq ?a_Tree_init ?i_Tree_init ?l_Tree_init ?c_Tree_init ?k_Tree_init ?a_Tree_fits ?i_Tree_fits ?l_Tree_fits ?c_Tree_fits ?k_Tree_fits ?a_Tree_places ?i_Tree_places ?l_Tree_places ?c_Tree_places ?k_Tree_places ?a_Tree_len ?i_Tree_len ?l_Tree_len ?c_Tree_len ?k_Tree_len ?a_bag ?l_bag ?c_bag ?k_bag ?a_draw ?l_draw ?c_draw ?k_draw ?a_of ?l_of ?c_of ?k_of ?a_like ?l_like ?c_like ?k_like ?a_odd ?l_odd ?c_odd ?k_odd ?a_name ?l_name ?c_name ?k_name ?a_names ?l_names ?c_names ?k_names ?a_places ?l_places ?c_places ?k_places ?a_place ?l_place ?c_place ?k_place ?a_tree ?l_tree ?c_tree ?k_tree ?a_row ?l_row ?c_row ?k_row ?a_ask ?l_ask ?c_ask ?k_ask ?a_bent ?l_bent ?c_bent ?k_bent ?a_at_fault ?l_at_fault ?c_at_fault ?k_at_fault ?a_due ?l_due ?c_due ?k_due ?a_size ?l_size ?c_size ?k_size ?a_so ?l_so ?c_so ?k_so ?td_so ?tp_so ?tn_so ?a_named ?l_named ?c_named ?k_named ?a_place_so ?l_place_so ?c_place_so ?k_place_so ?td_place_so ?tp_place_so ?tn_place_so ?a_law ?l_law ?c_law ?k_law ?tne_so_place_so ?top_super ?st_thirdparty ?z_all ?z_bool ?z_dict ?z_enumerate ?z_int ?z_isinstance ?z_len ?z_list ?z_min ?z_range ?z_str ?z_super ?z_tuple ?z_zip ?ac_DIGITS ?ac_LETTERS ?ac_PLACES ?el_InvalidName ?es_InvalidName ?eb_InvalidName ?et_InvalidName ?ek_InvalidName ?em_InvalidName ?eu_InvalidName ?ev_InvalidName ?ega_InvalidName ?egg_InvalidName ?ehd_InvalidName ?eti_InvalidName ?xb_InvalidName_InvalidName ?xi_InvalidName_InvalidName ?xt_InvalidName_InvalidName ?xs_InvalidName_InvalidName ?no_InvalidName_value ?no_InvalidName_code ?el_InvalidRule ?es_InvalidRule ?eb_InvalidRule ?et_InvalidRule ?ek_InvalidRule ?em_InvalidRule ?eu_InvalidRule ?ev_InvalidRule ?ega_InvalidRule ?egg_InvalidRule ?ehd_InvalidRule ?eti_InvalidRule ?xb_InvalidRule_InvalidName ?xi_InvalidRule_InvalidName ?xt_InvalidRule_InvalidName ?xs_InvalidRule_InvalidName ?xb_InvalidRule_InvalidRule ?xi_InvalidRule_InvalidRule ?xt_InvalidRule_InvalidRule ?xs_InvalidRule_InvalidRule ?no_InvalidRule_value ?no_InvalidRule_code ?el_InvalidPlace ?es_InvalidPlace ?eb_InvalidPlace ?et_InvalidPlace ?ek_InvalidPlace ?em_InvalidPlace ?eu_InvalidPlace ?ev_InvalidPlace ?ega_InvalidPlace ?egg_InvalidPlace ?ehd_InvalidPlace ?eti_InvalidPlace ?xb_InvalidPlace_InvalidName ?xi_InvalidPlace_InvalidName ?xt_InvalidPlace_InvalidName ?xs_InvalidPlace_InvalidName ?xb_InvalidPlace_InvalidRule ?xi_InvalidPlace_InvalidRule ?xt_InvalidPlace_InvalidRule ?xs_InvalidPlace_InvalidRule ?xb_InvalidPlace_InvalidPlace ?xi_InvalidPlace_InvalidPlace ?xt_InvalidPlace_InvalidPlace ?xs_InvalidPlace_InvalidPlace ?no_InvalidPlace_at ?no_InvalidPlace_code ?el_BadTree ?es_BadTree ?eb_BadTree ?et_BadTree ?ek_BadTree ?em_BadTree ?eu_BadTree ?ev_BadTree ?ega_BadTree ?egg_BadTree ?ehd_BadTree ?eti_BadTree ?xb_BadTree_InvalidName ?xi_BadTree_InvalidName ?xt_BadTree_InvalidName ?xs_BadTree_InvalidName ?xb_BadTree_InvalidRule ?xi_BadTree_InvalidRule ?xt_BadTree_InvalidRule ?xs_BadTree_InvalidRule ?xb_BadTree_InvalidPlace ?xi_BadTree_InvalidPlace ?xt_BadTree_InvalidPlace ?xs_BadTree_InvalidPlace ?xb_BadTree_BadTree ?xi_BadTree_BadTree ?xt_BadTree_BadTree ?xs_BadTree_BadTree ?no_BadTree_place ?no_BadTree_code ?el_TooMany ?es_TooMany ?eb_TooMany ?et_TooMany ?ek_TooMany ?em_TooMany ?eu_TooMany ?ev_TooMany ?ega_TooMany ?egg_TooMany ?ehd_TooMany ?eti_TooMany ?xb_TooMany_InvalidName ?xi_TooMany_InvalidName ?xt_TooMany_InvalidName ?xs_TooMany_InvalidName ?xb_TooMany_InvalidRule ?xi_TooMany_InvalidRule ?xt_TooMany_InvalidRule ?xs_TooMany_InvalidRule ?xb_TooMany_InvalidPlace ?xi_TooMany_InvalidPlace ?xt_TooMany_InvalidPlace ?xs_TooMany_InvalidPlace ?xb_TooMany_BadTree ?xi_TooMany_BadTree ?xt_TooMany_BadTree ?xs_TooMany_BadTree ?xb_TooMany_TooMany ?xi_TooMany_TooMany ?xt_TooMany_TooMany ?xs_TooMany_TooMany ?no_TooMany_what ?no_TooMany_count ?no_TooMany_code ?pg_Place ?hd_Place ?po_Place ?sa_Place ?mk_Place ?kc_Place ?th_Place ?tn_Place ?tk_Place ?tm_Place ?kt_Place_Place ?kt_Place_Rule ?no_Place_name ?no_Place_server ?no_Place_elder ?no_Place_memory ?no_Place_customer ?eqf_Place ?eqi_Place ?nf_Place_str ?nf_Place_int ?nf_Place ?ktt_Place_int ?ktt_Place_bool ?ktt_Place_str ?ktt_Place_list ?ktt_Place_tuple ?ktt_Place_dict ?kb_int_Place ?kb_bool_Place ?kb_str_Place ?kb_NoneType_Place ?kb_list_Place ?kb_tuple_Place ?kb_dict_Place ?pg_Tree ?hd_Tree ?po_Tree ?sa_Tree ?mk_Tree ?kc_Tree ?th_Tree ?tn_Tree ?tk_Tree ?tm_Tree ?kt_Tree_Tree ?no_Tree_rule ?no_Tree_places ?no_Tree_by_name ?no_Tree_children ?no_Tree_tops ?me_Tree_fits ?mi_Tree_fits ?me_Tree_places ?mi_Tree_places ?lt_Tree ?kb_int_Rest ?kb_bool_Rest ?kb_str_Rest ?kb_NoneType_Rest ?kb_list_Rest ?kb_tuple_Rest ?kb_dict_Rest ?pg_Window ?hd_Window ?po_Window ?sa_Window ?mk_Window ?kc_Window ?th_Window ?tn_Window ?tk_Window ?tm_Window ?kt_Window_Rest ?kt_Window_Window ?kt_Window_Place ?kt_Window_Rule ?su_Window ?sm_Window ?sf_Window ?st_Window ?no_Window_text ?no_Window_forms ?no_Window_period ?no_Window_bend ?no_Window_width ?eqf_Window ?eqi_Window ?nf_Window_str ?nf_Window_int ?nf_Window ?ktt_Window_int ?ktt_Window_bool ?ktt_Window_str ?ktt_Window_list ?ktt_Window_tuple ?ktt_Window_dict ?kb_int_Window ?kb_bool_Window ?kb_str_Window ?kb_NoneType_Window ?kb_list_Window ?kb_tuple_Window ?kb_dict_Window ?pg_Rule ?hd_Rule ?po_Rule ?sa_Rule ?mk_Rule ?kc_Rule ?th_Rule ?tn_Rule ?tk_Rule ?tm_Rule ?kt_Rule_Rule ?kt_Rule_Place ?kb_int_Rule ?kb_bool_Rule ?kb_str_Rule ?kb_NoneType_Rule ?kb_list_Rule ?kb_tuple_Rule ?kb_dict_Rule ?no_Rule_name ?no_Rule_chips ?no_Rule_rest
    (case rc_so => first | decide +kernel | rfl)
    (case rc_place_so => first | decide +kernel | rfl)
    (case aC_SureletError => k_is)
    (case aC_InvalidName => k_is)
    (case aC_InvalidRule => k_is)
    (case aC_InvalidPlace => k_is)
    (case aC_BadTree => k_is)
    (case aC_TooMany => k_is)
    (case aC_Place => k_is)
    (case aC_Tree => k_is)
    (case aC_Rest => k_is)
    (case aC_Window => k_is)
    (case aC_Rule => k_is)
    (case a_InvalidName_init => k_is)
    (case i_InvalidName_init => k_is)
    (case l_InvalidName_init => k_is)
    (case c_InvalidName_init => k_is)
    (case k_InvalidName_init => k_is)
    (case cell_InvalidName_init => k_is)
    (case code_InvalidName_init => k_is)
    (case vs_InvalidName_init => exact rfl)
    (case fl_InvalidName_init => decide +kernel)
    (case cd_InvalidName_init => k_is)
    (case a_InvalidRule_init => k_is)
    (case i_InvalidRule_init => k_is)
    (case l_InvalidRule_init => k_is)
    (case c_InvalidRule_init => k_is)
    (case k_InvalidRule_init => k_is)
    (case cell_InvalidRule_init => k_is)
    (case code_InvalidRule_init => k_is)
    (case vs_InvalidRule_init => exact rfl)
    (case fl_InvalidRule_init => decide +kernel)
    (case cd_InvalidRule_init => k_is)
    (case a_InvalidPlace_init => k_is)
    (case i_InvalidPlace_init => k_is)
    (case l_InvalidPlace_init => k_is)
    (case c_InvalidPlace_init => k_is)
    (case k_InvalidPlace_init => k_is)
    (case cell_InvalidPlace_init => k_is)
    (case code_InvalidPlace_init => k_is)
    (case vs_InvalidPlace_init => exact rfl)
    (case fl_InvalidPlace_init => decide +kernel)
    (case cd_InvalidPlace_init => k_is)
    (case a_BadTree_init => k_is)
    (case i_BadTree_init => k_is)
    (case l_BadTree_init => k_is)
    (case c_BadTree_init => k_is)
    (case k_BadTree_init => k_is)
    (case cell_BadTree_init => k_is)
    (case code_BadTree_init => k_is)
    (case vs_BadTree_init => exact rfl)
    (case fl_BadTree_init => decide +kernel)
    (case cd_BadTree_init => k_is)
    (case a_TooMany_init => k_is)
    (case i_TooMany_init => k_is)
    (case l_TooMany_init => k_is)
    (case c_TooMany_init => k_is)
    (case k_TooMany_init => k_is)
    (case cell_TooMany_init => k_is)
    (case code_TooMany_init => k_is)
    (case vs_TooMany_init => exact rfl)
    (case fl_TooMany_init => decide +kernel)
    (case cd_TooMany_init => k_is)
    (case a_is_number => k_is)
    (case l_is_number => k_is)
    (case c_is_number => k_is)
    (case k_is_number => k_is)
    (case a_is_name => k_is)
    (case l_is_name => k_is)
    (case c_is_name => k_is)
    (case k_is_name => k_is)
    (case a_Rest_init => k_is)
    (case i_Rest_init => k_is)
    (case l_Rest_init => k_is)
    (case c_Rest_init => k_is)
    (case k_Rest_init => k_is)
    (case a_Rest_eq => k_is)
    (case i_Rest_eq => k_is)
    (case l_Rest_eq => k_is)
    (case c_Rest_eq => k_is)
    (case k_Rest_eq => k_is)
    (case a_Window_init => k_is)
    (case i_Window_init => k_is)
    (case l_Window_init => k_is)
    (case c_Window_init => k_is)
    (case k_Window_init => k_is)
    (case cell_Window_init => k_is)
    (case code_Window_init => k_is)
    (case vs_Window_init => exact rfl)
    (case fl_Window_init => decide +kernel)
    (case cd_Window_init => k_is)
    (case a_Rule_init => k_is)
    (case i_Rule_init => k_is)
    (case l_Rule_init => k_is)
    (case c_Rule_init => k_is)
    (case k_Rule_init => k_is)
    (case a_Place_init => k_is)
    (case i_Place_init => k_is)
    (case l_Place_init => k_is)
    (case c_Place_init => k_is)
    (case k_Place_init => k_is)
    (case dt_Place_init => k_is)
    (case kd_Place_init_memory => k_is)
    (case kd_Place_init_customer => k_is)
    (case a_Place_eq => k_is)
    (case i_Place_eq => k_is)
    (case l_Place_eq => k_is)
    (case c_Place_eq => k_is)
    (case k_Place_eq => k_is)
    (case a_Tree_init => k_is)
    (case i_Tree_init => k_is)
    (case l_Tree_init => k_is)
    (case c_Tree_init => k_is)
    (case k_Tree_init => k_is)
    (case a_Tree_fits => k_is)
    (case i_Tree_fits => k_is)
    (case l_Tree_fits => k_is)
    (case c_Tree_fits => k_is)
    (case k_Tree_fits => k_is)
    (case a_Tree_places => k_is)
    (case i_Tree_places => k_is)
    (case l_Tree_places => k_is)
    (case c_Tree_places => k_is)
    (case k_Tree_places => k_is)
    (case a_Tree_len => k_is)
    (case i_Tree_len => k_is)
    (case l_Tree_len => k_is)
    (case c_Tree_len => k_is)
    (case k_Tree_len => k_is)
    (case a_bag => k_is)
    (case l_bag => k_is)
    (case c_bag => k_is)
    (case k_bag => k_is)
    (case a_draw => k_is)
    (case l_draw => k_is)
    (case c_draw => k_is)
    (case k_draw => k_is)
    (case a_of => k_is)
    (case l_of => k_is)
    (case c_of => k_is)
    (case k_of => k_is)
    (case a_like => k_is)
    (case l_like => k_is)
    (case c_like => k_is)
    (case k_like => k_is)
    (case a_odd => k_is)
    (case l_odd => k_is)
    (case c_odd => k_is)
    (case k_odd => k_is)
    (case a_name => k_is)
    (case l_name => k_is)
    (case c_name => k_is)
    (case k_name => k_is)
    (case a_names => k_is)
    (case l_names => k_is)
    (case c_names => k_is)
    (case k_names => k_is)
    (case a_places => k_is)
    (case l_places => k_is)
    (case c_places => k_is)
    (case k_places => k_is)
    (case a_place => k_is)
    (case l_place => k_is)
    (case c_place => k_is)
    (case k_place => k_is)
    (case a_tree => k_is)
    (case l_tree => k_is)
    (case c_tree => k_is)
    (case k_tree => k_is)
    (case a_row => k_is)
    (case l_row => k_is)
    (case c_row => k_is)
    (case k_row => k_is)
    (case a_ask => k_is)
    (case l_ask => k_is)
    (case c_ask => k_is)
    (case k_ask => k_is)
    (case a_bent => k_is)
    (case l_bent => k_is)
    (case c_bent => k_is)
    (case k_bent => k_is)
    (case a_at_fault => k_is)
    (case l_at_fault => k_is)
    (case c_at_fault => k_is)
    (case k_at_fault => k_is)
    (case a_due => k_is)
    (case l_due => k_is)
    (case c_due => k_is)
    (case k_due => k_is)
    (case a_size => k_is)
    (case l_size => k_is)
    (case c_size => k_is)
    (case k_size => k_is)
    (case a_so => k_is)
    (case l_so => k_is)
    (case c_so => k_is)
    (case k_so => k_is)
    (case td_so => k_is)
    (case tp_so => exact rfl)
    (case tn_so => first | k_is | kernel_rfl | rfl)
    (case a_named => k_is)
    (case l_named => k_is)
    (case c_named => k_is)
    (case k_named => k_is)
    (case a_place_so => k_is)
    (case l_place_so => k_is)
    (case c_place_so => k_is)
    (case k_place_so => k_is)
    (case td_place_so => k_is)
    (case tp_place_so => exact rfl)
    (case tn_place_so => first | k_is | kernel_rfl | rfl)
    (case a_law => k_is)
    (case l_law => k_is)
    (case c_law => k_is)
    (case k_law => k_is)
    (case tne_so_place_so => decide)
    (case top_super => decide +kernel)
    (case st_thirdparty => k_is)
    (case z_all => k_is)
    (case z_bool => k_is)
    (case z_dict => k_is)
    (case z_enumerate => k_is)
    (case z_int => k_is)
    (case z_isinstance => k_is)
    (case z_len => k_is)
    (case z_list => k_is)
    (case z_min => k_is)
    (case z_range => k_is)
    (case z_str => k_is)
    (case z_super => k_is)
    (case z_tuple => k_is)
    (case z_zip => k_is)
    (case ac_DIGITS => k_is)
    (case ac_LETTERS => k_is)
    (case ac_PLACES => k_is)
    (case el_InvalidName => k_is)
    (case es_InvalidName => k_is)
    (case eb_InvalidName => k_is)
    (case et_InvalidName => k_is)
    (case ek_InvalidName => k_is)
    (case em_InvalidName => k_is)
    (case eu_InvalidName => first | ks_is | k_is)
    (case ev_InvalidName => k_is)
    (case ega_InvalidName => k_is)
    (case egg_InvalidName => k_is)
    (case ehd_InvalidName => k_is)
    (case eti_InvalidName => k_is)
    (case xb_InvalidName_InvalidName => k_is)
    (case xi_InvalidName_InvalidName => k_is)
    (case xt_InvalidName_InvalidName => k_is)
    (case xs_InvalidName_InvalidName => first | rfl | k_is)
    (case no_InvalidName_value => k_is)
    (case no_InvalidName_code => k_is)
    (case el_InvalidRule => k_is)
    (case es_InvalidRule => k_is)
    (case eb_InvalidRule => k_is)
    (case et_InvalidRule => k_is)
    (case ek_InvalidRule => k_is)
    (case em_InvalidRule => k_is)
    (case eu_InvalidRule => first | ks_is | k_is)
    (case ev_InvalidRule => k_is)
    (case ega_InvalidRule => k_is)
    (case egg_InvalidRule => k_is)
    (case ehd_InvalidRule => k_is)
    (case eti_InvalidRule => k_is)
    (case xb_InvalidRule_InvalidName => k_is)
    (case xi_InvalidRule_InvalidName => k_is)
    (case xt_InvalidRule_InvalidName => k_is)
    (case xs_InvalidRule_InvalidName => first | rfl | k_is)
    (case xb_InvalidRule_InvalidRule => k_is)
    (case xi_InvalidRule_InvalidRule => k_is)
    (case xt_InvalidRule_InvalidRule => k_is)
    (case xs_InvalidRule_InvalidRule => first | rfl | k_is)
    (case no_InvalidRule_value => k_is)
    (case no_InvalidRule_code => k_is)
    (case el_InvalidPlace => k_is)
    (case es_InvalidPlace => k_is)
    (case eb_InvalidPlace => k_is)
    (case et_InvalidPlace => k_is)
    (case ek_InvalidPlace => k_is)
    (case em_InvalidPlace => k_is)
    (case eu_InvalidPlace => first | ks_is | k_is)
    (case ev_InvalidPlace => k_is)
    (case ega_InvalidPlace => k_is)
    (case egg_InvalidPlace => k_is)
    (case ehd_InvalidPlace => k_is)
    (case eti_InvalidPlace => k_is)
    (case xb_InvalidPlace_InvalidName => k_is)
    (case xi_InvalidPlace_InvalidName => k_is)
    (case xt_InvalidPlace_InvalidName => k_is)
    (case xs_InvalidPlace_InvalidName => first | rfl | k_is)
    (case xb_InvalidPlace_InvalidRule => k_is)
    (case xi_InvalidPlace_InvalidRule => k_is)
    (case xt_InvalidPlace_InvalidRule => k_is)
    (case xs_InvalidPlace_InvalidRule => first | rfl | k_is)
    (case xb_InvalidPlace_InvalidPlace => k_is)
    (case xi_InvalidPlace_InvalidPlace => k_is)
    (case xt_InvalidPlace_InvalidPlace => k_is)
    (case xs_InvalidPlace_InvalidPlace => first | rfl | k_is)
    (case no_InvalidPlace_at => k_is)
    (case no_InvalidPlace_code => k_is)
    (case el_BadTree => k_is)
    (case es_BadTree => k_is)
    (case eb_BadTree => k_is)
    (case et_BadTree => k_is)
    (case ek_BadTree => k_is)
    (case em_BadTree => k_is)
    (case eu_BadTree => first | ks_is | k_is)
    (case ev_BadTree => k_is)
    (case ega_BadTree => k_is)
    (case egg_BadTree => k_is)
    (case ehd_BadTree => k_is)
    (case eti_BadTree => k_is)
    (case xb_BadTree_InvalidName => k_is)
    (case xi_BadTree_InvalidName => k_is)
    (case xt_BadTree_InvalidName => k_is)
    (case xs_BadTree_InvalidName => first | rfl | k_is)
    (case xb_BadTree_InvalidRule => k_is)
    (case xi_BadTree_InvalidRule => k_is)
    (case xt_BadTree_InvalidRule => k_is)
    (case xs_BadTree_InvalidRule => first | rfl | k_is)
    (case xb_BadTree_InvalidPlace => k_is)
    (case xi_BadTree_InvalidPlace => k_is)
    (case xt_BadTree_InvalidPlace => k_is)
    (case xs_BadTree_InvalidPlace => first | rfl | k_is)
    (case xb_BadTree_BadTree => k_is)
    (case xi_BadTree_BadTree => k_is)
    (case xt_BadTree_BadTree => k_is)
    (case xs_BadTree_BadTree => first | rfl | k_is)
    (case no_BadTree_place => k_is)
    (case no_BadTree_code => k_is)
    (case el_TooMany => k_is)
    (case es_TooMany => k_is)
    (case eb_TooMany => k_is)
    (case et_TooMany => k_is)
    (case ek_TooMany => k_is)
    (case em_TooMany => k_is)
    (case eu_TooMany => first | ks_is | k_is)
    (case ev_TooMany => k_is)
    (case ega_TooMany => k_is)
    (case egg_TooMany => k_is)
    (case ehd_TooMany => k_is)
    (case eti_TooMany => k_is)
    (case xb_TooMany_InvalidName => k_is)
    (case xi_TooMany_InvalidName => k_is)
    (case xt_TooMany_InvalidName => k_is)
    (case xs_TooMany_InvalidName => first | rfl | k_is)
    (case xb_TooMany_InvalidRule => k_is)
    (case xi_TooMany_InvalidRule => k_is)
    (case xt_TooMany_InvalidRule => k_is)
    (case xs_TooMany_InvalidRule => first | rfl | k_is)
    (case xb_TooMany_InvalidPlace => k_is)
    (case xi_TooMany_InvalidPlace => k_is)
    (case xt_TooMany_InvalidPlace => k_is)
    (case xs_TooMany_InvalidPlace => first | rfl | k_is)
    (case xb_TooMany_BadTree => k_is)
    (case xi_TooMany_BadTree => k_is)
    (case xt_TooMany_BadTree => k_is)
    (case xs_TooMany_BadTree => first | rfl | k_is)
    (case xb_TooMany_TooMany => k_is)
    (case xi_TooMany_TooMany => k_is)
    (case xt_TooMany_TooMany => k_is)
    (case xs_TooMany_TooMany => first | rfl | k_is)
    (case no_TooMany_what => k_is)
    (case no_TooMany_count => k_is)
    (case no_TooMany_code => k_is)
    (case pg_Place => k_is)
    (case hd_Place => k_is)
    (case po_Place => k_is)
    (case sa_Place => k_is)
    (case mk_Place => k_is)
    (case kc_Place => k_is)
    (case th_Place => k_is)
    (case tn_Place => k_is)
    (case tk_Place => k_is)
    (case tm_Place => k_is)
    (case kt_Place_Place => first | k_is | kernel_rfl)
    (case kt_Place_Rule => first | k_is | kernel_rfl)
    (case no_Place_name => k_is)
    (case no_Place_server => k_is)
    (case no_Place_elder => k_is)
    (case no_Place_memory => k_is)
    (case no_Place_customer => k_is)
    (case eqf_Place => k_is)
    (case eqi_Place => k_is)
    (case nf_Place_str => first | k_is | kernel_rfl)
    (case nf_Place_int => first | k_is | kernel_rfl)
    (case nf_Place => first | k_is | kernel_rfl)
    (case ktt_Place_int => first | k_is | kernel_rfl)
    (case ktt_Place_bool => first | k_is | kernel_rfl)
    (case ktt_Place_str => first | k_is | kernel_rfl)
    (case ktt_Place_list => first | k_is | kernel_rfl)
    (case ktt_Place_tuple => first | k_is | kernel_rfl)
    (case ktt_Place_dict => first | k_is | kernel_rfl)
    (case kb_int_Place => first | k_is | kernel_rfl)
    (case kb_bool_Place => first | k_is | kernel_rfl)
    (case kb_str_Place => first | k_is | kernel_rfl)
    (case kb_NoneType_Place => first | k_is | kernel_rfl)
    (case kb_list_Place => first | k_is | kernel_rfl)
    (case kb_tuple_Place => first | k_is | kernel_rfl)
    (case kb_dict_Place => first | k_is | kernel_rfl)
    (case pg_Tree => k_is)
    (case hd_Tree => k_is)
    (case po_Tree => k_is)
    (case sa_Tree => k_is)
    (case mk_Tree => k_is)
    (case kc_Tree => k_is)
    (case th_Tree => k_is)
    (case tn_Tree => k_is)
    (case tk_Tree => k_is)
    (case tm_Tree => k_is)
    (case kt_Tree_Tree => first | k_is | kernel_rfl)
    (case no_Tree_rule => k_is)
    (case no_Tree_places => k_is)
    (case no_Tree_by_name => k_is)
    (case no_Tree_children => k_is)
    (case no_Tree_tops => k_is)
    (case me_Tree_fits => k_is)
    (case mi_Tree_fits => k_is)
    (case me_Tree_places => k_is)
    (case mi_Tree_places => k_is)
    (case lt_Tree => k_is)
    (case kb_int_Rest => first | k_is | kernel_rfl)
    (case kb_bool_Rest => first | k_is | kernel_rfl)
    (case kb_str_Rest => first | k_is | kernel_rfl)
    (case kb_NoneType_Rest => first | k_is | kernel_rfl)
    (case kb_list_Rest => first | k_is | kernel_rfl)
    (case kb_tuple_Rest => first | k_is | kernel_rfl)
    (case kb_dict_Rest => first | k_is | kernel_rfl)
    (case pg_Window => k_is)
    (case hd_Window => k_is)
    (case po_Window => k_is)
    (case sa_Window => k_is)
    (case mk_Window => k_is)
    (case kc_Window => k_is)
    (case th_Window => k_is)
    (case tn_Window => k_is)
    (case tk_Window => k_is)
    (case tm_Window => k_is)
    (case kt_Window_Rest => first | k_is | kernel_rfl)
    (case kt_Window_Window => first | k_is | kernel_rfl)
    (case kt_Window_Place => first | k_is | kernel_rfl)
    (case kt_Window_Rule => first | k_is | kernel_rfl)
    (case su_Window => k_is)
    (case sm_Window => first | ks_is | k_is)
    (case sf_Window => k_is)
    (case st_Window => k_is)
    (case no_Window_text => k_is)
    (case no_Window_forms => k_is)
    (case no_Window_period => k_is)
    (case no_Window_bend => k_is)
    (case no_Window_width => k_is)
    (case eqf_Window => k_is)
    (case eqi_Window => k_is)
    (case nf_Window_str => first | k_is | kernel_rfl)
    (case nf_Window_int => first | k_is | kernel_rfl)
    (case nf_Window => first | k_is | kernel_rfl)
    (case ktt_Window_int => first | k_is | kernel_rfl)
    (case ktt_Window_bool => first | k_is | kernel_rfl)
    (case ktt_Window_str => first | k_is | kernel_rfl)
    (case ktt_Window_list => first | k_is | kernel_rfl)
    (case ktt_Window_tuple => first | k_is | kernel_rfl)
    (case ktt_Window_dict => first | k_is | kernel_rfl)
    (case kb_int_Window => first | k_is | kernel_rfl)
    (case kb_bool_Window => first | k_is | kernel_rfl)
    (case kb_str_Window => first | k_is | kernel_rfl)
    (case kb_NoneType_Window => first | k_is | kernel_rfl)
    (case kb_list_Window => first | k_is | kernel_rfl)
    (case kb_tuple_Window => first | k_is | kernel_rfl)
    (case kb_dict_Window => first | k_is | kernel_rfl)
    (case pg_Rule => k_is)
    (case hd_Rule => k_is)
    (case po_Rule => k_is)
    (case sa_Rule => k_is)
    (case mk_Rule => k_is)
    (case kc_Rule => k_is)
    (case th_Rule => k_is)
    (case tn_Rule => k_is)
    (case tk_Rule => k_is)
    (case tm_Rule => k_is)
    (case kt_Rule_Rule => first | k_is | kernel_rfl)
    (case kt_Rule_Place => first | k_is | kernel_rfl)
    (case kb_int_Rule => first | k_is | kernel_rfl)
    (case kb_bool_Rule => first | k_is | kernel_rfl)
    (case kb_str_Rule => first | k_is | kernel_rfl)
    (case kb_NoneType_Rule => first | k_is | kernel_rfl)
    (case kb_list_Rule => first | k_is | kernel_rfl)
    (case kb_tuple_Rule => first | k_is | kernel_rfl)
    (case kb_dict_Rule => first | k_is | kernel_rfl)
    (case no_Rule_name => k_is)
    (case no_Rule_chips => k_is)
    (case no_Rule_rest => k_is)

