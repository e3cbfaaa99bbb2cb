import PyProof.Rows.All
import Wide.All
import OpenK.AllK
import Wide.FinOn
import HandS.ForMost
import HandS.IsInst
import HandS.FStr
import HandS.Gcd
import HandS.Style
import HandS.Nested
import HandS.Walk
import KE.KSuper
import HandS.Star
import HandS.ExcInit
import HandS.TryMany
import HandS.ExcField
import HandS.ExcOwn
import HandS.WordsExc
import KE.KExcSuper
import HandS.More
import HandS.Text
import HandS.Flow
import HandS.Zip
import HandS.Small
import HandS.Lambda
import HandS.DictComp
import HandS.MakeKwOnly
import PyProof.ReprRoads
import HandS.TupAny
import KE.KTupSum
import KE.GoesMore
import PyProof.Draws
import PyProof.EnumMake
import PySem.Challenge.RW_surelet_k80_whole_leads_are_transitive
set_option Elab.async false
set_option linter.all false
set_option maxRecDepth 100000
set_option maxHeartbeats 4000000
/-! Kit: my own layer over the hand layer: names by one check each, operations by values, the steps of a reading, the bag of a law. -/
namespace Kit
open PySem PySem.Spec PyProof.Rows L2

/-! ### names -/
def visB (sc : Scope) (x : Str) : Bool :=
  (match sc.names.lookup x with | some .local => true | some .cell => true | some .free => true | _ => false) && (!(x == ("__debug__" : Str)) && !(x == ("__classdict__" : Str)))
theorem visB_ok {sc : Scope} {x : Str} (h : visB sc x = true) : Vis sc x ∧ (x == ("__debug__" : Str)) = false ∧ (x == ("__classdict__" : Str)) = false := by
  unfold visB at h
  simp only [Bool.and_eq_true, Bool.not_eq_true'] at h
  obtain ⟨h1, h2, h3⟩ := h
  refine ⟨?_, h2, h3⟩
  unfold Vis
  split at h1
  · exact .inl (by assumption)
  · exact .inr (.inl (by assumption))
  · exact .inr (.inr (by assumption))
  · cases h1
def locB (sc : Scope) (x : Str) : Bool := match sc.names.lookup x with | some .local => true | _ => false
def celB (sc : Scope) (x : Str) : Bool := match sc.names.lookup x with | some .cell => true | _ => false
theorem locB_ok {sc : Scope} {x : Str} (h : locB sc x = true) : sc.names.lookup x = some .local := by
  unfold locB at h
  split at h
  · assumption
  · cases h
theorem celB_ok {sc : Scope} {x : Str} (h : celB sc x = true) : sc.names.lookup x = some .cell := by
  unfold celB at h
  split at h
  · assumption
  · cases h
section
variable {X : Cx}
theorem kv {i : Nat} {x : Str} {pos : Pos} (h : visB X.env.scope x = true) (hN : X.N[i]? = some x := by rfl) : PE X (.Name x pos) (tVar i) :=
  let ⟨a, b, c⟩ := visB_ok h
  pe_var hN a b c
theorem kgL {i : Nat} {x : Str} {pos : Pos} (hN : X.N.Nodup) (h : locB X.env.scope x = true) (hi : X.N[i]? = some x := by rfl) : PG X (.Name x pos) (gName i) :=
  pg_name hN hi (.inl (locB_ok h)) (.inr (locB_ok h))
theorem kgC {i : Nat} {x : Str} {pos : Pos} (hN : X.N.Nodup) (h : celB X.env.scope x = true) (hi : X.N[i]? = some x := by rfl) (hf : X.fn x = true := by rfl) : PG X (.Name x pos) (gName i) :=
  pg_name hN hi (.inr (celB_ok h)) (.inl hf)
theorem ks_setL {i : Nat} {x : Str} {e : Expr} {te : TE} {p' pos : Pos} (hN : X.N.Nodup) (h : locB X.env.scope x = true) (he : PE X e te) (hi : X.N[i]? = some x := by rfl) (hs : swapsWith e (some (.Name x p')) pos.line X.env = pure false := by rfl) :
    PS X (.Assign [.Name x p'] e pos) (tAsg te (gName i)) := ps_set hN hi (.inl (locB_ok h)) he hs (.inr (locB_ok h))
theorem ks_setC {i : Nat} {x : Str} {e : Expr} {te : TE} {p' pos : Pos} (hN : X.N.Nodup) (h : celB X.env.scope x = true) (he : PE X e te) (hi : X.N[i]? = some x := by rfl) (hs : swapsWith e (some (.Name x p')) pos.line X.env = pure false := by rfl) (hf : X.fn x = true := by rfl) :
    PS X (.Assign [.Name x p'] e pos) (tAsg te (gName i)) := ps_set hN hi (.inr (celB_ok h)) he hs (.inl hf)

/-! ### built-in names -/
section
variable {e : Expr} {es : List Expr} {t : TA} {p pos : Pos}
theorem kty_int (hg : Gl X "int") (hm : X.mg "int" = none) : PE X (.Name "int" pos) (tC (.ty "int")) := pe_bltn hg hm (u := .type "int") (by decide +kernel) rfl
theorem kty_bool (hg : Gl X "bool") (hm : X.mg "bool" = none) : PE X (.Name "bool" pos) (tC (.ty "bool")) := pe_bltn hg hm (u := .type "bool") (by decide +kernel) rfl
theorem kty_str (hg : Gl X "str") (hm : X.mg "str" = none) : PE X (.Name "str" pos) (tC (.ty "str")) := pe_bltn hg hm (u := .type "str") (by decide +kernel) rfl
theorem kty_list (hg : Gl X "list") (hm : X.mg "list" = none) : PE X (.Name "list" pos) (tC (.ty "list")) := pe_bltn hg hm (u := .type "list") (by decide +kernel) rfl
theorem kty_tuple (hg : Gl X "tuple") (hm : X.mg "tuple" = none) : PE X (.Name "tuple" pos) (tC (.ty "tuple")) := pe_bltn hg hm (u := .type "tuple") (by decide +kernel) rfl
theorem kty_dict (hg : Gl X "dict") (hm : X.mg "dict" = none) : PE X (.Name "dict" pos) (tC (.ty "dict")) := pe_bltn hg hm (u := .type "dict") (by decide +kernel) rfl
theorem kcls {x : Str} {C : Addr} (hg : Gl X x) (hm : X.mg x = some (.ref C)) (hd : (x == ("__debug__" : Str)) = false := by decide) : PE X (.Name x pos) (tC (.ref C)) := pe_glob (v := .ref C) hg hm rfl hd
theorem kcB {x : Str} {id : String} {r : List V → Hp → VK → Prop} (hv : bootBuiltins x = some (.builtin id)) (hn : x ≠ "__name__") (hdb : (x == ("__debug__" : Str)) = false) (hc : CallR X (.builtin id) r) (hg : Gl X x) (hm : X.mg x = none) (ha : PA X (e :: es) t)
    (he : starEach (e :: es) X.env = (false, eval e X.env) :: starEach es X.env := by rfl) (hpl : (backTo pos (starEach es X.env)).any (·.1) = false := by rfl) : PE X (.Call (.Name x p) (e :: es) [] pos) (tCB r t) := pe_callB hc hg hm hv ha hn hdb he hpl
theorem kcT {x : Str} {T : String} {r : List V → Hp → VK → Prop} (hv : bootBuiltins x = some (.type T)) (hn : x ≠ "__name__") (hdb : (x == ("__debug__" : Str)) = false) (hc : CallR X (.type T) r) (hg : Gl X x) (hm : X.mg x = none) (ha : PA X (e :: es) t)
    (he : starEach (e :: es) X.env = (false, eval e X.env) :: starEach es X.env := by rfl) (hpl : (backTo pos (starEach es X.env)).any (·.1) = false := by rfl) : PE X (.Call (.Name x p) (e :: es) [] pos) (tCB r t) := pe_callTy hc hg hm hv ha hn hdb he hpl
theorem b_len : bootBuiltins "len" = some (.builtin "len") := by decide +kernel
theorem b_isinstance : bootBuiltins "isinstance" = some (.builtin "isinstance") := by decide +kernel
theorem b_max : bootBuiltins "max" = some (.builtin "max") := by decide +kernel
theorem b_min : bootBuiltins "min" = some (.builtin "min") := by decide +kernel
theorem b_abs : bootBuiltins "abs" = some (.builtin "abs") := by decide +kernel
theorem b_all : bootBuiltins "all" = some (.builtin "all") := by decide +kernel
theorem b_any : bootBuiltins "any" = some (.builtin "any") := by decide +kernel
theorem b_sum : bootBuiltins "sum" = some (.builtin "sum") := by decide +kernel
theorem b_ord : bootBuiltins "ord" = some (.builtin "ord") := by decide +kernel
theorem b_sorted : bootBuiltins "sorted" = some (.builtin "sorted") := by decide +kernel
theorem b_int : bootBuiltins "int" = some (.type "int") := by decide +kernel
theorem b_str : bootBuiltins "str" = some (.type "str") := by decide +kernel
theorem b_bool : bootBuiltins "bool" = some (.type "bool") := by decide +kernel
theorem b_list : bootBuiltins "list" = some (.type "list") := by decide +kernel
theorem b_tuple : bootBuiltins "tuple" = some (.type "tuple") := by decide +kernel
theorem b_dict : bootBuiltins "dict" = some (.type "dict") := by decide +kernel
end

/-! ### operations by values -/
def rAddU : R2 := fun x y H Q => match x, y with
  | .int i, .int j => Q (.int (i + j)) H
  | .str a, .str b => a.length + b.length ≤ sizeLine ∧ Q (.str (a ++ b)) H
  | .ref a, .ref b => ∃ xs ys, H a = some (.lst xs) ∧ H b = some (.lst ys) ∧ xs.length + ys.length ≤ sizeLine ∧ ∀ p, H p = none → Q (.ref p) (upd H p (.lst (xs ++ ys)))
  | _, _ => False
theorem kop_add : OpR X (binaryOp .Add) rAddU := by
  intro pins s σ H x y v u Q I rx ry h
  cases x <;> cases y <;> first
    | exact h.elim
    | exact op_add pins s σ H _ _ v u Q I rx ry ⟨_, _, rfl, rfl, h⟩
    | exact op_add_str pins s σ H _ _ v u Q I rx ry ⟨_, _, rfl, rfl, h.1, h.2⟩
    | (obtain ⟨xs, ys, h1, h2, h3, h4⟩ := h; exact op_cat pins s σ H _ _ v u Q I rx ry ⟨_, _, xs, ys, rfl, rfl, h1, h2, h3, h4⟩)
/-- math.lcm of two numbers from 0 on, below 2 ^ 32 -/
def rLcm : List V → Hp → VK → Prop := fun vs H Q => ∃ a b : Int, vs = [.int a, .int b] ∧ 0 ≤ a ∧ a < 2 ^ 32 ∧ 0 ≤ b ∧ b < 2 ^ 32 ∧ Q (.int ((Nat.lcm a.natAbs b.natAbs : Nat) : Int)) H
theorem kcr_lcm : CallR X (.builtin "math.lcm") rLcm := by
  intro pins s σ H vs us Q I r h
  obtain ⟨a, b, rfl, ha, ha2, hb, hb2, q⟩ := h
  obtain ⟨t, u, rfl⟩ := Vals.int2 r
  have e : (Nat.lcm 1 a.natAbs).lcm b.natAbs = Nat.lcm a.natAbs b.natAbs := by rw [Nat.lcm_one_left]
  have hle : Nat.lcm a.natAbs b.natAbs < 2 ^ 64 := by
    by_cases h0 : a.natAbs = 0
    · rw [h0, Nat.lcm_zero_left]; decide
    · by_cases h1 : b.natAbs = 0
      · rw [h1, Nat.lcm_zero_right]; decide
      · have q1 : Nat.lcm a.natAbs b.natAbs ≤ a.natAbs * b.natAbs := Nat.le_of_dvd (Nat.mul_pos (by omega) (by omega)) (Nat.lcm_dvd (Nat.dvd_mul_right _ _) (Nat.dvd_mul_left _ _))
        have q2 : a.natAbs * b.natAbs < 2 ^ 32 * 2 ^ 32 := Nat.mul_lt_mul'' (by omega) (by omega)
        omega
  refine PySem.W.mg_lcm (by omega) (by omega) ?_ ?_
  · rw [e, Int.natAbs_natCast]
    by_cases h0 : Nat.lcm a.natAbs b.natAbs = 0
    · rw [h0]; decide
    · have : (Nat.lcm a.natAbs b.natAbs).log2 < 64 := (Nat.log2_lt h0).mpr hle
      exact Nat.lt_of_lt_of_le this (by decide)
  · rw [e]
    exact ⟨.int _, H, I.tok _, ⟨_, rfl⟩, q⟩
end


/-! ### rules with the written part told -/
section
variable {X : Cx}
/-- a statement whose ways meet in W -/
def tMeet (t u : TS) : TS := fun D σ H => ∃ W : L2.St → Hp → Prop, t { D with nx := W } σ H ∧ ∀ σ' H', W σ' H' → u D σ' H'
theorem kss_meet {st : Stmt} {rest : List Stmt} {t u : TS} (h1 : PS X st t) (h2 : PSs X rest u) : PSs X (st :: rest) (tMeet t u) := by
  refine ⟨fun pins s σ H D I h => ?_⟩
  obtain ⟨W, hw, hu⟩ := h
  refine wpAny_execs_cons (thn (h1.run pins s σ H _ I hw) fun f s' hf => ?_)
  cases f with
  | next =>
    obtain ⟨σ', H', I', q⟩ := hf
    exact h2.run pins s' σ' H' D I' (hu σ' H' q)
  | ret u => exact hf
  | brk => exact hf
  | cont => exact hf
theorem kix (K : PySem.W.Frag) (hK : X.K = K := by rfl) : IxR X (rIx K) := by subst hK; exact ix_seq
def rLenU (K : PySem.W.Frag) : List V → Hp → VK → Prop := fun xs H Q => ∃ x n, xs = [x] ∧ LenV K x H n ∧ Q (.int (n : Nat)) H
theorem kc_len (K : PySem.W.Frag) (hK : X.K = K := by rfl) : CallR X (.builtin "len") (rLenU K) := by subst hK; exact call_len
def rInt1 : List V → Hp → VK → Prop := fun xs H Q => match xs with
  | [.int i] => Q (.int i) H
  | [.bl k] => Q (.int (if k then 1 else 0)) H
  | _ => False
theorem kc_int : CallR X (.type "int") rInt1 := by
  intro pins s σ H xs us Q I r h
  match xs, r, h with
  | [.int i], r, h => exact call_int1 pins s σ H _ us Q I r (.inl ⟨i, rfl, h⟩)
  | [.bl k], r, h => exact call_int1 pins s σ H _ us Q I r (.inr ⟨k, rfl, h⟩)
def rBool1 : List V → Hp → VK → Prop := fun xs H Q => match xs with
  | [.int i] => Q (.bl (i != 0)) H
  | [.bl k] => Q (.bl k) H
  | _ => False
theorem kc_bool : CallR X (.type "bool") rBool1 := by
  intro pins s σ H xs us Q I r h
  match xs, r, h with
  | [.int i], r, h => exact call_bool1 pins s σ H _ us Q I r (.inl ⟨i, rfl, h⟩)
  | [.bl k], r, h => exact call_bool1 pins s σ H _ us Q I r (.inr ⟨k, rfl, h⟩)
def rStr1 : List V → Hp → VK → Prop := fun xs H Q => ∃ i : Int, xs = [.int i] ∧ i.natAbs.log2 < 1920 ∧ Q (.str (toString i)) H
theorem kc_str : CallR X (.type "str") rStr1 := call_str_int
def rListU (K : PySem.W.Frag) : List V → Hp → VK → Prop := fun xs H Q => ∃ p ys, xs = [.ref p] ∧ (SqL K H p ys ∨ SqT K H p ys) ∧ ∀ l, H l = none → Q (.ref l) (upd H l (.lst ys))
theorem kc_list (K : PySem.W.Frag) (hK : X.K = K := by rfl) : CallR X (.type "list") (rListU K) := by subst hK; exact call_list_of
def rTupleU (K : PySem.W.Frag) : List V → Hp → VK → Prop := fun xs H Q => ∃ p ys, xs = [.ref p] ∧ ((SqL K H p ys ∧ ∀ l, H l = none → Q (.ref l) (upd H l (.tup ys))) ∨ (SqT K H p ys ∧ Q (.ref p) H))
theorem kc_tuple (K : PySem.W.Frag) (hK : X.K = K := by rfl) : CallR X (.type "tuple") (rTupleU K) := by subst hK; exact call_tuple_of
theorem kc_isi (K : PySem.W.Frag) (hK : X.K = K := by rfl) : CallR X (.builtin "isinstance") (rIsi K) := by subst hK; exact call_isi
theorem kc_isiT (K : PySem.W.Frag) (hK : X.K = K := by rfl) : CallR X (.builtin "isinstance") (rIsiT K) := by subst hK; exact call_isiT
def rMax2 : List V → Hp → VK → Prop := fun xs H Q => match xs with
  | [.int i, .int j] => Q (.int (if j > i then j else i)) H
  | _ => False
theorem kc_max2 (hc : X.calm = true) : CallR X (.builtin "max") rMax2 := by
  intro pins s σ H xs us Q I r h
  match xs, r, h with
  | [.int i, .int j], r, h => exact call_max2 hc pins s σ H _ us Q I r ⟨i, j, rfl, h⟩
def rMin2 : List V → Hp → VK → Prop := fun xs H Q => match xs with
  | [.int i, .int j] => Q (.int (if j < i then j else i)) H
  | _ => False
theorem kc_min2 (hc : X.calm = true) : CallR X (.builtin "min") rMin2 := by
  intro pins s σ H xs us Q I r h
  match xs, r, h with
  | [.int i, .int j], r, h => exact call_min2 hc pins s σ H _ us Q I r ⟨i, j, rfl, h⟩
theorem kc_sum (K : PySem.W.Frag) (hc : X.calm = true) (hK : X.K = K := by rfl) : CallR X (.builtin "sum") (rSum K) := by subst hK; exact cr_sum hc
theorem ksl_list (K : PySem.W.Frag) (hK : X.K = K := by rfl) : SlR X (rSlL K) := by subst hK; exact sl_list
theorem kpi_list (K : PySem.W.Frag) {tg l : Expr} {tl : TE} (hl : PE X l tl) (hK : X.K = K := by rfl) : PI X tg l (iList K tl) := by subst hK; exact pi_list hl
theorem kpi_tup (K : PySem.W.Frag) {tg l : Expr} {tl : TE} (hl : PE X l tl) (hK : X.K = K := by rfl) : PI X tg l (iTup K tl) := by subst hK; exact pi_tup hl
theorem kpe_fld (K : PySem.W.Frag) {e : Expr} {f : Str} {ta : TE} {pos : Pos} (he : PE X e ta) (hK : X.K = K := by rfl) (hb : attributeBase e f X.env (eval e X.env) = eval e X.env := by rfl) : PE X (.Attribute e f pos) (tFld K ta f) := by subst hK; exact pe_fld he hb
theorem kps_fld (K : PySem.W.Frag) {o value : Expr} {f : Str} {ta tv : TE} {pos pos' : Pos} (ha : PE X o ta) (hv : PE X value tv) (hK : X.K = K := by rfl) (hs : swapsWith value (some (.Attribute o f pos')) pos.line X.env = pure false := by rfl) : PS X (.Assign [.Attribute o f pos'] value pos) (sFld K ta tv f) := by subst hK; exact ps_fld ha hv hs
def tTruU (K : PySem.W.Frag) (ta : TE) : TT := fun σ H Q => ta σ H fun x H' => ∃ k, TruV K x H' k ∧ Q k H'
theorem kpt_truth (K : PySem.W.Frag) {a : Expr} {ta : TE} (ha : PE X a ta) (hK : X.K = K := by rfl) (he : ∀ whole, isTrue a X.env whole = (do let v ← whole; standAt a.pos; holding [v] (truthy v)) := by intro _; rfl) : PT X a (tTruU K ta) := by subst hK; exact pt_truth ha he
theorem kop_in (K : PySem.W.Frag) (hK : X.K = K := by rfl) : OpR X (compareOp .In) (rIn K false) := by subst hK; exact op_in_seq
theorem kop_nin (K : PySem.W.Frag) (hK : X.K = K := by rfl) : OpR X (compareOp .NotIn) (rIn K true) := by subst hK; exact op_notIn_seq
theorem kpg_tup (K : PySem.W.Frag) (n : Nat) {es : List Expr} {k : Nat} {t : TGs} {pos : Pos} (hc : X.calm = true) (h : PGs X es t) (hK : X.K = K := by rfl) (hn : (assignEach es X.env).length = n := by rfl) (hst : (assignEach es X.env).findIdx? (·.1) = none := by rfl) : PG X (.Tuple es k pos) (gTup K n t) := by subst hK; exact pg_tup hc h hn hst
end

theorem small_size' {n : Nat} (h : n ≤ 1000000) : n ≤ sizeLine := Nat.le_trans h (by rw [sizeLine_eq]; decide)
/-! ### the steps of a reading -/
section
variable {σ : L2.St} {H : Hp} {Q : VK} {D : Ends} {t u : TS} {te ta tb : TE} {tt tu : TT} {tA tr : TA} {g : TG} {i : Nat} {v x y : V} {r : R2}
theorem k_seq (h : t { D with nx := u D } σ H) : tSeq t u D σ H := h
theorem k_asg (h : te σ H fun x H1 => g x σ H1 D.nx) : tAsg te g D σ H := h
theorem k_gName {Q : L2.St → Hp → Prop} (h : Q (σ.set i (some v)) H) : gName i v σ H Q := h
theorem k_drop (h : te σ H fun _ H1 => D.nx σ H1) : tDrop te D σ H := h
theorem k_ret (h : te σ H D.rt) : tRet te D σ H := h
theorem k_retN (h : D.rt .non H) : tRetN D σ H := h
theorem k_next (h : D.nx σ H) : tNext D σ H := h
theorem k_break (h : D.bk σ H) : tBreak D σ H := h
theorem k_cont (h : D.ct σ H) : tCont D σ H := h
theorem k_ifS (h : tt σ H fun b H1 => if b = true then t D σ H1 else u D σ H1) : tIfS tt t u D σ H := h
theorem k_var (h : σ[i]? = some (some v)) (k : Q v H) : tVar i σ H Q := ⟨v, h, k⟩
theorem k_c (k : Q v H) : tC v σ H Q := k
theorem k_op (h : ta σ H fun x H1 => tb σ H1 fun y H2 => r x y H2 Q) : tOp r ta tb σ H Q := h
theorem k_un {r : V → Hp → VK → Prop} (h : ta σ H fun x H1 => r x H1 Q) : tUn r ta σ H Q := h
theorem k_test {Q : Bool → Hp → Prop} (h : te σ H fun x H' => ∃ k, x = .bl k ∧ Q k H') : tTest te σ H Q := h
theorem k_B {Q : Bool → Hp → Prop} (h : te σ H fun x H' => ∃ k, x = .bl k ∧ Q k H') : tB te σ H Q := h
theorem k_bl {b : Bool} {Q : Bool → Prop} (h : Q b) : ∃ k, V.bl b = .bl k ∧ Q k := ⟨b, rfl, h⟩
theorem k_and {Q : Bool → Hp → Prop} (h : tt σ H fun c H1 => if c = true then tu σ H1 Q else Q false H1) : tAnd tt tu σ H Q := h
theorem k_or {Q : Bool → Hp → Prop} (h : tt σ H fun c H1 => if c = true then Q true H1 else tu σ H1 Q) : tOr tt tu σ H Q := h
theorem k_not {Q : Bool → Hp → Prop} (h : tt σ H fun c H1 => Q (!c) H1) : tNot tt σ H Q := h
theorem k_andV (h : ta σ H fun x H1 => ∃ c, x = .bl c ∧ if c = true then tb σ H1 Q else Q (.bl false) H1) : tAndV ta tb σ H Q := h
theorem k_orV (h : ta σ H fun x H1 => ∃ c, x = .bl c ∧ if c = true then Q (.bl true) H1 else tb σ H1 Q) : tOrV ta tb σ H Q := h
theorem k_notV (h : ta σ H fun x H1 => ∃ c, x = .bl c ∧ Q (.bl (!c)) H1) : tNotV ta σ H Q := h
theorem k_if (h : tt σ H fun c H1 => if c = true then ta σ H1 Q else tb σ H1 Q) : tIf tt ta tb σ H Q := h
theorem k_nil {Q : List V → Hp → Prop} (h : Q [] H) : tNil σ H Q := h
theorem k_cons {Q : List V → Hp → Prop} (h : ta σ H fun x H1 => tr σ H1 fun xs H2 => Q (x :: xs) H2) : tCons ta tr σ H Q := h
theorem k_CB {r : List V → Hp → VK → Prop} (h : tA σ H fun vs H1 => r vs H1 Q) : tCB r tA σ H Q := h
theorem k_call {sp : Sp} {dvs : List V} {E : XK} (h : tA σ H fun vs H1 => sp (vs ++ dvs) H1 Q E) : tCall sp dvs E tA σ H Q := h
theorem k_tup (h : tA σ H fun xs H1 => xs.length ≤ sizeLine ∧ ∀ p, H1 p = none → Q (.ref p) (upd H1 p (.tup xs))) : tTup tA σ H Q := h
theorem k_lst (h : tA σ H fun xs H1 => xs.length ≤ sizeLine ∧ ∀ p, H1 p = none → Q (.ref p) (upd H1 p (.lst xs))) : tLst tA σ H Q := h
theorem k_tru {K : PySem.W.Frag} {Q : Bool → Hp → Prop} (h : ta σ H fun x H' => ∃ k, TruV K x H' k ∧ Q k H') : (fun (σ : L2.St) (H : Hp) (Q : Bool → Hp → Prop) => ta σ H fun x H' => ∃ k, TruV K x H' k ∧ Q k H') σ H Q := h
theorem k_gSub {to ti : TE} {t : TSet} {Q : L2.St → Hp → Prop} (h : to σ H fun o H1 => ti σ H1 fun i H2 => t o i v H2 fun H3 => Q σ H3) : gSub to ti t v σ H Q := h
theorem k_par {i j : Nat} (h : tA σ H fun vs H1 => ∃ v w, vs = [v, w] ∧ D.nx ((σ.set i (some v)).set j (some w)) H1) : tPar i j tA D σ H := h
theorem k_pair {v w : V} {P : V → V → Prop} (h : P v w) : ∃ a b, [v, w] = [a, b] ∧ P a b := ⟨v, w, rfl, h⟩
theorem k_sl {r : V → Option Int → Option Int → Hp → VK → Prop} {tl th : TO} (h : te σ H fun x H1 => tl σ H1 fun l H2 => th σ H2 fun u H3 => r x l u H3 Q) : tSl r te tl th σ H Q := h
theorem k_noPart {Q : Option Int → Hp → Prop} (h : Q none H) : tNoPart σ H Q := h
theorem k_part {Q : Option Int → Hp → Prop} (h : te σ H fun x H1 => ∃ i, x = .int i ∧ Q (some i) H1) : tPart te σ H Q := h
theorem k_int {i : Int} {P : Int → Prop} (h : P i) : ∃ j, V.int i = .int j ∧ P j := ⟨i, rfl, h⟩

/-- values -/
theorem k_addI {i j : Int} (k : Q (.int (i + j)) H) : rAddU (.int i) (.int j) H Q := k
theorem k_I0 {f : Int → Int → V} {i j : Int} (k : Q (f i j) H) : rI0 f (.int i) (.int j) H Q := ⟨i, j, rfl, rfl, k⟩
theorem k_I {C : Int → Int → Prop} {f : Int → Int → V} {i j : Int} (c : C i j) (k : Q (f i j) H) : rI C f (.int i) (.int j) H Q := ⟨i, j, rfl, rfl, c, k⟩
theorem k_U {f : Int → V} {i : Int} (k : Q (f i) H) : rU f (.int i) H Q := ⟨i, rfl, k⟩
theorem k_eq {x y : V} (s : scal x y = true) (k : Q (.bl (decide (x = y))) H) : rEq x y H Q := ⟨s, k⟩
theorem k_ne {x y : V} (s : scal x y = true) (k : Q (.bl (!decide (x = y))) H) : rNe x y H Q := ⟨s, k⟩
theorem k_eqI {i j : Int} (k : Q (.bl (decide (i = j))) H) : rEq (.int i) (.int j) H Q := ⟨rfl, by
  have e : decide (V.int i = V.int j) = decide (i = j) := by simp
  rw [e]; exact k⟩
theorem k_neI {i j : Int} (k : Q (.bl (!decide (i = j))) H) : rNe (.int i) (.int j) H Q := ⟨rfl, by
  have e : decide (V.int i = V.int j) = decide (i = j) := by simp
  rw [e]; exact k⟩
theorem k_ixL {K : PySem.W.Frag} {p : Addr} {xs : List V} {i : Int} (h : SqL K H p xs) (a : atI xs i = some v) (k : Q v H) : rIx K (.ref p) (.int i) H Q := .inl ⟨p, xs, i, v, rfl, rfl, h, a, k⟩
theorem k_ixT {K : PySem.W.Frag} {p : Addr} {xs : List V} {i : Int} (h : SqT K H p xs) (a : atI xs i = some v) (k : Q v H) : rIx K (.ref p) (.int i) H Q := .inr (.inl ⟨p, xs, i, v, rfl, rfl, h, a, k⟩)
theorem k_ixS {K : PySem.W.Frag} {z : Str} {i : Int} {c : Nat} (h : z.length ≤ sizeLine) (a : atI z.cps.toList i = some c) (k : Q (.str ⟨#[c]⟩) H) : rIx K (.str z) (.int i) H Q := .inr (.inr ⟨z, i, c, rfl, rfl, h, a, k⟩)
theorem k_meet {σ : L2.St} {H : Hp} {D : Ends} {t u : TS} (W : L2.St → Hp → Prop) (h : t { D with nx := W } σ H) (k : ∀ σ' H', W σ' H' → u D σ' H') : tMeet t u D σ H := ⟨W, h, k⟩
theorem k_addL {p q : Addr} {xs ys : List V} {H : Hp} {Q : VK} (h1 : H p = some (.lst xs)) (h2 : H q = some (.lst ys)) (hz : xs.length + ys.length ≤ 1000000) (k : ∀ l, H l = none → Q (.ref l) (upd H l (.lst (xs ++ ys)))) : rAddU (.ref p) (.ref q) H Q := ⟨xs, ys, h1, h2, small_size' hz, k⟩
theorem k_addS {a b : Str} {H : Hp} {Q : VK} (hz : a.length + b.length ≤ 1000000) (k : Q (.str (a ++ b)) H) : rAddU (.str a) (.str b) H Q := ⟨small_size' hz, k⟩
theorem k_int1 {i : Int} (k : Q (.int i) H) : rInt1 [.int i] H Q := k
theorem k_lenL {K : PySem.W.Frag} {p : Addr} {xs : List V} (h : SqL K H p xs) (k : Q (.int (xs.length : Nat)) H) : rLenU K [.ref p] H Q := ⟨_, _, rfl, .inl ⟨xs, h, rfl⟩, k⟩
theorem k_lenT {K : PySem.W.Frag} {p : Addr} {xs : List V} (h : SqT K H p xs) (k : Q (.int (xs.length : Nat)) H) : rLenU K [.ref p] H Q := ⟨_, _, rfl, .inr ⟨xs, h, rfl⟩, k⟩
theorem k_lenS {K : PySem.W.Frag} {z : Str} (h : z.length ≤ sizeLine) (k : Q (.int (z.length : Nat)) H) : rLenU K [.str z] H Q := ⟨_, _, rfl, ⟨h, rfl⟩, k⟩
theorem k_max2 {i j : Int} (k : Q (.int (if j > i then j else i)) H) : rMax2 [.int i, .int j] H Q := k
theorem k_min2 {i j : Int} (k : Q (.int (if j < i then j else i)) H) : rMin2 [.int i, .int j] H Q := k
theorem k_setL {p : Addr} {xs : List V} {k : Int} {j : Nat} {w : V} {Q : Hp → Prop} (h : H p = some (.lst xs)) (e : ixN xs.length k = some j) (q : Q (upd H p (.lst (xs.set j w)))) : rSetL (.ref p) (.int k) w H Q := ⟨p, xs, k, j, rfl, rfl, h, e, q⟩
/-- tests whose answer is known, or open -/
theorem k_t {A B : Prop} (h : A) : if true = true then A else B := by rw [if_pos rfl]; exact h
theorem k_f {A B : Prop} (h : B) : if false = true then A else B := by rw [if_neg Bool.false_ne_true]; exact h
theorem k_t' {A B : Prop} (h : A) : if (!false) = true then A else B := k_t (B := B) h
theorem k_f' {A B : Prop} (h : B) : if (!true) = true then A else B := k_f (A := A) h
theorem k_o1 {b : Bool} {A B : Prop} (h : A) : if (true || b) = true then A else B := k_t (B := B) h
theorem k_o2 {A B : Prop} (h : A) : if (false || true) = true then A else B := k_t (B := B) h
theorem k_o3 {A B : Prop} (h : B) : if (false || false) = true then A else B := k_f (A := A) h
theorem k_o4 {b : Bool} {A B : Prop} (h : B) : if (!(true || b)) = true then A else B := k_f (A := A) h
theorem k_o5 {A B : Prop} (h : B) : if (!(false || true)) = true then A else B := k_f (A := A) h
theorem k_o6 {A B : Prop} (h : A) : if (!(false || false)) = true then A else B := k_t (B := B) h
theorem k_chain {r r' : R2} {tc : TE} (h : ta σ H fun x H1 => tb σ H1 fun y H2 => r x y H2 fun z H3 => ∃ k, z = .bl k ∧ (if k = true then tc σ H3 fun w' H4 => r' y w' H4 Q else Q (.bl false) H3)) : tChain r r' ta tb tc σ H Q := h
theorem k_dt {c : Prop} [Decidable c] {A B : Prop} (hc : c) (h : A) : if decide c = true then A else B := by rw [decide_eq_true hc]; exact k_t h
theorem k_df {c : Prop} [Decidable c] {A B : Prop} (hc : ¬ c) (h : B) : if decide c = true then A else B := by rw [decide_eq_false hc]; exact k_f h
theorem k_d {c : Prop} [Decidable c] {A B : Prop} (h1 : c → A) (h2 : ¬ c → B) : if decide c = true then A else B := by
  by_cases hc : c
  · exact k_dt hc (h1 hc)
  · exact k_df hc (h2 hc)
theorem k_nt {c : Prop} [Decidable c] {A B : Prop} (hc : c) (h : B) : if (!decide c) = true then A else B := by rw [decide_eq_true hc]; exact k_f h
theorem k_nf {c : Prop} [Decidable c] {A B : Prop} (hc : ¬ c) (h : A) : if (!decide c) = true then A else B := by rw [decide_eq_false hc]; exact k_t h
theorem k_n {c : Prop} [Decidable c] {A B : Prop} (h1 : c → B) (h2 : ¬ c → A) : if (!decide c) = true then A else B := by
  by_cases hc : c
  · exact k_nt hc (h1 hc)
  · exact k_nf hc (h2 hc)
theorem k_b {b : Bool} {A B : Prop} (h1 : b = true → A) (h2 : b = false → B) : if b = true then A else B := by
  cases b with
  | true => exact k_t (h1 rfl)
  | false => exact k_f (h2 rfl)
end

/-! ### heaps -/
theorem same_new {H : Hp} {p : Addr} {o : HO} (h : H p = none) : Same H (upd H p o) := fun a u e => by
  rw [upd_ne (ne_of_none e h)]
  exact e
theorem same_t {K : PySem.W.Frag} {H H' : Hp} {a : Addr} {xs : List V} (e : Same H H') (h : SqT K H a xs) : SqT K H' a xs := by
  rcases h with (h | ⟨o, h⟩) | h
  · exact .inl (.inl (e _ _ h))
  · exact .inl (.inr ⟨o, e _ _ h⟩)
  · exact .inr h
/-- over a heap G that does not know b, b's object put on top -/
theorem up_same {G : Hp} {b : Addr} {β : HO} (hb : G b = none) : Same G (upd G b β) := same_new hb
theorem up_get {G : Hp} {a b : Addr} {o β : HO} (hb : G b = none) (h : G a = some o) : upd G b β a = some o := same_new hb _ _ h
theorem up_none {G : Hp} {p b : Addr} {β : HO} (h : upd G b β p = none) : G p = none ∧ p ≠ b := by
  by_cases e : p = b
  · rw [e, upd_same] at h; cases h
  · rw [upd_ne e] at h; exact ⟨h, e⟩
theorem upd_swap {G : Hp} {a b : Addr} {o β : HO} (h : a ≠ b) : upd (upd G b β) a o = upd (upd G a o) b β := by
  funext c
  unfold upd
  by_cases h1 : c = a
  · subst h1
    simp [h]
  · simp [h1]
theorem up_new {G : Hp} {b : Addr} {β o : HO} {P : Addr → Hp → Prop} (hb : G b = none) (k : ∀ p G', G p = none → p ≠ b → G' = upd G p o → G' b = none → Same G G' → G' p = some o → P p (upd G' b β)) :
    ∀ p, upd G b β p = none → P p (upd (upd G b β) p o) := fun p hp => by
  obtain ⟨h1, h2⟩ := up_none hp
  rw [upd_swap h2]
  exact k p _ h1 h2 rfl (by rw [upd_ne (Ne.symm h2)]; exact hb) (same_new h1) upd_same
theorem k_setLu {G : Hp} {b : Addr} {xs ys : List V} {k : Int} {j : Nat} {w : V} {Q : Hp → Prop} (e : ixN xs.length k = some j) (ey : xs.set j w = ys) (q : Q (upd G b (.lst ys))) : rSetL (.ref b) (.int k) w (upd G b (.lst xs)) Q := by
  subst ey
  exact k_setL upd_same e (by rw [upd_upd]; exact q)
theorem upd_at {H H' : Hp} {p : Addr} {o : HO} (e : upd H p o = H') : H' p = some o := by rw [← e]; exact upd_same
theorem upd_sm {H H' : Hp} {p : Addr} {o : HO} (e : upd H p o = H') (n : H p = none) : Same H H' := by rw [← e]; exact same_new n
theorem split_up {G H' : Hp} {b : Addr} {β : HO} (hb : G b = none) (e : Same (upd G b β) H') : ∃ G', G' b = none ∧ Same G G' ∧ H' = upd G' b β := by
  refine ⟨fun a => if a = b then none else H' a, if_pos rfl, fun a o h => ?_, ?_⟩
  · show (if a = b then none else H' a) = some o
    have hne : a ≠ b := ne_of_none h hb
    rw [if_neg hne]
    exact e _ _ (up_get hb h)
  · funext a
    unfold upd
    by_cases h : a = b
    · rw [if_pos h, h]
      exact e _ _ upd_same
    · rw [if_neg h]
      show H' a = if a = b then none else H' a
      rw [if_neg h]
theorem kb_int_int : kitB "int" "int" = some true := by decide +kernel
theorem kb_int_bool : kitB "int" "bool" = some false := by decide +kernel
theorem kb_int_str : kitB "int" "str" = some false := by decide +kernel
theorem kb_int_list : kitB "int" "list" = some false := by decide +kernel
theorem kb_int_tuple : kitB "int" "tuple" = some false := by decide +kernel
theorem kb_int_dict : kitB "int" "dict" = some false := by decide +kernel
theorem kb_bool_int : kitB "bool" "int" = some true := by decide +kernel
theorem kb_bool_bool : kitB "bool" "bool" = some true := by decide +kernel
theorem kb_bool_str : kitB "bool" "str" = some false := by decide +kernel
theorem kb_bool_list : kitB "bool" "list" = some false := by decide +kernel
theorem kb_bool_tuple : kitB "bool" "tuple" = some false := by decide +kernel
theorem kb_bool_dict : kitB "bool" "dict" = some false := by decide +kernel
theorem kb_str_int : kitB "str" "int" = some false := by decide +kernel
theorem kb_str_bool : kitB "str" "bool" = some false := by decide +kernel
theorem kb_str_str : kitB "str" "str" = some true := by decide +kernel
theorem kb_str_list : kitB "str" "list" = some false := by decide +kernel
theorem kb_str_tuple : kitB "str" "tuple" = some false := by decide +kernel
theorem kb_str_dict : kitB "str" "dict" = some false := by decide +kernel
theorem kb_NoneType_int : kitB "NoneType" "int" = some false := by decide +kernel
theorem kb_NoneType_bool : kitB "NoneType" "bool" = some false := by decide +kernel
theorem kb_NoneType_str : kitB "NoneType" "str" = some false := by decide +kernel
theorem kb_NoneType_list : kitB "NoneType" "list" = some false := by decide +kernel
theorem kb_NoneType_tuple : kitB "NoneType" "tuple" = some false := by decide +kernel
theorem kb_NoneType_dict : kitB "NoneType" "dict" = some false := by decide +kernel
theorem kb_list_int : kitB "list" "int" = some false := by decide +kernel
theorem kb_list_bool : kitB "list" "bool" = some false := by decide +kernel
theorem kb_list_str : kitB "list" "str" = some false := by decide +kernel
theorem kb_list_list : kitB "list" "list" = some true := by decide +kernel
theorem kb_list_tuple : kitB "list" "tuple" = some false := by decide +kernel
theorem kb_list_dict : kitB "list" "dict" = some false := by decide +kernel
theorem kb_tuple_int : kitB "tuple" "int" = some false := by decide +kernel
theorem kb_tuple_bool : kitB "tuple" "bool" = some false := by decide +kernel
theorem kb_tuple_str : kitB "tuple" "str" = some false := by decide +kernel
theorem kb_tuple_list : kitB "tuple" "list" = some false := by decide +kernel
theorem kb_tuple_tuple : kitB "tuple" "tuple" = some true := by decide +kernel
theorem kb_tuple_dict : kitB "tuple" "dict" = some false := by decide +kernel
theorem kb_dict_int : kitB "dict" "int" = some false := by decide +kernel
theorem kb_dict_bool : kitB "dict" "bool" = some false := by decide +kernel
theorem kb_dict_str : kitB "dict" "str" = some false := by decide +kernel
theorem kb_dict_list : kitB "dict" "list" = some false := by decide +kernel
theorem kb_dict_tuple : kitB "dict" "tuple" = some false := by decide +kernel
theorem kb_dict_dict : kitB "dict" "dict" = some true := by decide +kernel
/-- isinstance of built-in types -/
theorem k_isi {K : PySem.W.Frag} {H : Hp} {v : V} {a T : String} {b : Bool} {Q : VK} (ty : TyX K H v (.type a)) (hk : kitB a T = some b) (k : Q (.bl b) H) : rIsi K [v, .ty T] H Q := ⟨v, .ty T, _, _, b, rfl, .ty T, ty, kit_ty hk, k⟩
theorem k_isiT {K : PySem.W.Frag} {H : Hp} {v : V} {p : Addr} {a T1 T2 : String} {b1 b2 : Bool} {Q : VK} (hp : H p = some (.tup [.ty T1, .ty T2])) (ty : TyX K H v (.type a)) (h1 : kitB a T1 = some b1) (h2 : kitB a T2 = some b2) (k : Q (.bl (b1 || b2)) H) : rIsiT K [v, .ref p] H Q :=
  ⟨v, p, _, _, _, b1 || b2, rfl, hp, .cons (.ty T1) (.cons (.ty T2) .nil), ty, kitAny_cons (kit_ty h1) (fun e => by subst e; exact kitAny_cons (kit_ty h2) (fun e => by subst e; exact kitAny_nil) (fun e => by subst e; rfl)) (fun e => by subst e; rfl), k⟩
/-- isinstance of an own instance -/
theorem k_isiO {K : PySem.W.Frag} {H : Hp} {v : V} {t : Value} {C : Addr} {b : Bool} {Q : VK} (ty : TyX K H v t) (hk : PySem.W.kitOne K t (.ref C) = some b) (k : Q (.bl b) H) : rIsi K [v, .ref C] H Q := ⟨v, .ref C, _, _, b, rfl, .own C, ty, hk, k⟩
theorem one_new {G : Hp} {o : HO} {P : Addr → Hp → Prop} (k : ∀ p G', G p = none → G' = upd G p o → Same G G' → G' p = some o → P p G') : ∀ p, G p = none → P p (upd G p o) := fun p hp => k p _ hp rfl (same_new hp) upd_same
theorem small_size {n : Nat} (h : n ≤ 1000000) : n ≤ sizeLine := Nat.le_trans h (by rw [sizeLine_eq]; decide)
theorem small_lt {n : Nat} (h : n ≤ 1000000) : n < sizeLine := Nat.lt_of_le_of_lt h (by rw [sizeLine_eq]; decide)

/-! ### fields by place: the names written, the values by place -/
def nin (x : Str) : List Str → Bool
  | [] => true
  | n :: r => !(n == x) && nin x r
def pos? (x : Str) : List Str → Option Nat
  | [] => none
  | n :: r => if n == x then some 0 else (pos? x r).map (· + 1)
abbrev FL (ns : List Str) (vs : List V) : List (Str × V) := ns.zip vs
theorem fl_get {x : Str} : ∀ {ns : List Str} {vs : List V} {i : Nat} {v : V}, pos? x ns = some i → vs[i]? = some v → (FL ns vs).lookup x = some v
  | [], _, _, _, h, _ => by cases h
  | n :: r, [], i, v, h, hv => by simp at hv
  | n :: r, w :: ws, i, v, h, hv => by
    unfold pos? at h
    show List.lookup x ((n, w) :: FL r ws) = some v
    rw [List.lookup_cons]
    by_cases e : n == x
    · rw [if_pos e] at h
      cases h
      have e' : (x == n) = true := by rw [beq_iff_eq] at e ⊢; exact e.symm
      rw [e']
      exact hv
    · rw [if_neg e] at h
      have e' : (x == n) = false := by
        rw [Bool.eq_false_iff]
        intro q
        rw [beq_iff_eq] at q
        exact e (by rw [q]; simp)
      rw [e']
      cases hp : pos? x r with
      | none => rw [hp] at h; cases h
      | some j =>
        rw [hp] at h
        cases h
        exact fl_get (ns := r) hp (by simpa using hv)
theorem fl_no {x : Str} : ∀ {ns : List Str} {vs : List V}, nin x ns = true → (FL ns vs).lookup x = none
  | [], _, _ => rfl
  | n :: r, [], _ => rfl
  | n :: r, w :: ws, h => by
    unfold nin at h
    simp only [Bool.and_eq_true, Bool.not_eq_true'] at h
    show List.lookup x ((n, w) :: FL r ws) = none
    have e' : (x == n) = false := by
      rw [Bool.eq_false_iff]
      intro q
      rw [beq_iff_eq] at q
      rw [q] at h
      simp at h
    rw [List.lookup_cons, e']
    exact fl_no h.2
theorem fl_put {x : Str} {v : V} : ∀ {ns : List Str} {vs : List V}, ns.length = vs.length → nin x ns = true → putF x v (FL ns vs) = FL (ns ++ [x]) (vs ++ [v])
  | [], [], _, _ => rfl
  | n :: r, w :: ws, hl, h => by
    unfold nin at h
    simp only [Bool.and_eq_true, Bool.not_eq_true'] at h
    have e' : ¬ n = x := fun q => by
      rw [q] at h
      simp at h
    show (if n = x then _ else (n, w) :: putF x v (FL r ws)) = _
    rw [if_neg e', fl_put (by simpa using hl) h.2]
    rfl
theorem fl_len {ns : List Str} {vs : List V} : (FL ns vs).length ≤ ns.length := by
  rw [List.length_zip]
  omega
section
variable {K : PySem.W.Frag} {σ : L2.St} {H : Hp} {Q : VK} {D : Ends} {ta tv : TE} {f : Str} {a C dx : Addr} {ns : List Str} {vs : List V} {v y : V}
def rFld (K : PySem.W.Frag) (f : Str) (x : V) (H : Hp) (Q : VK) : Prop := ∃ a C dx fs v, x = .ref a ∧ H a = some (.ins C dx fs) ∧ Cls K C ∧ NoAttr K C f ∧ fs.lookup f = some v ∧ Q v H
theorem k_fld (h : ta σ H fun x H1 => rFld K f x H1 Q) : tFld K ta f σ H Q := h
theorem k_fldAt {i : Nat} (h : H a = some (.ins C dx (FL ns vs))) (c : Cls K C) (n : NoAttr K C f) (hi : pos? f ns = some i) (hv : vs[i]? = some v) (q : Q v H) : rFld K f (.ref a) H Q := ⟨a, C, dx, _, v, rfl, h, c, n, fl_get hi hv, q⟩
def rPutF (K : PySem.W.Frag) (f : Str) (y x : V) (H : Hp) (Q : Hp → Prop) : Prop := ∃ a C dx fs, x = .ref a ∧ H a = some (.ins C dx fs) ∧ Cls K C ∧ NoAttr K C f ∧ fs.length < 1000 ∧ Q (upd H a (.ins C dx (putF f y fs)))
theorem k_putF (h : tv σ H fun y H1 => ta σ H1 fun x H2 => rPutF K f y x H2 fun H3 => D.nx σ H3) : sFld K ta tv f D σ H := h
theorem k_putAt {Q : Hp → Prop} (h : H a = some (.ins C dx (FL ns vs))) (c : Cls K C) (n : NoAttr K C f) (hl : ns.length = vs.length) (hn : nin f ns = true) (hs : ns.length < 1000) (q : Q (upd H a (.ins C dx (FL (ns ++ [f]) (vs ++ [y]))))) : rPutF K f y (.ref a) H Q :=
  ⟨a, C, dx, _, rfl, h, c, n, Nat.lt_of_le_of_lt fl_len hs, by rw [fl_put hl hn]; exact q⟩
/-- the same, the instance just laid on top -/
theorem k_putTop {Q : Hp → Prop} (c : Cls K C) (n : NoAttr K C f) (hl : ns.length = vs.length) (hn : nin f ns = true) (hs : ns.length < 1000) (q : Q (upd H a (.ins C dx (FL (ns ++ [f]) (vs ++ [y]))))) : rPutF K f y (.ref a) (upd H a (.ins C dx (FL ns vs))) Q :=
  k_putAt upd_same c n hl hn hs (by rw [upd_upd]; exact q)
end
theorem len_text {i : Int} {k : Nat} (hk : 0 < k) (h : i.natAbs < 10 ^ k) : (Str.ofString (toString i)).length ≤ k + 1 := by
  have e := PySem.int_text_length_le10 hk h
  rw [PySem.ofString_length]
  exact e
theorem log_text {i : Int} {k : Nat} (hk : k ≤ 1000) (h : i.natAbs < 2 ^ k) : i.natAbs.log2 < 1920 := by
  by_cases h0 : i.natAbs = 0
  · rw [h0]; decide
  · exact Nat.lt_of_lt_of_le ((Nat.log2_lt h0).mpr h) (by omega)

theorem k_disp {n : Nat} {P : Prop} (h : n ≤ 1000000) (k : P) : n ≤ sizeLine ∧ P := ⟨small_size h, k⟩
/-! ### loops -/
section
variable {K : PySem.W.Frag} {σ : L2.St} {H : Hp} {D : Ends} {wi : TI} {g : TG} {tb : TS} {tl : TE} {ta : TA} {a : Addr} {xs : List V}
def ForW (J : It) (g : TG) (tb : TS) (D : Ends) (σ : L2.St) (H1 : Hp) : Prop := ∃ W : Nat → Nat → L2.St → Hp → Prop, (∃ m, W 0 m σ H1) ∧ ∀ i m σ H, W i m σ H →
  (J.stop i H ∧ D.nx σ H) ∨ (J.go i H ∧ ∃ N : L2.St → Hp → Prop, (∀ σ' H', N σ' H' → ∃ m', m' < m ∧ W (i + 1) m' σ' H') ∧ ∀ x H', J.yld i H x H' → g x σ H' fun σ2 H2 => tb { D with nx := N, ct := N, bk := D.nx } σ2 H2)
theorem k_for (h : wi σ H fun J H1 => ForW J g tb D σ H1) : tFor wi g tb D σ H := h
def rIL (K : PySem.W.Frag) (R : It → Hp → Prop) (x : V) (H : Hp) : Prop := ∃ a, x = .ref a ∧ (∃ xs, SqL K H a xs) ∧ R (Itl K a) H
def rIT (K : PySem.W.Frag) (R : It → Hp → Prop) (x : V) (H : Hp) : Prop := ∃ a, x = .ref a ∧ (∃ xs, SqT K H a xs) ∧ R (Itt K a) H
theorem k_iList {R : It → Hp → Prop} (h : tl σ H fun x H1 => rIL K R x H1) : iList K tl σ H R := h
theorem k_iTup {R : It → Hp → Prop} (h : tl σ H fun x H1 => rIT K R x H1) : iTup K tl σ H R := h
theorem k_iL {R : It → Hp → Prop} (h : SqL K H a xs) (k : R (Itl K a) H) : rIL K R (.ref a) H := ⟨a, rfl, ⟨xs, h⟩, k⟩
theorem k_iT {R : It → Hp → Prop} (h : SqT K H a xs) (k : R (Itt K a) H) : rIT K R (.ref a) H := ⟨a, rfl, ⟨xs, h⟩, k⟩
theorem k_forList (xs : List V) (Pv : Nat → L2.St → Hp → Prop) (h0 : Pv 0 σ H) (hl : ∀ i σ H, i ≤ xs.length → Pv i σ H → SqL K H a xs)
    (hs : ∀ i x σ H, xs[i]? = some x → Pv i σ H → g x σ H fun σ2 H2 => tb { D with nx := Pv (i + 1), ct := Pv (i + 1), bk := D.nx } σ2 H2) (hd : ∀ σ H, Pv xs.length σ H → D.nx σ H) : ForW (Itl K a) g tb D σ H := for_list Pv h0 hl hs hd
theorem k_forTup (xs : List V) (Pv : Nat → L2.St → Hp → Prop) (h0 : Pv 0 σ H) (hl : ∀ i σ H, i ≤ xs.length → Pv i σ H → SqT K H a xs)
    (hs : ∀ i x σ H, xs[i]? = some x → Pv i σ H → g x σ H fun σ2 H2 => tb { D with nx := Pv (i + 1), ct := Pv (i + 1), bk := D.nx } σ2 H2) (hd : ∀ σ H, Pv xs.length σ H → D.nx σ H) : ForW (Itt K a) g tb D σ H := for_tup Pv h0 hl hs hd
def rR1 (R : It → Hp → Prop) (vs : List V) (H : Hp) : Prop := ∃ j : Int, vs = [.int j] ∧ -(2 ^ 62) ≤ j ∧ j < 2 ^ 62 ∧ R (Itr 0 j.toNat) H
def rR2 (R : It → Hp → Prop) (vs : List V) (H : Hp) : Prop := ∃ i j : Int, vs = [.int i, .int j] ∧ (-(2 ^ 62) ≤ i ∧ i < 2 ^ 62 ∧ -(2 ^ 62) ≤ j ∧ j < 2 ^ 62) ∧ R (Itr i (j - i).toNat) H
theorem k_rng1 {R : It → Hp → Prop} (h : ta σ H fun vs H1 => rR1 R vs H1) : iRng1 ta σ H R := h
theorem k_rng2 {R : It → Hp → Prop} (h : ta σ H fun vs H1 => rR2 R vs H1) : iRng2 ta σ H R := h
theorem k_r1 {R : It → Hp → Prop} {j : Int} (h : -(2 ^ 62) ≤ j ∧ j < 2 ^ 62) (k : R (Itr 0 j.toNat) H) : rR1 R [.int j] H := ⟨j, rfl, h.1, h.2, k⟩
theorem k_r2 {R : It → Hp → Prop} {i j : Int} (h : -(2 ^ 62) ≤ i ∧ i < 2 ^ 62 ∧ -(2 ^ 62) ≤ j ∧ j < 2 ^ 62) (k : R (Itr i (j - i).toNat) H) : rR2 R [.int i, .int j] H := ⟨i, j, rfl, h, k⟩
theorem k_forRange {lo : Int} {n : Nat} (Pv : Nat → L2.St → Hp → Prop) (h0 : Pv 0 σ H)
    (hs : ∀ i σ H, i < n → Pv i σ H → g (.int (lo + i)) σ H fun σ2 H2 => tb { D with nx := Pv (i + 1), ct := Pv (i + 1), bk := D.nx } σ2 H2) (hd : ∀ σ H, Pv n σ H → D.nx σ H) : ForW (Itr lo n) g tb D σ H := for_range Pv h0 hs hd
/-- comprehensions -/
def LcW (J : It) (g : TG) (tt : TT) (te : TE) (vs : List Nat) (σ : L2.St) (H1 : Hp) (D : Addr) (Qd : Hp → Prop) : Prop := ∃ W : Nat → Nat → Hp → Prop, (∃ m, W 0 m (upd H1 D (.lst []))) ∧ ∀ i m H, W i m H →
  (J.stop i H ∧ Qd H) ∨ (J.go i H ∧ ∃ Nx : Hp → Prop, (∀ H', Nx H' → ∃ m', m' < m ∧ W (i + 1) m' H') ∧ ∀ x H', J.yld i H x H' → g x (wipe σ vs) H' fun σ2 H2 => wipe σ2 vs = wipe σ vs ∧ tt σ2 H2 fun b H3 =>
    if b = true then te σ2 H3 fun y H4 => ∃ acc, H4 D = some (.lst acc) ∧ acc.length < sizeLine ∧ Nx (upd H4 D (.lst (acc ++ [y]))) else Nx H3)
theorem k_lc {tt : TT} {te : TE} {vs : List Nat} {Q : VK} (h : wi σ H fun J H1 => ∀ D, H1 D = none → LcW J g tt te vs σ H1 D (fun H2 => Q (.ref D) H2)) : tLc wi g tt te vs σ H Q := h
theorem k_lcList {tt : TT} {te : TE} {vs : List Nat} {D : Addr} {Qd : Hp → Prop} (xs : List V) (Pv : Nat → Hp → Prop) (h0 : Pv 0 (upd H D (.lst []))) (hl : ∀ i H, i ≤ xs.length → Pv i H → SqL K H a xs)
    (hs : ∀ i x H, xs[i]? = some x → Pv i H → g x (wipe σ vs) H fun σ2 H2 => wipe σ2 vs = wipe σ vs ∧ tt σ2 H2 fun b H3 =>
      if b = true then te σ2 H3 fun y H4 => ∃ acc, H4 D = some (.lst acc) ∧ acc.length < sizeLine ∧ Pv (i + 1) (upd H4 D (.lst (acc ++ [y]))) else Pv (i + 1) H3) (hd : ∀ H, Pv xs.length H → Qd H) : LcW (Itl K a) g tt te vs σ H D Qd := lc_list Pv h0 hl hs hd
theorem k_lcTup {tt : TT} {te : TE} {vs : List Nat} {D : Addr} {Qd : Hp → Prop} (xs : List V) (Pv : Nat → Hp → Prop) (h0 : Pv 0 (upd H D (.lst []))) (hl : ∀ i H, i ≤ xs.length → Pv i H → SqT K H a xs)
    (hs : ∀ i x H, xs[i]? = some x → Pv i H → g x (wipe σ vs) H fun σ2 H2 => wipe σ2 vs = wipe σ vs ∧ tt σ2 H2 fun b H3 =>
      if b = true then te σ2 H3 fun y H4 => ∃ acc, H4 D = some (.lst acc) ∧ acc.length < sizeLine ∧ Pv (i + 1) (upd H4 D (.lst (acc ++ [y]))) else Pv (i + 1) H3) (hd : ∀ H, Pv xs.length H → Qd H) : LcW (Itt K a) g tt te vs σ H D Qd := lc_tup Pv h0 hl hs hd
theorem k_lcRange {tt : TT} {te : TE} {vs : List Nat} {D : Addr} {Qd : Hp → Prop} {lo : Int} {n : Nat} (Pv : Nat → Hp → Prop) (h0 : Pv 0 (upd H D (.lst [])))
    (hs : ∀ i H, i < n → Pv i H → g (.int (lo + i)) (wipe σ vs) H fun σ2 H2 => wipe σ2 vs = wipe σ vs ∧ tt σ2 H2 fun b H3 =>
      if b = true then te σ2 H3 fun y H4 => ∃ acc, H4 D = some (.lst acc) ∧ acc.length < sizeLine ∧ Pv (i + 1) (upd H4 D (.lst (acc ++ [y]))) else Pv (i + 1) H3) (hd : ∀ H, Pv n H → Qd H) : LcW (Itr lo n) g tt te vs σ H D Qd := lc_range Pv h0 hs hd
theorem k_yes {Q : Bool → Hp → Prop} (h : Q true H) : tYes σ H Q := h
/-- a while by an invariant and a measure, the test read at once -/
theorem k_while {c : TT} (W : Nat → L2.St → Hp → Prop) (m : Nat) (h0 : W m σ H)
    (hs : ∀ m σ H, W m σ H → c σ H fun b H1 => if b = true then ∃ N : L2.St → Hp → Prop, (∀ σ' H', N σ' H' → ∃ m', m' < m ∧ W m' σ' H') ∧ tb { D with nx := N, ct := N, bk := D.nx } σ H1 else D.nx σ H1) : tWhile c tb D σ H := ⟨W, ⟨m, h0⟩, hs⟩
/-- list(..), tuple(..) of what is read -/
theorem k_listL {p : Addr} {ys : List V} {Q : VK} (h : SqL K H p ys) (k : ∀ l, H l = none → Q (.ref l) (upd H l (.lst ys))) : rListU K [.ref p] H Q := ⟨p, ys, rfl, .inl h, k⟩
theorem k_listT {p : Addr} {ys : List V} {Q : VK} (h : SqT K H p ys) (k : ∀ l, H l = none → Q (.ref l) (upd H l (.lst ys))) : rListU K [.ref p] H Q := ⟨p, ys, rfl, .inr h, k⟩
theorem k_tupleL {p : Addr} {ys : List V} {Q : VK} (h : SqL K H p ys) (k : ∀ l, H l = none → Q (.ref l) (upd H l (.tup ys))) : rTupleU K [.ref p] H Q := ⟨p, ys, rfl, .inl ⟨h, k⟩⟩
theorem k_slL {p : Addr} {ys : List V} {lo hi : Option Int} {Q : VK} (h : SqL K H p ys) (k : ∀ l, H l = none → Q (.ref l) (upd H l (.lst (cutV ys lo hi)))) : rSlL K (.ref p) lo hi H Q := ⟨p, ys, rfl, h, k⟩
end
theorem cut_ints {ns : List Int} {lo hi : Option Int} : ∃ ms : List Int, cutV (ns.map V.int) lo hi = ms.map V.int := by
  unfold cutV
  exact ⟨_, by rw [List.length_map, ← List.map_drop, ← List.map_take]⟩

/-! ### targets that are tuples; walks of any kind -/
section
variable {K : PySem.W.Frag} {σ : L2.St} {H : Hp} {D : Ends} {g : TG} {tb : TS} {n : Nat} {J : It} {G : Hp → Prop} {Y : Nat → Hp → V → Hp → Prop}
theorem k_gTup {p : Addr} {xs : List V} {t : TGs} {Q : L2.St → Hp → Prop} (h : SqT K H p xs) (hl : xs.length = n) (k : t xs σ H Q) : gTup K n t (.ref p) σ H Q := ⟨p, xs, rfl, h, hl, k⟩
theorem k_gCons {v : V} {r : List V} {t : TG} {u : TGs} {Q : L2.St → Hp → Prop} (k : t v σ H fun σ' H' => u r σ' H' Q) : gCons t u (v :: r) σ H Q := ⟨v, r, rfl, k⟩
theorem k_gNil {Q : L2.St → Hp → Prop} (k : Q σ H) : gNil [] σ H Q := ⟨rfl, k⟩
theorem k_forIt (w : Walk J n G Y) (Pv : Nat → L2.St → Hp → Prop) (h0 : Pv 0 σ H) (hG : ∀ i σ H, i ≤ n → Pv i σ H → G H)
    (hs : ∀ i x σ H H', i < n → Pv i σ H → Y i H x H' → g x σ H' fun σ2 H2 => tb { D with nx := Pv (i + 1), ct := Pv (i + 1), bk := D.nx } σ2 H2) (hd : ∀ σ H, Pv n σ H → D.nx σ H) : ForW J g tb D σ H := for_it w Pv h0 hG hs hd
theorem k_lcIt (w : Walk J n G Y) {tt : TT} {te : TE} {vs : List Nat} {D : Addr} {Qd : Hp → Prop} (Pv : Nat → Hp → Prop) (h0 : Pv 0 (upd H D (.lst []))) (hG : ∀ i H, i ≤ n → Pv i H → G H)
    (hs : ∀ i x H H', i < n → Pv i H → Y i H x H' → g x (wipe σ vs) H' fun σ2 H2 => wipe σ2 vs = wipe σ vs ∧ tt σ2 H2 fun b H3 =>
      if b = true then te σ2 H3 fun y H4 => ∃ acc, H4 D = some (.lst acc) ∧ acc.length < sizeLine ∧ Pv (i + 1) (upd H4 D (.lst (acc ++ [y]))) else Pv (i + 1) H3) (hd : ∀ H, Pv n H → Qd H) : LcW J g tt te vs σ H D Qd := lc_it w Pv h0 hG hs hd
theorem k_iEnum {ta : TA} {R : It → Hp → Prop} (h : ta σ H fun vs H1 => ∃ a xs, vs = [.ref a] ∧ SqL K H1 a xs ∧ R (Ite K a) H1) : iEnum K ta σ H R := h
theorem k_iZip {ta : TA} {R : It → Hp → Prop} (h : ta σ H fun vs H1 => ∃ a b xs ys, vs = [.ref a, .ref b] ∧ SqL K H1 a xs ∧ SqL K H1 b ys ∧ R (Itz K a b) H1) : iZip K ta σ H R := h
theorem kpi_enum {X : Cx} (K : PySem.W.Frag) {e : Expr} {ta : TA} {p pos tpos : Pos} {elts : List Expr} {kk : Nat} (hg : Gl X "enumerate") (hm : X.mg "enumerate" = none) (ha : PA X [e] ta) (hK : X.K = K := by rfl) (hs : starEach [e] X.env = [(false, eval e X.env)] := by rfl) :
    PI X (.Tuple elts kk tpos) (.Call (.Name "enumerate" p) [e] [] pos) (iEnum K ta) := by subst hK; exact pi_enum hg hm ha hs
end
def rJoin (K : PySem.W.Frag) (x : V) (y : V) (H : Hp) (Q : VK) : Prop := ∃ a p, ∃ ys : List Str, x = .str a ∧ [y] = [V.ref p] ∧ (SqL K H p (ys.map V.str) ∨ SqT K H p (ys.map V.str)) ∧ (ys.map (·.length)).sum + ys.length * a.length ≤ 16777216 ∧ Q (.str (Txt.join a ys)) H
def tJoinU (K : PySem.W.Frag) (to te : TE) : TE := fun σ H Q => to σ H fun x H1 => (∃ a, x = .str a) ∧ te σ H1 fun y H2 => rJoin K x y H2 Q
theorem kpe_join {X : Cx} (K : PySem.W.Frag) {o e : Expr} {to te : TE} {apos pos : Pos} (ho : PE X o to) (he : PE X e te) (hK : X.K = K := by rfl) (hs : starEach [e] X.env = [(false, eval e X.env)] := by rfl) (hbase : attributeBase o "join" X.env (eval o X.env) = eval o X.env := by rfl) (hline : (apos.endLine == pos.line) = true := by rfl) :
    PE X (.Call (.Attribute o "join" apos) [e] [] pos) (tJoinU K to te) := by subst hK; exact pe_join ho he hs hbase hline
theorem k_joinC {K : PySem.W.Frag} {σ : L2.St} {H : Hp} {Q : VK} {z : Str} {te : TE} (h : te σ H fun y H2 => rJoin K (.str z) y H2 Q) : tJoinU K (tC (.str z)) te σ H Q := ⟨⟨z, rfl⟩, h⟩
theorem k_joinL {K : PySem.W.Frag} {H : Hp} {Q : VK} {z : Str} {p : Addr} {ys : List Str} (h : SqL K H p (ys.map V.str)) (hz : (ys.map (·.length)).sum + ys.length * z.length ≤ 16777216) (k : ∀ out : Str, out = Txt.join z ys → Q (.str out) H) : rJoin K (.str z) (.ref p) H Q := ⟨z, p, ys, rfl, rfl, .inl h, hz, k _ rfl⟩
/-! ### f-strings, join -/
section
variable {σ : L2.St} {H : Hp} {te : TE}
theorem k_js {ts : List TE} {Q : VK} (h : tJs ts Str.empty σ H fun out H1 => Q (.str out) H1) : (fun (σ : L2.St) (H : Hp) (Q : VK) => tJs ts Str.empty σ H fun out H1 => Q (.str out) H1) σ H Q := h
theorem k_jsNil {acc : Str} {Q : Str → Hp → Prop} (h : Q acc H) : tJs [] acc σ H Q := h
theorem k_jsCons {ts : List TE} {acc : Str} {Q : Str → Hp → Prop} (h : te σ H fun x H1 => ∃ y : Str, x = .str y ∧ (acc ++ y).length ≤ sizeLine ∧ tJs ts (acc ++ y) σ H1 Q) : tJs (te :: ts) acc σ H Q := h
theorem k_jsV {acc z : Str} {P : Str → Prop} (h : (acc ++ z).length ≤ 1000000) (k : P z) : ∃ y : Str, V.str z = .str y ∧ (acc ++ y).length ≤ sizeLine ∧ P y := ⟨z, rfl, small_size h, k⟩
def rFmt (x : V) (H : Hp) (Q : VK) : Prop := (∃ y : Str, x = .str y ∧ y.length ≤ sizeLine ∧ Q (.str y) H) ∨ ∃ i : Int, x = .int i ∧ i.natAbs.log2 < 1920 ∧ Q (.str (toString i)) H
theorem k_fmt {Q : VK} (h : te σ H fun x H1 => rFmt x H1 Q) : tFmt te σ H Q := h
theorem k_fmtS {z : Str} {Q : VK} (h : z.length ≤ 1000000) (k : Q (.str z) H) : rFmt (.str z) H Q := .inl ⟨z, rfl, small_size h, k⟩
theorem k_fmtI {i : Int} {Q : VK} (h : i.natAbs < 2 ^ 64) (k : Q (.str (toString i)) H) : rFmt (.int i) H Q := .inr ⟨i, rfl, log_text (k := 64) (by decide) h, k⟩
theorem k_str1 {i : Int} {Q : VK} (h : i.natAbs < 2 ^ 64) (k : Q (.str (toString i)) H) : rStr1 [.int i] H Q := ⟨i, rfl, log_text (k := 64) (by decide) h, k⟩
end
theorem len_empty : Str.empty.length = 0 := by decide +kernel

/-! ### what changes one object alone -/
def SameBut (a : Addr) (H H' : Hp) : Prop := ∀ b o, b ≠ a → H b = some o → H' b = some o
theorem SameBut.refl (a : Addr) (H : Hp) : SameBut a H H := fun _ _ _ h => h
theorem SameBut.trans {a : Addr} {H H1 H2 : Hp} (x : SameBut a H H1) (y : SameBut a H1 H2) : SameBut a H H2 := fun b o n h => y b o n (x b o n h)
theorem SameBut.of {a : Addr} {H H' : Hp} (x : Same H H') : SameBut a H H' := fun b o _ h => x b o h
theorem SameBut.put {a : Addr} {H H' : Hp} {o : HO} (x : SameBut a H H') : SameBut a H (upd H' a o) := fun b u n h => by
  rw [upd_ne n]
  exact x b u n h
/-- the object was new: all is as it was -/
theorem SameBut.made {x dx : Addr} {H H' : Hp} {C : Addr} {fs : List (Str × V)} (hx : H x = none) (hd : H dx = none) (ne : dx ≠ x) (s : SameBut x (upd (upd H dx (.own x)) x (.ins C dx fs)) H') : Same H H' := fun b o h => by
  have n1 : b ≠ x := ne_of_none h hx
  have n2 : b ≠ dx := ne_of_none h hd
  exact s b o n1 (by rw [upd_ne n1, upd_ne n2]; exact h)
theorem cc_look {cc : Addr} : List.lookup ("__class__" : Str) [(("__class__" : Str), cc)] = some cc := by
  rw [List.lookup_cons]
  simp
end Kit

/-! Sup: methods of the program's own classes that say super().m(..): the def closes over its class. -/
namespace Kit
open PySem PySem.Spec PyProof.Rows L2

structure SupAt (K : PySem.W.Frag) (C D f2 : Addr) (name : Str) : Prop where
  sub : PySem.W.mroIn K C (.ref D) = some true
  m : PySem.W.ks_superIn K C D name = some (some (.ref f2))
  fn : PySem.W.fnIn K f2 = true
  ty : PySem.W.typeIn K (.ref f2) = some (.type "function")
structure SupDef (P : Program) (K : PySem.W.Frag) (mg : Str → Option Value) (f D cc cda : Addr) (sf : Str) : Prop where
  fn : ∃ oc od fd osl ar, K.lookup f = some ⟨oc, od, .func fd, osl⟩ ∧ (fd.params.posonlyargs ++ fd.params.args).head? = some ar ∧ ar.arg = sf
  code : ∃ ccl cdd vs ccs file tf, K.lookup cda = some ⟨ccl, cdd, .fields vs, ccs⟩ ∧ vs[2]? = some (.str file tf) ∧ ((P.main.file : Str) == file) = true
  cell : ∃ cl cld csl, K.lookup cc = some ⟨cl, cld, .cell (some (.ref D)), csl⟩
  cls : ∃ cdD, PySem.W.clsIn K D = some cdD
  sup : mg "super" = none
  top : (P.main.scope.names.lookup ("super" : Str)).isSome = false
  st : PySem.W.nsIn K cStatics "thirdparty.any" = some none

/-- a block, a statement, in the activation of the def whose whole body is told -/
structure PSA (X : Cx) (body sts : List Stmt) (t : TS) : Prop where
  go : ∀ (pins : List (Addr × Obj)) (s : Shared) (σ : L2.St) (H : Hp) (D : Ends), Inv X pins σ H s → t D σ H → PySem.wpAt (model X.prog X.w) X.A (.func body X.env) (execs sts X.env) (SP X pins D) X.xe s
structure PSt (X : Cx) (body : List Stmt) (st : Stmt) (t : TS) : Prop where
  go : ∀ (pins : List (Addr × Obj)) (s : Shared) (σ : L2.St) (H : Hp) (D : Ends), Inv X pins σ H s → t D σ H → PySem.wpAt (model X.prog X.w) X.A (.func body X.env) (exec st X.env) (SP X pins D) X.xe s
section
variable {X : Cx} {body rest sts : List Stmt} {st : Stmt} {t u : TS}
theorem psa_of (h : PSs X sts t) : PSA X body sts t := ⟨fun pins s σ H D I q => wpAt_of_wpAny (h.run pins s σ H D I q)⟩
theorem pst_of (h : PS X st t) : PSt X body st t := ⟨fun pins s σ H D I q => wpAt_of_wpAny (h.run pins s σ H D I q)⟩
theorem psa_cons (h1 : PSt X body st t) (h2 : PSA X body rest u) : PSA X body (st :: rest) (tSeq t u) := by
  refine ⟨fun pins s σ H D I q => ks_wpAt_execs_cons (ks_wpAt_mono (h1.go pins s σ H _ I q) (fun fl s' hf => ?_) fun _ _ z => z)⟩
  cases fl with
  | next =>
    obtain ⟨σ', H', I', q'⟩ := hf
    exact h2.go pins s' σ' H' D I' q'
  | ret v => exact hf
  | brk => exact hf
  | cont => exact hf
theorem psa_one (h1 : PSt X body st t) : PSA X body [st] t := by
  refine ⟨fun pins s σ H D I q => ks_wpAt_execs_cons (ks_wpAt_mono (h1.go pins s σ H _ I q) (fun fl s' hf => ?_) fun _ _ z => z)⟩
  cases fl with
  | next => exact wpAt_of_wpAny (wpAny_execs_nil hf)
  | ret v => exact hf
  | brk => exact hf
  | cont => exact hf

/-- super().m(e, ..) as a statement; self in the first slot -/
def tSup (K : PySem.W.Frag) (D : Addr) (name : Str) (f2 : Addr) (sp : Sp) (dvs : List V) (E : XK) (ta : TA) : TS := fun B σ H => ∃ a C dx fs, σ[0]? = some (some (V.ref a)) ∧ H a = some (.ins C dx fs) ∧ SupAt K C D f2 name ∧
  ∀ q, H q = none → ta σ (upd H q (.met f2 a)) fun vs H1 => H1 q = some (.met f2 a) ∧ sp (.ref a :: (vs ++ dvs)) H1 (fun _ H2 => B.nx σ H2) E
theorem pst_super {f D cc cda f2 : Addr} {self name : Str} {e : Expr} {es : List Expr} {ta : TA} {sp : Sp} {dvs : List V} {ds : List Value} {E : XK} {CX : CXT} {k : Nat} {fd2 : FuncData} {ps : List Str} {p0 p1 apos pos spos : Pos} {pl : Sem Bool}
    (S : SupDef X.prog X.K X.mg f D cc cda self) (hfu : X.env.func = some f) (hco : X.env.code = .ref cda) (hks : X.env.kindOf "super" = some .globalImplicit) (hkc : X.env.kindOf "__class__" = some .free) (hcc : X.env.cells.lookup ("__class__" : Str) = some cc)
    (hN : X.N[0]? = some self) (hv : X.env.scope.names.lookup self = some .local) (hn : (name == ("__class__" : Str)) = false)
    (F : FnOk X.prog X.w X.K X.mg X.base CX k f2 fd2 ps sp) (hr : Room k X.A) (hb : Binds X.K fd2 ps ds) (hd : Vals dvs ds) (hx : Passes CX X E) (ha : PA X (e :: es) ta)
    (hs : swapsWith (.Call (.Attribute (.Call (.Name "super" p0) [] [] p1) name apos) (e :: es) [] pos) none spos.line X.env = pure false := by rfl)
    (he0 : eval (.Call (.Attribute (.Call (.Name "super" p0) [] [] p1) name apos) (e :: es) [] pos) X.env = (do
      let ov ← attributeBase (.Call (.Name "super" p0) [] [] p1) name X.env (eval (.Call (.Name "super" p0) [] [] p1) X.env)
      standAt apos.atName
      let (f, first) ← holding [ov] (getMethod ov name pl)
      callWith pos f first (backTo pos (starEach (e :: es) X.env)) []) := by rfl)
    (he : starEach (e :: es) X.env = (false, eval e X.env) :: starEach es X.env := by rfl) (hpl : (backTo pos (starEach es X.env)).any (·.1) = false := by rfl) :
    PSt X body (.Expr (.Call (.Attribute (.Call (.Name "super" p0) [] [] p1) name apos) (e :: es) [] pos) spos) (tSup X.K D name f2 sp dvs E ta) := by
  refine ⟨fun pins s σ H B I h => ?_⟩
  obtain ⟨a, C, dx, fs, hσ, hH, SA, q⟩ := h
  obtain ⟨oc, od, fd, osl, ar, lkf, hhead, har⟩ := S.fn
  obtain ⟨ccl, cdd, vs, ccs, file, tf, lkc, hvs, hfile⟩ := S.code
  obtain ⟨cl, cld, csl, lkcell⟩ := S.cell
  obtain ⟨cdD, hD⟩ := S.cls
  have KI := I.kIn
  obtain ⟨mA, OM, _⟩ := ins_get I.hok hH
  obtain ⟨odx, IA, _⟩ := OM.look
  obtain ⟨oD, hD1, hD2⟩ : ∃ oD, s.heap.get? D = some oD ∧ oD.data = .cls cdD := by
    unfold PySem.W.clsIn at hD
    split at hD
    · rename_i c d cd' sl ho
      cases hD
      exact ⟨_, KI _ _ ho, rfl⟩
    · cases hD
  obtain ⟨m, hns, hloc⟩ := I.loc
  obtain ⟨u, ru, lk⟩ := hloc 0 self (.ref a) hN hσ (.inl hv)
  cases ru
  have hself : m self = some (.ref a) := by
    rcases lk with ⟨_, z⟩ | ⟨z, _⟩
    · exact z
    · have z' : X.env.scope.names.lookup self = some .cell ∨ X.env.scope.names.lookup self = some .free := z
      rw [hv] at z'
      rcases z' with z' | z' <;> cases z'
  refine ks_wpAt_Expr_any ?_ I.quiet hs
  refine ks_wpAt_MethodCall ?_ he0
  refine ks_wpAt_super_base (env := X.env) hks hkc hn hfu (KI _ _ lkf) rfl hhead hco (KI _ _ lkc) rfl hvs hfile S.top ?_
  obtain ⟨mb, hb1, hb2⟩ := I.mod.blt
  refine PySem.W.ks_loadName_global I.ok.kind hks (Calls.loadGlobal_builtin (by rw [I.ok.glob]; exact I.mod.glob.keeps I.bk) S.sup (by rw [I.ok.blt]; exact hb1.keeps I.bk) ((hb2 "super" (by decide)).trans (show bootBuiltins "super" = some (.type "super") by decide +kernel)) ⟨rfl, ?_⟩)
  refine wpAny_loadName_free I.ok.kind hkc hcc ⟨_, KI _ _ lkcell, rfl⟩ ?_
  rw [har]
  refine wpAny_loadName_local I.ok.kind hv hns hself ?_
  refine ks_wpAny_isType_cls hD1 hD2 ⟨rfl, ?_⟩
  obtain ⟨hp, g, dr, tk, os⟩ := s
  refine ks_wpAny_call_super hD1 hD2 IA.at_ IA.cls (fun c e => ?_) (PySem.W.looks_mroIn KI SA.sub) (fun h' e k => ?_)
  · have z := IA.no
    unfold PySem.W.notCls at z
    rw [e] at z
    exact Bool.noConfusion z
  have I1 : Inv X pins σ H ⟨h', g, dr, tk, os⟩ := I.kept (t' := tk) k
  have KI1 := I1.kIn
  have hm := SA.m
  unfold PySem.W.ks_superIn at hm
  obtain ⟨cd, hc⟩ : ∃ cd, PySem.W.clsIn X.K C = some cd := by
    cases hc : PySem.W.clsIn X.K C with
    | none => rw [hc] at hm; cases hm
    | some cd => exact ⟨cd, rfl⟩
  rw [hc] at hm
  obtain ⟨of, lof, hofc⟩ : ∃ of, X.K.lookup f2 = some of ∧ of.cls = .type "function" := by
    have ht' : (X.K.lookup f2).map (·.cls) = some (.type "function") := SA.ty
    cases z : X.K.lookup f2 with
    | none => rw [z] at ht'; cases ht'
    | some of => rw [z] at ht'; exact ⟨of, rfl, Option.some.inj ht'⟩
  refine ks_wpAny_getMethod_super e (PySem.W.looks_opaque KI1 S.st) (l₀ := cd.mro) ?_ rfl KI1 hm (KI1 _ _ lof) hofc (PySem.W.ks_ne KI IA hc) hn ?_
  · exact fun A Q E s k q => wpAny_bind ((PySem.W.looks_clsIn KI1 hc) A _ E s k (wpAny_pure q))
  have nq : H h'.objs.size = none := I1.hok.fresh (Nat.le_refl _)
  have hq0 : (h'.push { cls := .type "method", data := .fields #[.ref f2, .ref a] }).get? h'.objs.size = some (PySem.W.methodObj (.ref f2) (.ref a)) := Heap.get?_push_at rfl rfl
  have I2 : Inv X pins σ (upd H h'.objs.size (.met f2 a)) ⟨h'.push { cls := .type "method", data := .fields #[.ref f2, .ref a] }, g, dr, tk + 1, os⟩ :=
    I1.laid (t' := tk + 1) (a := h'.objs.size) (o := .met f2 a) (h' := h'.push { cls := .type "method", data := .fields #[.ref f2, .ref a] }) (fun b o e => Heap.get?_push_of_some _ e) (Nat.le_refl _) hq0
  have hq := q h'.objs.size nq
  generalize h'.objs.size = qa at *
  refine PySem.W.callWith_of (P := fun h => PySem.W.MethP X.K qa f2 (.ref a) h) (by rw [he]; show ((false || (backTo pos (starEach es X.env)).any (·.1)) || false) = false; rw [hpl]; rfl) (PySem.W.keeps_M SA.fn) ?_
  rw [he]
  refine PySem.Calls.evalArgs_plain ?_
  have hrun := ha.run pos pins _ σ _ _ I2 hq
  rw [he] at hrun
  refine thn hrun fun us s1 ⟨ws, H1, I3, r1, hqm, hsp⟩ => ?_
  have hmo : s1.heap.get? qa = some (PySem.W.methodObj (.ref f2) (.ref a)) := I3.hok qa _ hqm
  refine ⟨⟨hmo, I3.kIn⟩, wpAny_call (ks_codeAny_call_bound hmo ?_)⟩
  have r2 : Vals (V.ref a :: (ws ++ dvs)) (Value.ref a :: (us ++ ds)) := .cons rfl (r1.append hd)
  have hl : (Value.ref a :: us ++ ds).length = ps.length := by
    have e := r2.length
    rw [F.len _ _ _ _ hsp] at e
    exact e.symm
  refine codeAny_mono (F.run X.A X.stack s1 H1 ⟨Value.ref a :: us, []⟩ (Value.ref a :: (us ++ ds)) _ _ E hr I3.env0 (hb _ (Value.ref a :: us) I3.kIn hl) r2 hsp) fun r s' hq' => ?_
  cases r with
  | error er => exact hx pins σ H1 s1 er s' I3 hq'
  | ok fl =>
    cases fl with
    | ret v =>
      obtain ⟨x, H2, I4, rx, q4⟩ := I3.after hq'
      exact ⟨σ, H2, I4, q4⟩
    | next => exact False.elim hq'
    | brk => exact False.elim hq'
    | cont => exact False.elim hq'
end

theorem kpst_super (K : PySem.W.Frag) {f D cc cda f2 : Addr} {self name : Str} {e : Expr} {es : List Expr} {ta : TA} {sp : Sp} {dvs : List V} {ds : List Value} {E : XK} {CX : CXT} {k : Nat} {fd2 : FuncData} {ps : List Str} {p0 p1 apos pos spos : Pos} {pl : Sem Bool}
    (S : SupDef X.prog X.K X.mg f D cc cda self) (hfu : X.env.func = some f) (hco : X.env.code = .ref cda) (hks : X.env.kindOf "super" = some .globalImplicit) (hkc : X.env.kindOf "__class__" = some .free) (hcc : X.env.cells.lookup ("__class__" : Str) = some cc)
    (hN : X.N[0]? = some self) (hv : X.env.scope.names.lookup self = some .local) (hn : (name == ("__class__" : Str)) = false)
    (F : FnOk X.prog X.w X.K X.mg X.base CX k f2 fd2 ps sp) (hr : Room k X.A) (hb : Binds X.K fd2 ps ds) (hd : Vals dvs ds) (hx : Passes CX X E) (ha : PA X (e :: es) ta) (hK : X.K = K := by rfl)
    (hs : swapsWith (.Call (.Attribute (.Call (.Name "super" p0) [] [] p1) name apos) (e :: es) [] pos) none spos.line X.env = pure false := by rfl)
    (he0 : eval (.Call (.Attribute (.Call (.Name "super" p0) [] [] p1) name apos) (e :: es) [] pos) X.env = (do
      let ov ← attributeBase (.Call (.Name "super" p0) [] [] p1) name X.env (eval (.Call (.Name "super" p0) [] [] p1) X.env)
      standAt apos.atName
      let (f, first) ← holding [ov] (getMethod ov name pl)
      callWith pos f first (backTo pos (starEach (e :: es) X.env)) []) := by rfl)
    (he : starEach (e :: es) X.env = (false, eval e X.env) :: starEach es X.env := by rfl) (hpl : (backTo pos (starEach es X.env)).any (·.1) = false := by rfl) :
    PSt X body (.Expr (.Call (.Attribute (.Call (.Name "super" p0) [] [] p1) name apos) (e :: es) [] pos) spos) (tSup K D name f2 sp dvs E ta) := by
  subst hK
  exact pst_super S hfu hco hks hkc hcc hN hv hn F hr hb hd hx ha hs he0 he hpl
theorem k_sup {K : PySem.W.Frag} {D0 f2 a C dx : Addr} {name : Str} {sp : Sp} {dvs : List V} {E : XK} {ta : TA} {B : Ends} {σ : L2.St} {H : Hp} {fs : List (Str × V)} (h0 : σ[0]? = some (some (V.ref a))) (h1 : H a = some (.ins C dx fs)) (h2 : SupAt K C D0 f2 name)
    (k : ∀ q H', H q = none → H' = upd H q (.met f2 a) → Same H H' → H' q = some (.met f2 a) → ta σ H' fun vs H1 => H1 q = some (.met f2 a) ∧ sp (.ref a :: (vs ++ dvs)) H1 (fun _ H2 => B.nx σ H2) E) : tSup K D0 name f2 sp dvs E ta B σ H :=
  ⟨a, C, dx, fs, h0, h1, h2, fun q nq => k q _ nq rfl (same_new nq) upd_same⟩
theorem PSA.nox {X : Cx} {body sts : List Stmt} {t : TS} (h : PSA X.nox body sts t) : PSA X body sts t := ⟨fun pins s σ H D I hw =>
  ks_wpAt_mono (h.go pins s σ H D (I.wish _) hw) (fun _ _ q => q.unwish) fun _ _ z => False.elim z⟩

/-- a method that closes over its class, as it stands behind the top -/
structure FunS (K : PySem.W.Frag) (x qual : Str) (st : Stmt) (f : Addr) (fd : FuncData) (cc cda : Addr) : Prop where
  ex : ∃ (oc : Value) (od : Option Addr) (kV doc pm : Value) (an : Option Addr) (ct : Value) (osl : Array (Option Value)),
    fd = PySem.W.fnX x qual (defArgs st) (defBody st) (defScope st) [("__class__", cc)] .none kV doc pm an (.ref cda) ct ∧ K.lookup f = some ⟨oc, od, .func fd, osl⟩ ∧ PySem.W.codeIn K (.ref cda) qual = true
  kp : PySem.W.keepIn K (.ref f) = true
section
variable {P : Program} {w : World} {K : PySem.W.Frag} {mg : Str → Option Value} {base : Heap}
theorem funS_mk {x qual : Str} {st : Stmt} {f cc cda : Addr} {oc : Value} {od an : Option Addr} {osl : Array (Option Value)} {kV doc pm ct : Value} (l : K.lookup f = some ⟨oc, od, .func (PySem.W.fnX x qual (defArgs st) (defBody st) (defScope st) [("__class__", cc)] .none kV doc pm an (.ref cda) ct), osl⟩)
    (c : PySem.W.codeIn K (.ref cda) qual = true) (k : PySem.W.keepIn K (.ref f) = true) : FunS K x qual st f (PySem.W.fnX x qual (defArgs st) (defBody st) (defScope st) [("__class__", cc)] .none kV doc pm an (.ref cda) ct) cc cda := ⟨⟨oc, od, kV, doc, pm, an, ct, osl, rfl, l, c⟩, k⟩
theorem FunS.binds {x qual : Str} {st : Stmt} {f cc cda : Addr} {fd : FuncData} {ps : List Str} (F : FunS K x qual st f fd cc cda)
    (h : ∀ (kV doc pm : Value) (an : Option Addr) (ct : Value) (us : List Value), us.length = ps.length → bindArgs (PySem.W.fnX x qual (defArgs st) (defBody st) (defScope st) [("__class__", cc)] .none kV doc pm an (.ref cda) ct) ⟨us, []⟩ = pure (ps.zip us)) : Binds K fd ps [] := by
  obtain ⟨oc, od, kV, doc, pm, an, ct, osl, rfl, lk, hcd⟩ := F.ex
  exact .all (h kV doc pm an ct)
abbrev nfS (x qual : Str) (st : Stmt) (cc cda : Addr) : NdefX.NF := ⟨x, qual, defArgs st, defBody st, defScope st, [("__class__", cc)], cda⟩
theorem FunS.ok {x qual : Str} {st : Stmt} {f cc cda D0 : Addr} {fd : FuncData} {N ps : List Str} {k : Nat} {sp : Sp} {cl : Value} {cld : Option Addr} {csl : Array (Option Value)} (F : FunS K x qual st f fd cc cda) (S : NdefX.NScope N ps ["__class__"] (defScope st))
    (hcell : K.lookup cc = some ⟨cl, cld, .cell (some (.ref D0)), csl⟩) (hbn : Binds K fd ps []) (len : ∀ vs H Q E, sp vs H Q E → vs.length = ps.length)
    (hbody : ∀ (A : Around) (outer : List Env) (s : Shared) (H : Hp) (vs : List V) (Q : VK) (E : XK), Room k (A.deeper (NdefX.envF (nfS x qual st cc cda) f s.heap.objs.size)) → sp vs H Q E →
      ∃ t, PSA (NdefX.ncx CX0 P w K mg base N (nfS x qual st cc cda) f A outer s H E).nox (defBody st) (defBody st) t ∧ t { nx := fun _ H' => Q .non H', rt := Q } (NdefX.startF N vs [some (.ref D0)]) H) :
    FnOk P w K mg base CX0 (k + 1) f fd ps sp := by
  obtain ⟨oc, od, kV, doc, pm, an, ct, osl, efd, lk, hcd⟩ := F.ex
  refine ⟨len, fun A outer s H args us vs Q E hr e0 hb r hsp => ?_⟩
  have hl := len _ _ _ _ hsp
  have KB := e0.mod.kin
  have KX : K.In s.heap := KB.keeps fun b o e => (e0.bs b o e).1
  have lim : s.heap.NoLimit := e0.mod.nolimit.keeps fun b o e => (e0.bs b o e).1
  have hc1 := e0.bs _ _ (KB _ _ hcell)
  have CA : NdefX.CellsAt [("__class__", cc)] ["__class__"] [some (.ref D0)] s.heap H := by
    have key : ∀ y c, List.lookup y [(("__class__" : Str), cc)] = some c → y = "__class__" ∧ c = cc := fun y c e => by
      rw [List.lookup_cons] at e
      by_cases hy : y = "__class__"
      · subst hy
        simp at e
        exact ⟨rfl, e.symm⟩
      · have : (y == ("__class__" : Str)) = false := by simpa using hy
        rw [this] at e
        cases e
    refine ⟨rfl, fun y c e => ?_, fun x y c e1 e2 => ((key x c e1).1).trans ((key y c e2).1).symm, fun i y e => ?_⟩
    · obtain ⟨rfl, rfl⟩ := key y c e
      exact ⟨hc1.2, _, _, hc1.1, rfl⟩
    · have hi : i = 0 := by
        have := (List.getElem?_eq_some_iff.mp e).1
        simp at this
        exact this
      subst hi
      have ey : ("__class__" : Str) = y := Option.some.inj e
      subst ey
      refine ⟨cc, by simp, fun v ev => ?_⟩
      have ev' : V.ref D0 = v := Option.some.inj (Option.some.inj ev)
      subst ev'
      exact ⟨.ref D0, rfl, _, hc1.1, rfl⟩
  subst efd
  refine codeAny_call_function hr.depth (KX _ _ lk) rfl S.co S.gen rfl (PySem.W.codeRec_of KX hcd) (hb _ _ _ _ ?_)
  refine wpAny_newFunctionEnv S.nocell (fun ⟨n, _⟩ hy => S.par n (List.of_mem_zip hy).1) (fun h₁ hns hsb => ⟨lim.fresh _ hsb, ?_⟩) S.kind
  show codeAny _ _ (.func (defBody st) (NdefX.envF (nfS x qual st cc cda) f s.heap.objs.size)) _ _
  have kp : ∀ b o, s.heap.get? b = some o → h₁.get? b = some o := fun b o e => hsb.extBut b o (Nat.ne_of_lt (Heap.lt_size e)) (Heap.get?_push_of_some _ e)
  obtain ⟨t, ht, hq⟩ := hbody A outer s H vs Q E (hr.deeper _) hsp
  have I : Inv (NdefX.ncx CX0 P w K mg base N (nfS x qual st cc cda) f A outer s H E) [] (NdefX.startF N vs [some (.ref D0)]) H { s with heap := h₁, toks := s.toks + (ps.zip us).length } :=
    NdefX.inv_startN (F := nfS x qual st cc cda) S hr.hd e0 hl r CA hns kp
  refine ks_codeAny_funcAt (ks_wpAt_mono (ht.nox.go [] _ _ H _ I hq) (fun fl s' hs => ?_) fun e s' hs => hs)
  have fin : ∀ {σ' : L2.St} {H' : Hp} {v : V} {u : Value}, Inv (NdefX.ncx CX0 P w K mg base N (nfS x qual st cc cda) f A outer s H E) [] σ' H' s' → L2.RelV v u → Q v H' → CE outer P w H s Q u s' :=
    fun {σ' H' v u} J rv q => ⟨v, H', J.os, J.bare, J.base, J.hok, rv, q⟩
  cases fl with
  | ret u =>
    obtain ⟨v, σ', H', J, rv, q⟩ := hs
    exact fin J rv q
  | next =>
    obtain ⟨σ', H', J, q⟩ := hs
    exact fin (v := V.non) (u := Value.none) J rfl q
  | brk =>
    obtain ⟨_, _, _, q⟩ := hs
    exact False.elim q
  | cont =>
    obtain ⟨_, _, _, q⟩ := hs
    exact False.elim q
end

/-! ### methods found by the instance's own class -/
/-- for an instance of C the method m keeps sp -/
def Disp (X : Cx) (CX : CXT) (k : Nat) (m : Str) (R : Addr → Sp → Prop) : Prop :=
  ∀ C sp, R C sp → ∃ g fd ps, Cls X.K C ∧ Meth X.K C m g ∧ FnOk X.prog X.w X.K X.mg X.base CX k g fd ps sp ∧ Binds X.K fd ps []
def tMethP (R : Addr → Sp → Prop) (m : Str) (E : XK) (ta : TE) (t : TA) : TE := fun σ H Q => ta σ H fun x H1 => ∃ a C dx fs sp, x = V.ref a ∧ H1 a = some (.ins C dx fs) ∧ R C sp ∧ fs.lookup m = none ∧ t σ H1 fun vs H2 => sp (x :: vs) H2 Q E
section
variable {X : Cx} {CX : CXT} {k : Nat} {m : Str} {R : Addr → Sp → Prop} {E : XK} {o e : Expr} {es : List Expr} {ta : TE} {t : TA} {apos pos : Pos} {pl : Sem Bool}
theorem kpe_methP (hR : Disp X CX k m R) (hr : Room k X.A) (hx : Passes CX X E) (he : PE X o ta) (ha : PA X (e :: es) t)
    (hst : starEach (e :: es) X.env = (false, eval e X.env) :: starEach es X.env := by rfl) (hpl : (backTo pos (starEach es X.env)).any (·.1) = false := by rfl)
    (ht : eval (.Call (.Attribute o m apos) (e :: es) [] pos) X.env = (do
      let ov ← eval o X.env
      standAt apos.atName
      let (f, first) ← holding [ov] (getMethod ov m pl)
      callWith pos f first (backTo pos (starEach (e :: es) X.env)) (backToKw pos (keywordEach [] X.env))) := by rfl) :
    PE X (.Call (.Attribute o m apos) (e :: es) [] pos) (tMethP R m E ta t) := by
  refine ⟨fun pins s σ H Q I h => PySem.W.methodCall_KW (pl := pl) (thn (he.run pins s σ H _ I h) fun u s1 hu => ?_) ht⟩
  obtain ⟨x, H1, I1, rx, a, C, dx, fs, sp, ex, ea, hRC, l, q⟩ := hu
  subst ex
  obtain rfl : u = Value.ref a := rx
  obtain ⟨g, fd, ps, c, hm, F, hb⟩ := hR C sp hRC
  refine getmeth_ok I1 ea c hm l (PySem.W.callWith_K (first := [.ref a]) (h₀ := X.base) I.ok.mod.kin hm.kp (thn (ha.run pos pins s1 σ H1 _ I1 q) fun us s2 hv => ?_) hst hpl)
  obtain ⟨vs, H2, I2, r, q2⟩ := hv
  exact ⟨I2.kIn, run_fn (us := .ref a :: us) (vs := .ref a :: vs) (dvs := []) (ds := []) F hr hb .nil hx I2 (.cons rfl r) (by rw [List.append_nil]; exact q2)⟩
theorem kpe_methP0 (hR : Disp X CX k m R) (hr : Room k X.A) (hx : Passes CX X E) (he : PE X o ta)
    (ht : eval (.Call (.Attribute o m apos) [] [] pos) X.env = (do
      let ov ← eval o X.env
      standAt apos.atName
      let (f, first) ← holding [ov] (getMethod ov m pl)
      callWith pos f first (backTo pos (starEach [] X.env)) (backToKw pos (keywordEach [] X.env))) := by rfl) :
    PE X (.Call (.Attribute o m apos) [] [] pos) (tMethP R m E ta tNil) := by
  refine ⟨fun pins s σ H Q I h => PySem.W.methodCall_KW (pl := pl) (thn (he.run pins s σ H _ I h) fun u s1 hu => ?_) ht⟩
  obtain ⟨x, H1, I1, rx, a, C, dx, fs, sp, ex, ea, hRC, l, q⟩ := hu
  subst ex
  obtain rfl : u = Value.ref a := rx
  obtain ⟨g, fd, ps, c, hm, F, hb⟩ := hR C sp hRC
  refine getmeth_ok I1 ea c hm l (PySem.W.callWith_K0 (first := [.ref a]) I1.kIn hm.kp ?_)
  exact run_fn (us := [.ref a]) (vs := [.ref a]) (dvs := []) (ds := []) F hr hb .nil hx I1 (.cons rfl .nil) q
/-- an instance called -/
def DispC (X : Cx) (CX : CXT) (k : Nat) (R : Addr → Sp → Prop) : Prop :=
  ∀ C sp, R C sp → ∃ g fd ps, StX.CallO X.K C g ∧ FnOk X.prog X.w X.K X.mg X.base CX k g fd ps sp ∧ Binds X.K fd ps []
def tCallP (R : Addr → Sp → Prop) (E : XK) (tf : TE) (t : TA) : TE := fun σ H Q => tf σ H fun y H1 => ∃ a C sp, y = V.ref a ∧ R C sp ∧ t σ H1 fun vs H2 => (∃ dx fs, H2 a = some (.ins C dx fs)) ∧ sp (V.ref a :: vs) H2 Q E
theorem kpe_callP {fe : Expr} {tf : TE} (hR : DispC X CX k R) (hr : Room k X.A) (hx : Passes CX X E) (hf : PE X fe tf) (ha : PA X (e :: es) t)
    (ht : eval (.Call fe (e :: es) [] pos) X.env = (do callWith pos (← eval fe X.env) [] (backTo pos (starEach (e :: es) X.env)) (backToKw pos (keywordEach [] X.env))) := by rfl)
    (he : starEach (e :: es) X.env = (false, eval e X.env) :: starEach es X.env := by rfl) (hpl : (backTo pos (starEach es X.env)).any (·.1) = false := by rfl) : PE X (.Call fe (e :: es) [] pos) (tCallP R E tf t) := by
  refine ⟨fun pins s σ H Q I h => Call_ (thn (hf.run pins s σ H _ I h) fun u s1 hu => ?_) ht⟩
  obtain ⟨y, H1, I1, ry, a, C, sp, ey, hRC, q⟩ := hu
  subst ey
  obtain rfl : u = Value.ref a := ry
  obtain ⟨g, fd, ps, c, F, hb⟩ := hR C sp hRC
  refine StX.callO_with (thn (ha.run pos pins s1 σ H1 _ I1 q) fun us s2 hv => ?_) he hpl
  obtain ⟨vs, H2, I2, r, hi, q2⟩ := hv
  obtain ⟨ox, od, J, hd⟩ := StX.insC_at I2 (.inr hi)
  refine ⟨⟨C, ox, od, J, hd⟩, ?_⟩
  have r2 : Vals (V.ref a :: vs) (Value.ref a :: us) := .cons rfl r
  have hl : (Value.ref a :: us).length = ps.length := by rw [← r2.length]; exact F.len _ _ _ _ q2
  refine wpAny_call (PySem.W.kco_code I2.kIn J hd c.at_ c.fn c.fi (codeAny_mono (F.run X.A X.stack s2 H2 ⟨Value.ref a :: us, []⟩ (Value.ref a :: us) (V.ref a :: vs) Q E hr I2.env0 ?_ r2 q2) fun res s' hq => ?_))
  · have z := hb s2 (Value.ref a :: us) I2.kIn (by rw [List.append_nil]; exact hl)
    rw [List.append_nil] at z
    exact z
  · cases res with
    | error er => exact hx pins σ H2 s2 er s' I2 hq
    | ok fl =>
      cases fl with
      | ret v => exact I2.after hq
      | next => exact False.elim hq
      | brk => exact False.elim hq
      | cont => exact False.elim hq
end

/-- what isinstance asks of an own class -/
structure ClsTy (K : PySem.W.Frag) (C : Addr) : Prop where
  cl : Cls K C
  ha : PySem.W.findIn K (.ref C) "__class__" = some (some (.builtin "object.__class__"))
  hn : PySem.W.specialIn K (.builtin "object.__class__") "__get__" = some (some (.builtin "getset_descriptor.__get__"))
  htk : PySem.W.takesIn K (.builtin "object.__class__") = some true
  hm : PySem.W.mroIn K C (.type "object") = some true
theorem ty_own {K : PySem.W.Frag} {H : Hp} {a C dx : Addr} {fs : List (Str × V)} (c : ClsTy K C) (e : H a = some (.ins C dx fs)) : TyX K H (.ref a) (.ref C) := .base (.ins e c.cl c.ha c.hn c.htk c.hm)
end Kit

namespace Kit
open PySem PySem.Spec PyProof.Rows L2
/-! ### super().__init__(..) in an own exception's __init__ -/
/-- a built-in __init__ bound to the object that is being made -/
def mwo (u a : Addr) : HO := .ext fun h => h.get? u = some (PySem.W.kxs_mw "ValueError.__init__" a)
structure SupAtE (K : PySem.W.Frag) (C D : Addr) : Prop where
  oex : OexC K C
  sub : PySem.W.mroIn K C (.ref D) = some true
  m : PySem.W.ks_superIn K C D "__init__" = some (some (.builtin "ValueError.__init__"))
  hB : PySem.W.subIn K (.ref C) (.type "ValueError") = some true
section
variable {prog : Program} {w : World} {A : Around} {E : Value → Shared → Prop} {h : Heap} {g : Array GenState} {dr : Drawn} {t : Nat} {os : OsState}
theorem call_mwE {K : PySem.W.Frag} {C a u t1 : Addr} {us : List Value} {Q : Value → Shared → Prop} (KX : K.In h) (T : OexC K C) (hu : h.get? u = some (PySem.W.kxs_mw "ValueError.__init__" a))
    (ha : h.get? a = some ({ cls := .ref C, dict := none, data := .fields #[.ref t1, .none, .none, .none, .bool false, .none] } : Obj)) (hl : us.length ≤ sizeLine)
    (hq : ∀ h' t2, (∀ b o, b ≠ a → h.get? b = some o → h'.get? b = some o) → h'.get? a = some (PySem.HandSPX.excO C t2) → Q .none ⟨h', g, dr, t, os⟩) : wpAny (model prog w) A (call (.ref u) us) Q E ⟨h, g, dr, t, os⟩ := by
  obtain ⟨nm, q, N, bs, bm, sn, sub, ab, col, dd, k0, k1, k2, k3, k5, hC, hbm⟩ := T.cls
  refine wpAny_call (codeAny_of_tree ?_)
  show wpAny (model prog w) A.in1 (callAny (.ref u) { pos := us, kw := [] }) _ _ _
  simp only [callAny]
  refine wpAny_bind (wpAny_load hu ?_)
  simp only [PySem.W.kxs_mw, show ((Value.type "method-wrapper" == Value.type "method") || (Value.type "method-wrapper" == Value.type "builtin_function_or_method") || (Value.type "method-wrapper" == Value.type "method-wrapper")) = true by decide, if_true]
  refine PySem.W.KFB.if_so (by decide) ?_
  refine wpAny_bind (PySem.W.check_bound_init F.excBase_ValueError.toExcCallFacts (KX _ _ hC) ha rfl ?_)
  refine wpAny_bind (wpAny_pure (wpAny_pure ?_))
  refine ⟨plainId_quiet F.excBase_ValueError.init.plain _, codeAny_builtin F.excBase_ValueError.initEntry ?_⟩
  wp_walk
  refine hq _ h.objs.size (fun c oc nc gc => ?_) ?_
  · rw [Heap.get?_update_other _ _ fun e => nc e.symm]; exact Heap.get?_push_of_some _ gc
  · rw [Heap.get?_update_self _ (Heap.get?_push_of_some _ ha) rfl]; rfl
end
section
variable {X : Cx} {body : List Stmt}
def tSupE (K : PySem.W.Frag) (D : Addr) (ta : TA) : TS := fun B σ H => ∃ a C, σ[0]? = some (some (V.ref a)) ∧ H a = some (exo a C none) ∧ SupAtE K C D ∧
  ∀ q, H q = none → ta σ (upd H q (mwo q a)) fun vs H1 => vs.length ≤ 1000 ∧ H1 q = some (mwo q a) ∧ H1 a = some (exo a C none) ∧ B.nx σ H1
theorem mwo_ok {P : Program} {w : World} {H : Hp} {h : Heap} {u a : Addr} (hu : h.get? u = some (PySem.W.kxs_mw "ValueError.__init__" a)) : ObjOk P w H h u (mwo u a) := ⟨hu, ⟨_, hu⟩, fun h1 h2 z k => k _ z⟩
theorem mwo_at {P : Program} {w : World} {H : Hp} {h : Heap} {u a : Addr} (hok : HOk P w H h) (e : H u = some (mwo u a)) : h.get? u = some (PySem.W.kxs_mw "ValueError.__init__" a) := by
  have z : ObjOk P w H h u (.ext fun h => h.get? u = some (PySem.W.kxs_mw "ValueError.__init__" a)) := hok u _ e
  exact z.1
theorem pst_supE {f D cc cda : Addr} {self : Str} {e : Expr} {es : List Expr} {ta : TA} {p0 p1 apos pos spos : Pos} {pl : Sem Bool}
    (S : SupDef X.prog X.K X.mg f D cc cda self) (hfu : X.env.func = some f) (hco : X.env.code = .ref cda) (hks : X.env.kindOf "super" = some .globalImplicit) (hkc : X.env.kindOf "__class__" = some .free) (hcc : X.env.cells.lookup ("__class__" : Str) = some cc)
    (hN : X.N[0]? = some self) (hv : X.env.scope.names.lookup self = some .local) (ha : PA X (e :: es) ta)
    (hs : swapsWith (.Call (.Attribute (.Call (.Name "super" p0) [] [] p1) "__init__" apos) (e :: es) [] pos) none spos.line X.env = pure false := by rfl)
    (he0 : eval (.Call (.Attribute (.Call (.Name "super" p0) [] [] p1) "__init__" apos) (e :: es) [] pos) X.env = (do
      let ov ← attributeBase (.Call (.Name "super" p0) [] [] p1) "__init__" X.env (eval (.Call (.Name "super" p0) [] [] p1) X.env)
      standAt apos.atName
      let (f, first) ← holding [ov] (getMethod ov "__init__" pl)
      callWith pos f first (backTo pos (starEach (e :: es) X.env)) []) := by rfl)
    (he : starEach (e :: es) X.env = (false, eval e X.env) :: starEach es X.env := by rfl) (hpl : (backTo pos (starEach es X.env)).any (·.1) = false := by rfl) :
    PSt X body (.Expr (.Call (.Attribute (.Call (.Name "super" p0) [] [] p1) "__init__" apos) (e :: es) [] pos) spos) (tSupE X.K D ta) := by
  refine ⟨fun pins s σ H B I h => ?_⟩
  obtain ⟨a, C, hσ, hH, SA, q⟩ := h
  obtain ⟨oc, od, fd, osl, ar, lkf, hhead, har⟩ := S.fn
  obtain ⟨ccl, cdd, vs, ccs, file, tf, lkc, hvs, hfile⟩ := S.code
  obtain ⟨cl, cld, csl, lkcell⟩ := S.cell
  obtain ⟨cdD, hD⟩ := S.cls
  have KI := I.kIn
  obtain ⟨t1, hget⟩ := exo_at I.hok hH
  have IA : PySem.W.InstAt s.heap a _ C none := ⟨hget, rfl, rfl, trivial⟩
  obtain ⟨oD, hD1, hD2⟩ : ∃ oD, s.heap.get? D = some oD ∧ oD.data = .cls cdD := by
    unfold PySem.W.clsIn at hD
    split at hD
    · rename_i c d cd' sl ho
      cases hD
      exact ⟨_, KI _ _ ho, rfl⟩
    · cases hD
  obtain ⟨m, hns, hloc⟩ := I.loc
  obtain ⟨u, ru, lk⟩ := hloc 0 self (.ref a) hN hσ (.inl hv)
  cases ru
  have hself : m self = some (.ref a) := by
    rcases lk with ⟨_, z⟩ | ⟨z, _⟩
    · exact z
    · have z' : X.env.scope.names.lookup self = some .cell ∨ X.env.scope.names.lookup self = some .free := z
      rw [hv] at z'
      rcases z' with z' | z' <;> cases z'
  refine ks_wpAt_Expr_any ?_ I.quiet hs
  refine ks_wpAt_MethodCall ?_ he0
  refine ks_wpAt_super_base (env := X.env) hks hkc (by decide) hfu (KI _ _ lkf) rfl hhead hco (KI _ _ lkc) rfl hvs hfile S.top ?_
  obtain ⟨mb, hb1, hb2⟩ := I.mod.blt
  refine PySem.W.ks_loadName_global I.ok.kind hks (Calls.loadGlobal_builtin (by rw [I.ok.glob]; exact I.mod.glob.keeps I.bk) S.sup (by rw [I.ok.blt]; exact hb1.keeps I.bk) ((hb2 "super" (by decide)).trans (show bootBuiltins "super" = some (.type "super") by decide +kernel)) ⟨rfl, ?_⟩)
  refine wpAny_loadName_free I.ok.kind hkc hcc ⟨_, KI _ _ lkcell, rfl⟩ ?_
  rw [har]
  refine wpAny_loadName_local I.ok.kind hv hns hself ?_
  refine ks_wpAny_isType_cls hD1 hD2 ⟨rfl, ?_⟩
  obtain ⟨hp, g, dr, tk, os⟩ := s
  refine ks_wpAny_call_super hD1 hD2 IA.at_ IA.cls (fun c e => ?_) (PySem.W.looks_mroIn KI SA.sub) (fun h' e k => ?_)
  · have z := IA.no
    unfold PySem.W.notCls at z
    rw [e] at z
    exact Bool.noConfusion z
  have I1 : Inv X pins σ H ⟨h', g, dr, tk, os⟩ := I.kept (t' := tk) k
  have KI1 := I1.kIn
  obtain ⟨t2, hget2⟩ := exo_at I1.hok hH
  have IB : PySem.W.InstAt h' a _ C none := ⟨hget2, rfl, rfl, trivial⟩
  have hm := SA.m
  unfold PySem.W.ks_superIn at hm
  obtain ⟨cd, hc⟩ : ∃ cd, PySem.W.clsIn X.K C = some cd := by
    cases hc : PySem.W.clsIn X.K C with
    | none => rw [hc] at hm; cases hm
    | some cd => exact ⟨cd, rfl⟩
  rw [hc] at hm
  refine PySem.W.kxs_getMethod PySem.W.kxs_ValueError e (PySem.W.looks_opaque KI1 S.st) (l₀ := cd.mro) ?_ rfl KI1 hm (IB.type.andThen (PySem.W.looks_subIn KI1 SA.hB)) (PySem.W.ks_ne KI IA hc) (by decide) ?_
  · exact fun A Q E s k q => wpAny_bind ((PySem.W.looks_clsIn KI1 hc) A _ E s k (wpAny_pure q))
  have nq : H h'.objs.size = none := I1.hok.fresh (Nat.le_refl _)
  have hq0 : (h'.push (PySem.W.kxs_mw "ValueError.__init__" a)).get? h'.objs.size = some (PySem.W.kxs_mw "ValueError.__init__" a) := Heap.get?_push_at rfl rfl
  have I2 : Inv X pins σ (upd H h'.objs.size (mwo h'.objs.size a)) ⟨h'.push (PySem.W.kxs_mw "ValueError.__init__" a), g, dr, tk + 1, os⟩ :=
    I1.laid (t' := tk + 1) (a := h'.objs.size) (o := mwo h'.objs.size a) (h' := h'.push (PySem.W.kxs_mw "ValueError.__init__" a)) (fun b o e => Heap.get?_push_of_some _ e) (Nat.le_refl _) (mwo_ok hq0)
  have hq := q h'.objs.size nq
  generalize h'.objs.size = qa at *
  rw [he]
  refine PySem.W.kxs_callWith (i := "ValueError.__init__") (x := a) (by show (false || (backTo pos (starEach es X.env)).any (·.1)) = false; rw [hpl]; rfl) ?_
  refine PySem.Calls.evalArgs_plain ?_
  have hrun := ha.run pos pins _ σ _ _ I2 hq
  rw [he] at hrun
  refine thn hrun fun us s1 ⟨ws, H1, I3, r1, hlen, hqm, hqa, hsp⟩ => ?_
  have hmo := mwo_at I3.hok hqm
  refine ⟨hmo, ?_⟩
  obtain ⟨t3, hget3⟩ := exo_at I3.hok hqa
  have hus : us.length ≤ sizeLine := by
    rw [← Paired.length r1, sizeLine_eq]
    omega
  obtain ⟨hp3, g3, dr3, tk3, os3⟩ := s1
  refine call_mwE I3.kIn SA.oex hmo hget3 hus fun h4 t4 k4 e4 => ?_
  have J := I3.write (t' := tk3) (x := a) (e := a) (o := exo a C none) (by rw [hqa]; exact True.intro) (.inl rfl) k4 ⟨_, e4⟩ (exo_ok e4)
  have eu : upd H1 a (exo a C none) = H1 := by
    funext b
    by_cases hb : b = a
    · rw [hb, upd_same, hqa]
    · rw [upd_ne hb]
  rw [eu] at J
  exact ⟨σ, H1, J, hsp⟩
end
/-! ### several except clauses, each with a name -/
abbrev endA (i : Nat) (D : Ends) : Ends := { nx := fun τ G => D.nx (τ.set i none) G, rt := D.rt, bk := fun τ G => D.bk (τ.set i none) G, ct := fun τ G => D.ct (τ.set i none) G }
abbrev ClA : Type := Value × Nat × (Addr → Value → Option Addr → TS)
def wManyA (K : PySem.W.Frag) (Wo : WX) (D : Ends) : List ClA → WX
  | [] => Wo
  | (c, i, ts) :: r => fun cls d τ G => ∃ hit, PySem.W.exmOne K cls c = some hit ∧ (hit = true → ∀ a, G a = none → ts a cls d (endA i D) (τ.set i (some (.ref a))) G) ∧ (hit = false → wManyA K Wo D r cls d τ G)
inductive HdsA (X : Cx) : List ExceptHandler → List ClA → Prop
  | nil : HdsA X [] []
  | cons {x n : Str} {c : Value} {i : Nat} {ts : Addr → Value → Option Addr → TS} {b0 : Stmt} {sts : List Stmt} {np ps : Pos} {hds : List ExceptHandler} {l : List ClA} (hi : X.N[i]? = some n) (hln : X.env.kindOf n = some .local) (hc : Names X x c)
      (hsu : ∀ (a : Addr) (oe : Obj) (cls : Value) (d : Option Addr) (pn : List (Addr × Obj)), Zc cls d oe → (∃ vs, oe.data = .fields vs) → PSs (X.suite a ((a, oe) :: pn)) (b0 :: sts) (ts a cls d)) (r : HdsA X hds l) :
      HdsA X (.ExceptHandler (some (.Name x np)) (some n) (b0 :: sts) ps :: hds) ((c, i, ts) :: l)
section
variable {X : Cx} {body : List Stmt} {h0 : ExceptHandler} {hds : List ExceptHandler} {l : List ClA} {pos : Pos} {tb : WX → TS} {Wo : WX}
theorem ps_try_manyA (est : X.stack = X.env :: X.outer) (efr : X.env.frame = some X.env.locals) (hN : X.N.Nodup) (tk : Takes X Wo)
    (hbd : ∀ (W : WX) (pn : List (Addr × Obj)) (xe : Value → Shared → Prop), Takes (X.tr pn xe) W → PassesOwn (model X.prog X.w) X.A X.env xe → PSs (X.tr pn xe) body (tb W))
    (hh : HdsA X (h0 :: hds) l) : PS X (.Try body (h0 :: hds) [] [] pos) (fun D σ H => tb (wManyA X.K Wo D l) D σ H) := by
  refine ⟨fun pins s0 σ H D I h => ?_⟩
  have okX := I.ok
  have frX : X.A.frames = some (X.env :: X.outer) := by rw [okX.frames, est]
  refine wpAny_Try_except ?_
  refine wpAny_mono ((hbd (wManyA X.K Wo D l) (X.pn ++ pins) (fun e s₁ => wpAny (model X.prog X.w) X.A (noteFrame e X.env) (fun _ s₂ => wpAny (model X.prog X.w) X.A (setFlight e none) (fun _ s₃ =>
    wpAny (model X.prog X.w) X.A (handleBy e X.env (h0 :: hds)) (SP X pins D) X.xe s₃) X.xe s₂) X.xe s₁) (fun u sE xx => ?_) PassesOwn.looking).run [] s0 σ H D (I.toTry _) h) (fun f s1 spf => ?_) (fun e s1 q => q)
  · obtain ⟨a, B, sJ, pin2, τ, G, cls, d, rfl, JT, nb, up, sky, na, os, ag, w⟩ := xx
    have J : Inv X pins τ G sJ := JT.ofTry okX
    have skyX : Sky B (X.env :: X.outer) a (Zc cls d) X.env.locals sE.heap := by rw [← est]; exact sky
    show wpAny (model X.prog X.w) X.A (noteFrame (.ref a) X.env) _ _ _
    refine Sky.land Zc.steady frX efr skyX fun h3 w3 up3 => ?_
    have J3 : Inv X pins τ G { sE with heap := h3 } := J.landed nb w3.1 (up.trans up3) os ag
    obtain ⟨o3, vs3, ge3, gz3, gd3⟩ := w3.there
    have far : ∀ {h : Heap} {o : Obj} {vs : Array Value}, h.FunFrames B (X.env :: X.outer) → h.get? a = some o → o.data = .fields vs → a ∉ frs (X.env :: X.outer) := fun {h o vs} ff e dd hm => by
      obtain ⟨_, o2, e2, hne⟩ := ff.mem hm
      rw [e] at e2; cases e2; exact hne _ dd
    have nfX := far w3.2.2.1 ge3 gd3
    have nLX : a ≠ X.env.locals := fun z => nfX (List.mem_filterMap.mpr ⟨X.env, List.mem_cons_self, by rw [efr, z]⟩)
    have nFX : a ∉ X.fs := fun hm => by
      obtain ⟨e, hem, q⟩ := List.mem_filterMap.mp hm
      exact nfX (List.mem_filterMap.mpr ⟨e, List.mem_cons_of_mem _ hem, q⟩)
    have S3 := J3.suite ge3 gd3 na nLX nFX
    have go : ∀ {hs : List ExceptHandler} {cl : List ClA}, HdsA X hs cl → wManyA X.K Wo D cl cls d τ G → wpAny (model X.prog X.w) X.A (handleBy (.ref a) X.env hs) (SP X pins D) X.xe { sE with heap := h3 } := by
      intro hs cl hk
      induction hk with
      | nil =>
        intro w
        refine wpAny_handleBy_nil ?_
        obtain ⟨k1, k2, k3, oe, vs, TT, oT, tsT, heT, hzT, hdT, h1T, hrT⟩ := id w3
        unfold PySem.passOn
        refine wpAny_bind (wpAny_field heT hdT h1T ?_)
        rw [if_neg (show ¬ ((Value.ref TT == Value.none) = true) from by simp)]
        have thrown : wpAny (model X.prog X.w) X.A (setFlight (.ref a) X.env.frame) (fun _ s4 => wpAny (model X.prog X.w) X.A (throw (.ref a) : Sem Flow) (SP X pins D) X.xe s4) X.xe { sE with heap := h3 } := by
          rw [efr]
          refine HandSPX.setFlight_upZ w3 fun h4 hh4 up4 => wpAny_throw (tk _ _ ?_)
          exact ⟨a, B, sJ, pins, τ, G, cls, d, rfl, J, nb, (up.trans up3).trans up4, .inr (.inr (by rw [est]; exact hh4)), na, os, ag, w⟩
        first | exact wpAny_bind (wpAny_pure (wpAny_bind thrown)) | exact wpAny_bind thrown
      | @cons x n c i ts b0 sts np ps hds2 l2 hi hln hc hsu r ih =>
        intro w
        obtain ⟨hit, hb1, hyes, hno⟩ := w
        refine wpAny_handleBy_cons (codeAny_handlers_test ?_) (by intro q; cases q)
        have LT : PySem.W.Looks (model X.prog X.w) h3 (typeOf (.ref a)) cls := fun A Q E s k q => wpAny_typeOf_ref (k _ _ ge3) (by rw [gz3.1]; exact q)
        have LM := PySem.W.exm_one (M := model X.prog X.w) (J3.kIn) LT hb1
        have tst : ∀ {Q : Value → Shared → Prop} {E : Value → Shared → Prop}, Q c { sE with heap := h3 } → wpAny (model X.prog X.w) (X.A.mark (some (.ref a))) (eval (.Name x np) X.env) Q E { sE with heap := h3 } := fun {Q E} q => by
          obtain ⟨hg, hdbg, hm | ⟨hm, hv, hnn⟩⟩ := hc
          · exact ld_glob (X := X.suite a ((a, o3) :: (X.pn ++ pins))) S3 hg hm q hdbg
          · exact ld_blt (X := X.suite a ((a, o3) :: (X.pn ++ pins))) S3 hg hm hv q hnn hdbg
        refine tst (LM.here ?_)
        cases hit with
        | false =>
          show wpAny (model X.prog X.w) X.A (handleBy (.ref a) X.env hds2) _ _ _
          exact ih (hno rfl)
        | true =>
          refine codeAny_handlers_suite_as ?_
          refine HandSPX.lands_againZ w3 fun h4 w4 up4 => ?_
          have J4 : Inv X pins τ G { sE with heap := h4 } := J.landed nb w4.1 ((up.trans up3).trans up4) os ag
          obtain ⟨o4, vs4, ge4, gz4, gd4⟩ := w4.there
          have S4 := J4.suite ge4 gd4 na nLX nFX
          refine store_ok (X := X.suite a ((a, o4) :: (X.pn ++ pins))) (v := .ref a) S4 hN hi (.inl hln) rfl (fun s5 S5 => ?_) (.inr hln)
          refine wpAny_mono ((hsu a o4 cls d (X.pn ++ pins) gz4 ⟨_, gd4⟩).run [] s5 _ G _ S5 (hyes rfl a na)) (fun f s6 sp6 => ?_) (fun _ _ z => False.elim z)
          have fin : ∀ {σ6 : L2.St} {H6 : Hp} {Q : Shared → Prop}, Inv (X.suite a ((a, o4) :: (X.pn ++ pins))) [] σ6 H6 s6 → (∀ s7, Inv X pins (σ6.set i none) H6 s7 → Q s7) →
              wpAny (model X.prog X.w) X.A (do bindName X.env n .none; unbindBehindTheSuite X.env n ps) (fun _ s7 => Q s7) X.xe s6 := fun {σ6 H6 Q} S6 hq => gone_ok (S6.unsuite okX) hN hi hln hq
          cases f with
          | ret u =>
            obtain ⟨v6, σ6, H6, S6, r6, q6⟩ := sp6
            exact fin S6 fun s7 J7 => ⟨_, _, _, J7, r6, q6⟩
          | next => obtain ⟨σ6, H6, S6, q6⟩ := sp6; exact fin S6 fun s7 J7 => ⟨_, _, J7, q6⟩
          | brk => obtain ⟨σ6, H6, S6, q6⟩ := sp6; exact fin S6 fun s7 J7 => ⟨_, _, J7, q6⟩
          | cont => obtain ⟨σ6, H6, S6, q6⟩ := sp6; exact fin S6 fun s7 J7 => ⟨_, _, J7, q6⟩
    exact go hh w
  · cases f with
    | ret u =>
      obtain ⟨v, τ, G, JT, r, q⟩ := spf
      exact ⟨v, τ, G, JT.ofTry okX, r, q⟩
    | next => obtain ⟨τ, G, JT, q⟩ := spf; exact wpAny_execs_nil ⟨τ, G, JT.ofTry okX, q⟩
    | brk => obtain ⟨τ, G, JT, q⟩ := spf; exact ⟨τ, G, JT.ofTry okX, q⟩
    | cont => obtain ⟨τ, G, JT, q⟩ := spf; exact ⟨τ, G, JT.ofTry okX, q⟩
end
/-! ### keywords alone; wishes at the caller's slots -/
section
variable {X : Cx} {CX : CXT} {k : Nat} {f : Addr} {fd : FuncData} {ps ks : List Str} {sp : Sp} {E : L2.St → XK} {x : Str} {p pos : Pos} {kws : List Keyword} {tk : TA}
def tCallKS (sp : Sp) (gV : List V → List V → List V) (E : L2.St → XK) (tk : TA) : TE := fun σ H Q => tk σ H fun zs H2 => sp (gV [] zs) H2 Q (E σ)
theorem pe_callKS {g : List Value → List Value → List Value} {gV : List V → List V → List V} (Fn : FnOk X.prog X.w X.K X.mg X.base CX k f fd ps sp) (hr : Room k X.A) (hg : Gl X x) (hm : X.mg x = some (.ref f)) (hk : PySem.W.keepIn X.K (.ref f) = true) (hb : KBinds X.K fd ps ks g gV) (hx : ∀ σ, PassesAt CX X σ (E σ))
    (hkw : PK X kws tk) (hall : (backToKw pos (keywordEach kws X.env)).all (·.1.isSome) = true := by rfl) (hks : (backToKw pos (keywordEach kws X.env)).filterMap (·.1) = ks := by rfl) (hdb : (x == ("__debug__" : Str)) = false := by decide)
    (hpl : ((backTo pos (starEach [] X.env)).any (·.1) || (backToKw pos (keywordEach kws X.env)).any (·.1.isNone)) = false := by rfl) : PE X (.Call (.Name x p) [] kws pos) (tCallKS sp gV E tk) := by
  refine ⟨fun pins s σ H Q I h => ?_⟩
  refine wpAny_Call_Name_kw (ld_glob I hg hm ?_ hdb)
  refine PySem.W.callWith_KW0 (h₀ := X.base) I.ok.mod.kin hk hall ?_ hpl
  refine thn (hkw.run pos pins s σ H _ I h) fun ws s2 ⟨zs, H2, I2, rz, q2⟩ => ⟨I2.kIn, ?_⟩
  rw [hks]
  have r2 := hb.rel (vs := []) (us := []) .nil rz
  have hl : (g [] ws).length = ps.length := by rw [← r2.length]; exact Fn.len _ _ _ _ q2
  refine wpAny_call (codeAny_mono (Fn.run X.A X.stack s2 H2 ⟨[], ks.zip ws⟩ (g [] ws) (gV [] zs) Q (E σ) hr I2.env0 (hb.to s2 [] ws I2.kIn hl) r2 q2) fun r s' q3 => ?_)
  cases r with
  | ok fl => cases fl with
    | ret u => exact I2.after q3
    | next => exact False.elim q3
    | brk => exact False.elim q3
    | cont => exact False.elim q3
  | error e => exact hx σ pins H2 s2 e s' I2 q3
theorem pass0At {X : Cx} {E : L2.St → XK} : ∀ σ, PassesAt CX0 X σ (E σ) := fun _ _ _ _ _ _ _ h => h.elim
theorem k_callKS {gV : List V → List V → List V} {σ : L2.St} {H : Hp} {Q : VK} (h : tk σ H fun zs H2 => sp (gV [] zs) H2 Q (E σ)) : tCallKS sp gV E tk σ H Q := h
end
theorem exm_selfE {K : PySem.W.Frag} {S D : Addr} {hit : Bool} (h1 : PySem.W.subIn K (.ref D) (.type "BaseException") = some true) (h2 : PySem.W.isClsIn K D = true) (h3 : PySem.W.typeIn K (.ref D) = some (.type "type")) (h4 : PySem.W.subIn K (.ref S) (.ref D) = some hit) : PySem.W.exmOne K (.ref S) (.ref D) = some hit := by
  have a1 : (PySem.W.subIn K (.ref D) (.type "BaseException") == some true) = true := by rw [h1] <;> rfl
  have a2 : ((PySem.W.clsIn K D).isSome && PySem.W.typeIn K (.ref D) == some (.type "type")) = true := by
    have b2 : (PySem.W.clsIn K D).isSome = true := h2
    rw [b2, h3] <;> rfl
  show (if (PySem.W.subIn K (.ref D) (.type "BaseException") == some true) = true then (if ((PySem.W.clsIn K D).isSome && PySem.W.typeIn K (.ref D) == some (.type "type")) = true then PySem.W.subIn K (.ref S) (.ref D) else none) else none) = some hit
  rw [if_pos a1, if_pos a2]
  exact h4
/-! ### readings -/
section
variable {σ : L2.St} {H : Hp} {D : Ends} {K : PySem.W.Frag}
theorem k_supE {D0 a C : Addr} {ta : TA} {B : Ends} (h0 : σ[0]? = some (some (V.ref a))) (h1 : H a = some (exo a C none)) (h2 : SupAtE K C D0) (k : ∀ q, H q = none → ta σ (upd H q (mwo q a)) fun vs H1 => vs.length ≤ 1000 ∧ H1 q = some (mwo q a) ∧ H1 a = some (exo a C none) ∧ B.nx σ H1) : tSupE K D0 ta B σ H := ⟨a, C, h0, h1, h2, k⟩
theorem k_ost {f : Str} {to te : TE} (h : te σ H fun y H1 => to σ H1 fun x H2 => ∃ a C : Addr, x = .ref a ∧ OexC K C ∧ PySem.W.findIn K (.ref C) f = some none ∧
  ((H2 a = some (exo a C none) ∧ ∀ dx, H2 dx = none → dx ≠ a → D.nx σ (upd (upd H2 dx (exd dx [(f, y)])) a (exo a C (some dx)))) ∨
    ∃ (dx : Addr) (fs : List (Str × V)), H2 a = some (exo a C (some dx)) ∧ H2 dx = some (exd dx fs) ∧ fs.length ≤ 900 ∧ D.nx σ (upd H2 dx (exd dx ((f, y) :: fs))))) : tOst K f to te D σ H := h
theorem k_callS {sp : Sp} {E : L2.St → XK} {t : TA} {Q : VK} (h : t σ H fun vs H1 => sp vs H1 Q (E σ)) : tCallS sp E t σ H Q := h
end
end Kit

namespace Law
open PySem PySem.Spec PyProof.Rows L2 Kit
local macro_rules | `(tactic| walk_at "kb") => `(tactic| first | exact kb_int_int | exact kb_int_bool | exact kb_int_str | exact kb_int_list | exact kb_int_tuple | exact kb_int_dict | exact kb_bool_int | exact kb_bool_bool | exact kb_bool_str | exact kb_bool_list | exact kb_bool_tuple | exact kb_bool_dict | exact kb_str_int | exact kb_str_bool | exact kb_str_str | exact kb_str_list | exact kb_str_tuple | exact kb_str_dict | exact kb_NoneType_int | exact kb_NoneType_bool | exact kb_NoneType_str | exact kb_NoneType_list | exact kb_NoneType_tuple | exact kb_NoneType_dict | exact kb_list_int | exact kb_list_bool | exact kb_list_str | exact kb_list_list | exact kb_list_tuple | exact kb_list_dict | exact kb_tuple_int | exact kb_tuple_bool | exact kb_tuple_str | exact kb_tuple_list | exact kb_tuple_tuple | exact kb_tuple_dict | exact kb_dict_int | exact kb_dict_bool | exact kb_dict_str | exact kb_dict_list | exact kb_dict_tuple | exact kb_dict_dict)
local macro_rules | `(tactic| walk_at "size") => `(tactic| first | assumption | (show (_ : Nat) ≤ sizeLine; exact small_size (by first | decide | omega | (simp; omega))) | (show (_ : Nat) < sizeLine; exact small_lt (by first | decide | omega | (simp; omega))))
local macro_rules | `(tactic| walk_at "here") => `(tactic| first | assumption | exact upd_same | (refine up_get (by assumption) ?_; walk_at "here") | (refine Eq.trans (upd_ne (by assumption)) ?_; walk_at "here"))
local macro_rules | `(tactic| walk_at "same") => `(tactic| first | assumption | exact Same.refl _ | exact same_new (by assumption) | (refine Same.trans ?_ (same_new (by assumption)); walk_at "same") | (refine Same.trans ?_ (by assumption); walk_at "same"))
local macro_rules | `(tactic| walk_at "none") => `(tactic| first | assumption | (refine Eq.trans (upd_ne ?_) ?_ <;> first | assumption | walk_at "none"))
local macro_rules | `(tactic| walk_at "ty") => `(tactic| first | exact TyX.base (.int _) | exact TyX.base (.str _) | exact TyX.base .non | exact TyX.base (.bl _) | exact TyX.base (.tup (by walk_at "here")) | exact TyX.base (.lst (by walk_at "here")) | exact TyX.base (.dK (by walk_at "here")))
local macro_rules | `(tactic| walk_at "s") => `(tactic| first
  | (with_reducible refine k_seq ?_) | (with_reducible refine k_op ?_)
  | ((with_reducible show tVar _ _ _ _); refine k_var rfl ?_)
  | (with_reducible refine k_c ?_) | (with_reducible refine k_cons ?_) | (with_reducible refine k_nil ?_)
  | (with_reducible refine k_asg ?_) | (with_reducible refine k_gName ?_) | (with_reducible refine k_drop ?_) | (with_reducible refine k_ret ?_)
  | (with_reducible refine k_ifS ?_) | (with_reducible refine k_test ?_) | (with_reducible refine k_bl ?_) | (with_reducible refine k_CB ?_) | (with_reducible refine k_call ?_)
  | (with_reducible refine k_addI ?_) | (with_reducible refine k_I0 ?_) | (with_reducible refine k_eqI ?_) | (with_reducible refine k_neI ?_)
  | ((with_reducible show rI _ _ _ _ _ _); (refine k_I ?c ?_; (case c => first | decide | omega | (show (0 : Int) < _ ∧ _; omega) | (show (0 : Int) ≤ _ ∧ _; omega) | (show (_ ∧ _) ∨ _; omega) | assumption)))
  | (with_reducible refine k_U ?_) | (with_reducible refine k_int1 ?_) | (with_reducible refine k_max2 ?_) | (with_reducible refine k_min2 ?_)
  | (with_reducible refine k_t ?_) | (with_reducible refine k_t' ?_) | (with_reducible refine k_f' ?_) | (with_reducible refine k_o1 ?_) | (with_reducible refine k_o2 ?_) | (with_reducible refine k_o3 ?_) | (with_reducible refine k_o4 ?_) | (with_reducible refine k_o5 ?_) | (with_reducible refine k_o6 ?_) | (with_reducible refine k_chain ?_) | (with_reducible refine k_f ?_)
  | (with_reducible refine k_and ?_) | (with_reducible refine k_or ?_) | (with_reducible refine k_not ?_) | (with_reducible refine k_if ?_) | (with_reducible refine k_B ?_)
  | (with_reducible refine k_andV ?_) | (with_reducible refine k_orV ?_) | (with_reducible refine k_notV ?_) | (with_reducible refine k_un ?_)
  | (with_reducible refine k_gSub ?_) | (with_reducible refine k_par ?_) | (with_reducible refine k_pair ?_) | (with_reducible refine k_sl ?_) | (with_reducible refine k_noPart ?_) | (with_reducible refine k_part ?_) | (with_reducible refine k_int ?_)
  | (with_reducible refine k_fld ?_) | (with_reducible refine k_putF ?_) | ((with_reducible show (_ ≤ sizeLine) ∧ _); refine k_disp (Nat.le_of_ble_eq_true rfl) ?_) | (with_reducible refine k_jsCons ?_) | (with_reducible refine k_jsNil ?_) | (with_reducible refine k_fmt ?_) | (with_reducible refine k_gCons ?_) | (with_reducible refine k_gNil ?_) | (with_reducible refine k_iEnum ?_) | (with_reducible refine k_joinC ?_) | ((with_reducible show gTup _ _ _ (V.ref _) _ _ _); refine' k_gTup (SqT.of ?h) ?hl ?_; (case h => walk_at "here"); (case hl => rfl)) | (with_reducible refine k_for ?_) | (with_reducible refine k_iList ?_) | (with_reducible refine k_iTup ?_) | (with_reducible refine k_rng1 ?_) | (with_reducible refine k_rng2 ?_) | (with_reducible refine k_lc ?_) | (with_reducible refine k_yes ?_) | (with_reducible refine k_next ?_) | (with_reducible refine k_break ?_) | (with_reducible refine k_cont ?_) | (with_reducible refine k_retN ?_)
  | ((with_reducible show tTup _ _ _ _); refine k_tup ?_) | ((with_reducible show tLst _ _ _ _); refine k_lst ?_)
  | ((with_reducible show rLenU _ [V.ref _] _ _); (first | (refine' k_lenL (SqL.of ?h) ?_; (case h => walk_at "here")) | (refine' k_lenL ?h ?_; (case h => assumption)) | (refine' k_lenT (SqT.of ?h) ?_; (case h => walk_at "here"))))
  | ((with_reducible show rIsi _ [_, V.ty _] _ _); (refine' k_isi ?t ?h ?_; (case t => walk_at "ty"); (case h => walk_at "kb")))
  | ((with_reducible show rIsiT _ [_, V.ref _] _ _); (refine' k_isiT ?p ?t ?h1 ?h2 ?_; (case p => walk_at "here"); (case t => walk_at "ty"); (case h1 => walk_at "kb"); (case h2 => walk_at "kb")))
  | ((with_reducible show rIx _ (V.ref _) (V.int _) _ _); (first | (refine' k_ixL (SqL.of ?h) ?a ?_; (case h => walk_at "here"); (case a => first | rfl | assumption)) | (refine' k_ixT (SqT.of ?h) ?a ?_; (case h => walk_at "here"); (case a => first | rfl | assumption))))
  | ((with_reducible show rSetL (V.ref _) (V.int _) _ (upd _ _ (HO.lst _)) _); (refine' k_setLu ?e ?ey ?_; (case e => rfl); (case ey => rfl)))
  | ((with_reducible show rSetL (V.ref _) (V.int _) _ _ _); (refine' k_setL ?h ?e ?_; (case h => walk_at "here"); (case e => first | rfl | assumption))))
local macro_rules | `(tactic| walk_at "ss") => `(tactic| (repeat walk_at "s"))
/-! ### a law that asks repr: told only where no repr is under way -/
section
variable {prg : Program} {wo : World} {Kf : PySem.W.Frag} {mgl : Str → Option Value}
structure FnG (prg : Program) (wo : World) (Kf : PySem.W.Frag) (mgl : Str → Option Value) (bs : Heap) (n : Nat) (g : Addr) (fd : FuncData) (ps : List Str) (sp : Sp) : Prop where
  go : ∀ (Ar : Around) (out : List Env) (st : Shared) (Hz : Hp) (az : Args) (us : List Value) (vs : List V) (Qz : VK) (Ez : XK), Ar.guards = some [] → Room n Ar → Env0 prg wo Kf mgl bs Ar out st Hz → BindsTo st fd az (ps.zip us) → Vals vs us → sp vs Hz Qz Ez →
    codeAny (model prg wo) Ar (.call (.ref g) az) (CR CX0 out prg wo Hz st Qz Ez) st
theorem fun_okG {bs : Heap} {x qual : Str} {sm : Stmt} {g : Addr} {fd : FuncData} {N ps : List Str} {n : Nat} {sp : Sp} (Fz : L2.Fun Kf x qual sm g fd) (Sz : FnScope N ps (defScope sm)) (hlen : ∀ vs H Q E, sp vs H Q E → vs.length = ps.length)
    (hb : ∀ (cdv : Value) (Ar : Around) (out : List Env) (st : Shared) (Hz : Hp) (vs : List V) (Qz : VK) (Ez : XK), Ar.guards = some [] → Room n (Ar.deeper (envOfC qual (defScope sm) st.heap.objs.size g cdv)) → sp vs Hz Qz Ez →
      ∃ t, PSs (cxOf CX0 prg wo Kf mgl bs N qual (defScope sm) g cdv Ar out st Hz Ez).nox (defBody sm) t ∧ t { nx := fun _ H' => Qz .non H', rt := Qz } (L2.start N vs) Hz) : FnG prg wo Kf mgl bs (n + 1) g fd ps sp := by
  obtain ⟨oc, od, kV, doc, pm, an, cdv, ct, osl, rfl, lk, hcd⟩ := Fz.ex
  refine ⟨fun Ar out st Hz az us vs Qz Ez hgd hrm e0 hbi rv hsp => ?_⟩
  refine LamX.run_ofS lk hcd Sz hrm e0 hbi rv (hlen _ _ _ _ hsp) fun hrm' => ?_
  obtain ⟨t, pt, qt⟩ := hb cdv Ar out st Hz vs Qz Ez hgd hrm' hsp
  exact ⟨t, pt.nox, qt⟩
/-- the call of the law, behind the top -/
theorem call_lawG {mb : Str → Option Value} {n : Nat} {g sa : Addr} {fd : FuncData} {x : Str} {sp : Sp} {st : Shared} {vs : List Value} {ns : List Int}
    (kin : Kf.In st.heap) (gns : st.heap.Ns mainGlobals mgl) (bns : st.heap.Ns builtinsNs mb) (bis : ∀ y : Str, y ≠ "__name__" → mb y = bootBuiltins y) (lim : st.heap.NoLimit) (ngen : st.gens = #[])
    (hsa : st.heap.get? sa = some { cls := .type "list", data := .seq vs.toArray }) (hints : IntsAre vs ns) (hle : ns.length ≤ sizeLine) (hrm : Room n callerA)
    (Fz : ∀ bs : Heap, Kf.In bs → bs.Ns mainGlobals mgl → FnG prg wo Kf mgl bs n g fd [x] sp) (hbi : ∀ (s : Shared) (u : Value), BindsTo s fd ⟨[u], []⟩ [(x, u)])
    (hsp : ∀ Hz : Hp, SqL Kf Hz sa (ns.map V.int) → sp [.ref sa] Hz (fun v _ => v = .bl true) fun _ _ _ => False) :
    codeAny (model prg wo) callerA (.call (.ref g) ⟨[.ref sa], []⟩) (fun r s' => r = .ok (.ret (.bool true)) ∧ OldK st.heap s'.heap ∧ s'.os = st.os ∧ AllBare s'.gens) st := by
  have hval := vals_ints hints
  have hlv := hints.length
  -- the abstract heap tells of the script alone, or of nothing
  have main : ∀ Hz : Hp, (∀ c u, Hz c = some u → c = sa ∧ Kf.lookup sa = none ∧ ∃ ob ys, u = .frz ob (.lst ys)) → SqL Kf Hz sa (ns.map V.int) → HOk prg wo Hz st.heap →
      codeAny (model prg wo) callerA (.call (.ref g) ⟨[.ref sa], []⟩) (fun r s' => r = .ok (.ret (.bool true)) ∧ OldK st.heap s'.heap ∧ s'.os = st.os ∧ AllBare s'.gens) st := by
    intro Hz honly hseq hok
    have free : ∀ {c : Addr} {ob : Obj}, st.heap.get? c = some ob → (c = sa → Kf.lookup sa = none → False) → (hidT st.heap Hz).get? c = some ob := fun {c ob} e hn => by
      refine hidT_get e ?_
      cases q : Hz c with
      | none => rfl
      | some u => exact (hn (honly c u q).1 (honly c u q).2.1).elim
    have notDict : ∀ {c : Addr} {m : Str → Option Value}, st.heap.Ns c m → (hidT st.heap Hz).Ns c m := fun {c m} ⟨ob, es, ep, e, d, rest⟩ => by
      refine ⟨ob, es, ep, free e fun hc _ => ?_, d, rest⟩
      rw [hc, hsa] at e
      cases e
      cases d
    have kin2 : Kf.In (hidT st.heap Hz) := fun c ob e => free (kin c ob e) fun hc hn => by
      rw [hc, hn] at e
      cases e
    obtain ⟨mc, l1, l2⟩ := lim
    have modz : Mod Kf mgl (hidT st.heap Hz) := ⟨kin2, notDict gns, ⟨mb, notDict bns, bis⟩, mc, notDict l1, l2⟩
    have env : Env0 prg wo Kf mgl (hidT st.heap Hz) callerA [] st Hz :=
      { frames := rfl, mod := modz, bs := fun c ob e => of_hidT e, bsz := Nat.le_of_eq (hidT_size _ _), funs := trivial, frf := fun c hc => absurd hc List.not_mem_nil, hok := hok, bare := .of_eq ngen }
    have ran := (Fz _ kin2 (notDict gns)).go callerA [] st Hz ⟨[.ref sa], []⟩ [.ref sa] [.ref sa] (fun v _ => v = .bl true) (fun _ _ _ => False) rfl hrm env (hbi st (.ref sa)) (.cons rfl .nil) (hsp Hz hseq)
    refine codeAny_mono ran fun res s' fin => ?_
    match res, fin with
    | .ok (.ret u), ⟨v, H2, same_os, bare2, un, hok2, rel, hv⟩ =>
      have hv : v = .bl true := hv
      rw [hv] at rel
      have hu : u = Value.bool true := rel
      rw [hu]
      refine ⟨rfl, OldK.of_keep fun c ob e => ?_, same_os, bare2⟩
      cases q : Hz c with
      | none => exact un.keep c ob e q (fun z => absurd z List.not_mem_nil) List.not_mem_nil
      | some u2 =>
        obtain ⟨_, _, o2, ys, hu2⟩ := honly c u2 q
        rw [hu2] at q
        have k1 := (hok c _ q).1
        have k2 := (hok2 c _ (un.frzs c o2 _ q)).1
        rw [e] at k1
        rw [k2, ← k1]
    | .ok .next, z => exact z.elim
    | .ok .brk, z => exact z.elim
    | .ok .cont, z => exact z.elim
    | .error _, z => exact z.elim
  cases hk : Kf.lookup sa with
  | some ob =>
    have e := kin sa ob hk
    rw [hsa] at e
    cases e
    exact main (fun _ => none) (fun c u z => by cases z) (.inr ⟨_, vs.toArray, _, hk, rfl, rfl, rfl, by rw [List.size_toArray, hlv]; exact hle, by simpa using hval⟩) fun c u z => by cases z
  | none =>
    have at1 : ∀ {c : Addr} {u : HO}, (if c = sa then some (HO.frz { cls := .type "list", data := .seq vs.toArray } (.lst (ns.map V.int))) else none) = some u → c = sa ∧ u = .frz { cls := .type "list", data := .seq vs.toArray } (.lst (ns.map V.int)) := fun {c u} z => by
      by_cases h : c = sa
      · rw [if_pos h] at z
        exact ⟨h, (Option.some.inj z).symm⟩
      · rw [if_neg h] at z
        cases z
    refine main (fun c => if c = sa then some (.frz { cls := .type "list", data := .seq vs.toArray } (.lst (ns.map V.int))) else none) (fun c u z => ⟨(at1 z).1, hk, _, _, (at1 z).2⟩) (.inl (.inr ⟨{ cls := .type "list", data := .seq vs.toArray }, if_pos rfl⟩)) fun c u z => ?_
    obtain ⟨h1, h2⟩ := at1 z
    rw [h1, h2]
    exact ⟨hsa, by rw [List.length_map]; exact hle, vs, _, hval, hsa⟩
theorem walk_lawG {l : PySem.W.OpenLaw} {m n : Nat} {q : Program} {loose : List Str} {XP : (Str → Option Value) → Heap → Prop} {YP : World → Heap → Prop} {d : DefRec} {Kp : Params → PySem.W.Frag} {sp : PySem.W.Frag → Sp} {x : Str}
    (hm : l.most = some m) (hm2 : m ≤ sizeLine) (hdf : d.params.defaults = []) (hrm : Room n callerA) (hY : ∀ (w : World) (h : Heap), YP w h → (Kp w.params).In h)
    (Fz : ∀ (w : World) (mg : Str → Option Value) (fa : Addr) (h : Heap), (Kp w.params).In h → h.Ns mainGlobals mg → mg d.name = some (.ref fa) →
      ∃ fd : FuncData, (∀ (s : Shared) (u : Value), BindsTo s fd ⟨[u], []⟩ [(x, u)]) ∧ ∀ bs : Heap, (Kp w.params).In bs → bs.Ns mainGlobals mg → FnG l.prog w (Kp w.params) mg bs n fa fd [x] (sp (Kp w.params)))
    (hsp : ∀ (Kz : PySem.W.Frag) (Hz : Hp) (a : Addr) (ns : List Int), ns.length ≤ m → SqL Kz Hz a (ns.map V.int) → sp Kz [.ref a] Hz (fun v _ => v = .bl true) fun _ _ _ => False) :
    PySem.W.WalkO q loose XP YP l.row.toRowW d [] (fun f vs => PySem.call f vs) := by
  refine Att.attach_call hm hdf fun w s₀ st mg mb fa o pm cd doc a vs ns G Y ho hd hcd hmg hobj hints hlen hg => ?_
  have kin := hY w _ Y
  obtain ⟨fd, hbi, hF⟩ := Fz w mg fa _ kin G.T.g hmg
  exact call_lawG kin G.T.g G.T.b G.T.builtins G.T.nolimit hg hobj hints (Nat.le_trans hlen hm2) hrm hF hbi fun Hz hS => hsp _ Hz a ns hlen hS
/-- repr of a list of written data -/
def rReprD (K : PySem.W.Frag) : List V → Hp → VK → Prop := fun vs H Q => ∃ (a : Addr) (d : PyData), vs = [.ref a] ∧ Dp K H (.ref a) d ∧ d.showable = true ∧ d.hasDict = false ∧ d.depth ≤ 8 ∧ d.shown.length ≤ 1000000 ∧ Q (.str d.shown) H
theorem cr_reprD {X : Cx} (hgd : X.A.guards = some []) (hu : X.A.units + 64 < cLine) : CallR X (.builtin "repr") (rReprD X.K) := by
  intro pins st σ H xs us Q I rs hh
  obtain ⟨a, d, rfl, hd, h1, h2, h3, h4, q⟩ := hh
  rw [Vals.ref1 rs]
  obtain ⟨as, rd⟩ := Dp.reads I d (.ref a) (.ref a) hd rfl
  refine PySem.repr_of_reads' rd h1 (fun z => by rw [h2] at z; cases z) hgd (by omega) (fun _ _ e => e) (fun h' u tk hk => ?_) (small_size h4)
  exact ⟨.str d.shown, H, I.kept hk, ⟨_, rfl⟩, q⟩
theorem kc_reprD {X : Cx} (K : PySem.W.Frag) (hgd : X.A.guards = some []) (hu : X.A.units + 64 < cLine) (hK : X.K = K := by rfl) : CallR X (.builtin "repr") (rReprD K) := by subst hK; exact cr_reprD hgd hu
end

/-! ### C(e, .., k = v), __init__(self, *v, k) -/
section
variable {prg : Program} {wo : World} {Kf : PySem.W.Frag} {mgl : Str → Option Value} {bs : Heap}
structure FnSK (prg : Program) (wo : World) (Kf : PySem.W.Frag) (mgl : Str → Option Value) (bs : Heap) (n : Nat) (g : Addr) (pk : Str) (sp : Sp) : Prop where
  go : ∀ (Ar : Around) (out : List Env) (st : Shared) (Hz : Hp) (ua ur : Value) (us : List Value) (va vr : V) (vs : List V) (Qz : VK) (Ez : XK), Room n Ar → Env0 prg wo Kf mgl bs Ar out st Hz → RelV va ua → Vals vs us → RelV vr ur → vs.length ≤ sizeLine →
    (∀ tp, Hz tp = none → sp [va, vr, .ref tp] (upd Hz tp (.tup vs)) Qz Ez) → codeAny (model prg wo) Ar (.call (.ref g) ⟨ua :: us, [(pk, ur)]⟩) (CR CX0 out prg wo Hz st Qz Ez) st
theorem fun_okSK {x qual p1 pk pv : Str} {sm : Stmt} {g : Addr} {fd : FuncData} {N : List Str} {n : Nat} {sp : Sp} (Fz : L2.Fun Kf x qual sm g fd) (Sz : FnScope N [p1, pk, pv] (defScope sm))
    (hbi : ∀ (a r : Value) (us : List Value), bindArgs fd ⟨a :: us, [(pk, r)]⟩ = (newTuple us >>= fun t => pure [(p1, a), (pk, r), (pv, t)]))
    (hb : ∀ (cdv : Value) (Ar : Around) (out : List Env) (st : Shared) (Hz : Hp) (vs : List V) (Qz : VK) (Ez : XK), Room n (Ar.deeper (envOfC qual (defScope sm) st.heap.objs.size g cdv)) → sp vs Hz Qz Ez →
      ∃ t, PSs (cxOf CX0 prg wo Kf mgl bs N qual (defScope sm) g cdv Ar out st Hz Ez).nox (defBody sm) t ∧ t { nx := fun _ H' => Qz .non H', rt := Qz } (L2.start N vs) Hz) : FnSK prg wo Kf mgl bs (n + 1) g pk sp := by
  obtain ⟨oc, od, kV, doc, pm, an, cdv, ct, osl, rfl, lk, hcd⟩ := Fz.ex
  refine ⟨fun Ar out st Hz ua ur us va vr vs Qz Ez hrm e0 ra rs rr hz hsp => ?_⟩
  have fresh : Hz st.heap.objs.size = Option.none := e0.hok.fresh (Nat.le_refl _)
  have hus : us.length ≤ sizeLine := by rw [← rs.length]; exact hz
  refine StX.run_bnd lk hcd Sz hrm e0 (G := fun xs H2 => ∃ tp, Hz tp = Option.none ∧ xs = [va, vr, .ref tp] ∧ H2 = upd Hz tp (.tup vs)) (fun Ay Ex Qy hy => ?_) fun s2 H2 xs ⟨tp, htp, exs, eH⟩ hrm' => ?_
  · rw [hbi ua ur us]
    refine wpAny_bind (wpAny_newTuple (wpAny_pure ?_) hus)
    have made : ObjOk prg wo (upd Hz st.heap.objs.size (.tup vs)) (st.heap.push ({ cls := .type "tuple", data := .seq us.toArray } : Obj)) st.heap.objs.size (.tup vs) := ⟨hz, us, rs, ⟨_, Heap.get?_push_size _ rfl, rfl, _, rfl⟩⟩
    exact hy _ _ [va, vr, .ref st.heap.objs.size] [ua, ur, .ref st.heap.objs.size] (StX.env0_laid e0 made) (StX.un_laid fresh) rfl (fun _ _ z => z) (.cons ra (.cons rr (.cons rfl .nil))) rfl ⟨_, fresh, rfl, rfl⟩
  · rw [exs, eH]
    obtain ⟨t, pt, qt⟩ := hb cdv Ar out s2 _ _ Qz Ez hrm' (hsp tp htp)
    exact ⟨t, pt.nox, qt⟩
def tMakeSK (C : Addr) (sp : Sp) (E : XK) (t tk : TA) : TE := fun σ H Q => t σ H fun vs H1 => tk σ H1 fun zs H2 => ∃ z, zs = [z] ∧ vs.length ≤ 1000 ∧ ∀ x dx tp, H2 x = none → H2 dx = none → dx ≠ x → (upd (upd H2 dx (.own x)) x (.ins C dx [])) tp = none →
  sp [.ref x, z, .ref tp] (upd (upd (upd H2 dx (.own x)) x (.ins C dx [])) tp (.tup vs)) (fun v H3 => v = .non ∧ Q (.ref x) H3) E
theorem kpe_makeSK {X : Cx} {n : Nat} {g C : Addr} {pk x : Str} {sp : Sp} {E : XK} {p pos : Pos} {e : Expr} {es : List Expr} {kws : List Keyword} {t tk : TA} (M : Mk X.K C g) (F : FnSK X.prog X.w X.K X.mg X.base n g pk sp) (hrm : Room (n + 1) X.A) (hg : Gl X x) (hm : X.mg x = some (.ref C)) (ha : PA X (e :: es) t) (hkw : PK X kws tk)
    (hall : (backToKw pos (keywordEach kws X.env)).all (·.1.isSome) = true := by rfl) (hks : (backToKw pos (keywordEach kws X.env)).filterMap (·.1) = [pk] := by rfl) (hdb : (x == ("__debug__" : Str)) = false := by decide)
    (he : starEach (e :: es) X.env = (false, eval e X.env) :: starEach es X.env := by rfl) (hpl : ((backTo pos (starEach (e :: es) X.env)).any (·.1) || (backToKw pos (keywordEach kws X.env)).any (·.1.isNone)) = false := by rfl) :
    PE X (.Call (.Name x p) (e :: es) kws pos) (tMakeSK C sp E t tk) := by
  refine ⟨fun pins st σ H Q I hh => ?_⟩
  refine wpAny_Call_Name_kw (ld_glob I hg hm ?_ hdb)
  refine PySem.W.callWith_KW (h₀ := X.base) I.ok.mod.kin M.kp hall (thn (ha.run pos pins st σ H _ I hh) fun us s1 ⟨vs, H1, I1, r1, q1⟩ => ?_) hpl he
  refine thn (hkw.run pos pins s1 σ H1 _ I1 q1) fun ws s2 ⟨zs, H2, I2, rz, z, ez, hle, q2⟩ => ⟨I2.kIn, ?_⟩
  rw [hks]
  subst ez
  obtain ⟨uz, rfl, ruz⟩ := rz.one
  have hq := q2 (s2.heap.objs.size + 1) s2.heap.objs.size
  have I3 := Inv.made (C := C) I2
  have fx := I2.hok.fresh (Nat.le_succ s2.heap.objs.size)
  have fd := I2.hok.fresh (Nat.le_refl s2.heap.objs.size)
  show wpAny _ _ (call (.ref C) us [(pk, uz)]) _ _ _
  refine wpAny_call (make_map (f := g) I2.kIn M.makes M.init (beq_iff_eq.mp M.fn) (codeAny_mono (F.go _ X.stack _ _ (Value.ref (s2.heap.objs.size + 1)) uz us (.ref (s2.heap.objs.size + 1)) z vs _ E (hrm.make C us [(pk, uz)]) (I3.env0.make C us [(pk, uz)]) rfl r1 ruz (small_size' (by omega))
    (fun tp ntp => hq tp fx fd (Nat.ne_of_lt (Nat.lt_succ_self _)) ntp)) fun res s3 fin => ?_))
  cases res with
  | error er => exact False.elim fin
  | ok fl =>
    cases fl with
    | ret u =>
      obtain ⟨v, H4, I4, rv, ev, q4⟩ := I3.after fin
      subst ev
      exact ⟨rv, ⟨V.ref (s2.heap.objs.size + 1), H4, I4, rfl, q4⟩⟩
    | next => exact False.elim fin
    | brk => exact False.elim fin
    | cont => exact False.elim fin
end

/-! ### for i, x in enumerate(a tuple) -/
section
theorem enumB_meets {vz : Value} {oz : Obj} {Hb : Heap → Prop} (Bz : Begins vz oz Hb) :
    Meets (Builtin.«enumerate.__new__» ⟨[.type "enumerate", vz], []⟩) (fun _ R st => Hb st.heap ∧ R (.ok (.ret (.ref (st.heap.push oz).objs.size))) { st with heap := (st.heap.push oz).push { cls := .type "enumerate", data := .fields #[.none, .bool false, .ref st.heap.objs.size, rawInt 0, .none, .none] } }) :=
  .of_wp fun prog w A R st hh => by
    obtain ⟨hp, g, d, tk, os⟩ := st
    obtain ⟨hb, fin⟩ := hh
    have hsub := sub_enumerate
    have it1 : ∀ {Ay : Around} {Ey : Value → Shared → Prop} {Qy : Value → Shared → Prop}, Qy (.ref hp.objs.size) ⟨hp.push oz, g, d, tk, os⟩ → wpAny (model prog w) Ay (pyIter vz) Qy Ey ⟨hp, g, d, tk, os⟩ := fun q => Bz.iter prog w _ _ ⟨hp, g, d, tk, os⟩ _ hb q
    wp_walk using it1
    refine wpAny_stack_any fun sk => wpAny_pure ?_
    split
    · rename_i c _ _ _ _ _
      cases (c == Value.type "enumerate") <;> (wp_walk using it1; exact ⟨_, rfl, fin⟩)
    · wp_walk using it1
      exact ⟨_, rfl, fin⟩
theorem enumB_call {prog : Program} {w : World} {A : Around} {Ez : Value → Shared → Prop} {st : Shared} {vz : Value} {oz : Obj} {Hb : Heap → Prop} {Qz : Value → Shared → Prop} (Bz : Begins vz oz Hb) (hb : Hb st.heap)
    (k : ∀ h', IsEnum h' (st.heap.objs.size + 1) st.heap.objs.size 0 .none → h'.get? st.heap.objs.size = some oz → (∀ b o, st.heap.get? b = some o → h'.get? b = some o) → Qz (.ref (st.heap.objs.size + 1)) { st with heap := h' }) :
    wpAny (model prog w) A (call (.type "enumerate") [vz]) Qz Ez st := by
  refine callType_new F.called_enumerate (by decide) (F.typeCall_enumerate_1 _) (F.newCall_enumerate_1 _) (fun ob => F.args_object_init_2 ob _) F.entry_enumerate_new (enumB_meets Bz) ⟨hb, ?_⟩
  have sz : (st.heap.push oz).objs.size = st.heap.objs.size + 1 := Heap.size_push ..
  show _ ∧ _
  rw [sz]
  have e1 := Heap.get?_push_size (st.heap.push oz) (o := { cls := .type "enumerate", data := .fields #[.none, .bool false, .ref st.heap.objs.size, rawInt 0, .none, .none] }) rfl
  rw [sz] at e1
  exact ⟨⟨_, e1, rfl⟩, k _ e1 (Heap.get?_push_of_some _ (Heap.get?_push_size _ Bz.free)) fun b o x => Heap.get?_push_of_some _ (Heap.get?_push_of_some _ x)⟩
def Itet (K : PySem.W.Frag) (a : Addr) : It :=
  ⟨fun i H => ∃ (xs : List V) (x : V), SqT K H a xs ∧ xs[i]? = some x, fun i H v H' => ∃ tp x, v = .ref tp ∧ H tp = none ∧ H' = upd H tp (.tup [.int (i : Nat), x]) ∧ ∀ xs, SqT K H a xs → xs[i]? = some x, fun i H => ∃ xs : List V, SqT K H a xs ∧ xs.length ≤ i⟩
theorem turn_enumT {P : Program} {w : World} {K : PySem.W.Frag} {elts : List Expr} {kk : Nat} {tpos : Pos} (a e it : Addr) (hai : a ≠ it) (hae : a ≠ e) (hne : e ≠ it) :
    Turn P w K (.Tuple elts kk tpos) (Itet K a) [e, it] e (fun i h => (∃ old, IsEnum h e it ((i : Nat) : Int) old) ∧ h.IsTupleIter it a i) where
  mem := by simp
  obj := fun i h st b hb => by
    obtain ⟨⟨old, he⟩, ⟨o, ho, hc, hd⟩⟩ := st
    have cs : b = e ∨ b = it := by simpa using hb
    rcases cs with z | z
    · rw [z]
      exact ⟨_, he, fun v q => nomatch q⟩
    · rw [z]
      refine ⟨o, ho, fun v q => ?_⟩
      rw [hd] at q
      cases q
  keep := fun i h h' ⟨⟨old, he⟩, hi⟩ k => ⟨⟨old, k e (by simp) _ he⟩, hi.at fun o q => k it (by simp) o q⟩
  item := by
    intro X hP hw hK hc i pins s σ H E I hf st hg
    subst hP hw hK
    obtain ⟨⟨old, he⟩, hit⟩ := st
    obtain ⟨xs, x, hq, hx⟩ := hg
    obtain ⟨its, rv, pt, hz⟩ := I.tuple hq
    obtain ⟨u, hu, ru⟩ := rv.get hx
    have hil : i < its.toArray.size := by rw [List.size_toArray]; exact (List.getElem?_eq_some_iff.mp hu).1
    have le : e < s.heap.objs.size := Heap.lt_size he
    have li : it < s.heap.objs.size := by obtain ⟨_, q, _⟩ := hit; exact Heap.lt_size q
    have D := Draws.tuple (prog := X.prog) (w := X.w) (A := X.A.in1) (I.ok.hd hc) it a hai its.toArray
    refine wpAny_pyNext_enum_itemD D he ⟨hit, pt⟩ hil hne (by simp [hne, Ne.symm hae]) fun x2 h' tk hx2 ho hst' hT hsz hk => ?_
    have ex : x2 = u := by
      have h1 : its[i]? = some x2 := by simpa using hx2
      rw [hu] at h1
      exact (Option.some.inj h1).symm
    subst ex
    refine ⟨_, rfl, wpAny_letOwnedTupleGo_enum (s := { s with heap := h', toks := tk + 1 }) ho fun h2 he2 sb => ?_⟩
    have hT2 : h2.get? s.heap.objs.size = some { cls := .type "tuple", data := .seq #[.int i tk, x2] } := (sb.2 _ (Nat.ne_of_gt le)).trans hT
    have made : ObjOk X.prog X.w (upd H s.heap.objs.size (.tup [.int (i : Nat), x])) h2 s.heap.objs.size (.tup [.int (i : Nat), x]) :=
      ⟨by show 2 ≤ sizeLine; decide, [.int i tk, x2], .cons ⟨_, rfl⟩ (.cons ru .nil), ⟨_, hT2, rfl, _, rfl⟩⟩
    have I1 : Inv X pins σ (upd H s.heap.objs.size (.tup [.int (i : Nat), x])) { s with heap := h2, toks := tk + 1 } :=
      I.turnedNew (ch := [e, it]) (fun b ob hb q => (sb.2 b (fun z => hb (by simp [z]))).trans (hk b ob (fun z => hb (by simp [z])) (fun z => hb (by simp [z])) q)) hf (Nat.le_refl _) made
    refine ⟨.ref s.heap.objs.size, _, I1, rfl, ⟨_, x, rfl, I.hok.fresh (Nat.le_refl _), rfl, fun ys hy => by rw [I.tuple_inj hy hq]; exact hx⟩, ⟨⟨x2, ?_⟩, hst'.1.at fun o q => (sb.2 it (Ne.symm hne)).trans q⟩, fun b hb => ?_⟩
    · rw [show ((i + 1 : Nat) : Int) = (i : Int) + 1 by omega]
      exact he2
    · have lb : b < s.heap.objs.size := by
        have cs : b = e ∨ b = it := by simpa using hb
        rcases cs with z | z <;> rw [z] <;> assumption
      rw [upd_ne (Nat.ne_of_lt lb)]
      exact (hf b hb).1
  done := by
    intro X hP hw hK hc i pins s σ H E I hf st hg
    subst hP hw hK
    obtain ⟨⟨old, he⟩, hit⟩ := st
    obtain ⟨xs, hq, hx⟩ := hg
    obtain ⟨its, rv, pt, hz⟩ := I.tuple hq
    obtain ⟨f0, f1, f2, f3, f4, f5⟩ := hf it (by simp)
    have hl := rv.length
    unfold pyNext
    have hT : s.TypeIs (.ref e) "enumerate" := ⟨_, he, rfl⟩
    refine wpAny_bind (wpAny_attempt (wpAny_callSpecial?_slot (name := Str.ofString "__next__") hT F.slot_enumerate_next (wpAny_call_entry F.slot_enumerate_next hT F.entry_enumerate_next ?_ (F.args_enumerate_next_1 _))))
    show wpAny _ _ (field (.ref e) 2 >>= _) _ _ _
    refine wpAny_bind (wpAny_field he rfl (x := .ref it) rfl ?_)
    refine wpAny_bind (wpAny_nextOf_tuple_end (I.ok.hd hc) hit pt (by simp; omega) fun h' x2 eb hx2 => ?_)
    obtain ⟨o2, ho2, hc2⟩ := hx2
    refine wpAny_bind (wpAny_isInstance (T := "StopIteration") (b := true) ⟨o2, ho2, hc2⟩ isSubtype_stop ?_)
    exact wpAny_pure ⟨rfl, I.turned (t' := s.toks) (fun b o hb q => eb b o hb q) f0 f1 f3 f4 f5⟩
  self := fun A i s Q E st h => let ⟨⟨_, he⟩, _⟩ := st; wpAny_pyIter_enum he h
def iEnumT (K : PySem.W.Frag) (ta : TA) : TI := fun σ H R => ta σ H fun vs H1 => ∃ a xs, vs = [.ref a] ∧ SqT K H1 a xs ∧ R (Itet K a) H1
theorem pi_enumT {X : Cx} (K : PySem.W.Frag) {e : Expr} {ta : TA} {p pos tpos : Pos} {elts : List Expr} {kk : Nat} (hg : Gl X "enumerate") (hm : X.mg "enumerate" = none) (ha : PA X [e] ta) (hK : X.K = K := by rfl) (hs : starEach [e] X.env = [(false, eval e X.env)] := by rfl) :
    PI X (.Tuple elts kk tpos) (.Call (.Name "enumerate" p) [e] [] pos) (iEnumT K ta) := by
  subst hK
  refine ⟨fun pins s σ H R I h => ?_⟩
  refine Call_ (ld_blt I hg hm boot_enumerate (PyProof.Rows.callWith_type1 (thn (ha.run pos pins s σ H _ I h) fun us s1 ⟨vs, H1, I1, r1, a, xs, ex, hq, q⟩ => ?_) hs rfl))
  subst ex
  rw [Vals.ref1 r1]
  obtain ⟨its, rv, pt, hz⟩ := I1.tuple hq
  have la : a < s1.heap.objs.size := by obtain ⟨o, ho, _⟩ := pt; exact Heap.lt_size ho
  refine enumB_call (begins_tuple a its.toArray) pt fun h' he hit hk => wpAny_pyIter_enum he ?_
  have I2 : Inv X pins σ H1 { s1 with heap := h' } := I1.kept (t' := s1.toks) hk
  refine ⟨s1.heap.objs.size + 1, [s1.heap.objs.size + 1, s1.heap.objs.size], _, _, H1, rfl, I2, turn_enumT a (s1.heap.objs.size + 1) s1.heap.objs.size (Nat.ne_of_lt la) (Nat.ne_of_lt (Nat.lt_succ_of_lt la)) (Nat.succ_ne_self _), ⟨⟨.none, he⟩, ⟨_, hit, rfl, rfl⟩⟩, fun b hb => ?_, q⟩
  have cs : b = s1.heap.objs.size + 1 ∨ b = s1.heap.objs.size := by simpa using hb
  have hle : s1.heap.objs.size ≤ b := by rcases cs with z | z <;> rw [z] <;> omega
  exact I1.fpOk hle (I1.hok.fresh hle)
theorem walk_enumT {K : PySem.W.Frag} {a : Addr} {xs : List V} : Walk (Itet K a) xs.length (fun H => SqT K H a xs) (YPair (fun i => some (.int (i : Nat))) (fun i => xs[i]?)) := by
  refine ⟨fun i _ hi q => ⟨xs, xs[i], q, by simp [hi]⟩, fun _ q => ⟨xs, q, Nat.le_refl _⟩, fun i H v H' _ q y => ?_⟩
  obtain ⟨tp, x, e1, e2, e3, e4⟩ := y
  exact ⟨tp, .int (i : Nat), x, e1, e2, e3, rfl, e4 xs q⟩
end

def P : Program := PySem.Challenge.pw_surelet_k80_whole_leads_are_transitive
def top (i : Nat) : Stmt := PySem.Challenge.pw_surelet_k80_whole_leads_are_transitive.main.body.getD i (.Pass ⟨0, 0, 0, 0⟩)
abbrev s_is_number : Stmt := (top 14)
abbrev N_is_number : List Str := ["value", "least", "most"]
abbrev P_is_number : List Str := ["value", "least", "most"]
theorem sc_is_number : FnScope N_is_number P_is_number (defScope s_is_number) := ⟨rfl, rfl, rfl, by decide +kernel, rfl, by decide +kernel, by decide +kernel⟩
abbrev s_is_name : Stmt := (top 15)
abbrev N_is_name : List Str := ["value", "sign"]
abbrev P_is_name : List Str := ["value"]
theorem sc_is_name : FnScope N_is_name P_is_name (defScope s_is_name) := ⟨rfl, rfl, rfl, by decide +kernel, rfl, by decide +kernel, by decide +kernel⟩
abbrev s_leads : Stmt := (top 17)
abbrev N_leads : List Str := ["net", "demand", "other", "place", "reading", "home", "due", "rest", "rested"]
abbrev P_leads : List Str := ["net", "demand", "other"]
theorem sc_leads : FnScope N_leads P_leads (defScope s_leads) := ⟨rfl, rfl, rfl, by decide +kernel, rfl, by decide +kernel, by decide +kernel⟩
abbrev s_Rest_init : Stmt := (inClass (top 22) 0)
abbrev N_Rest_init : List Str := ["self", "text", "forms", "period", "bend"]
abbrev P_Rest_init : List Str := ["self", "text", "forms", "period", "bend"]
theorem sc_Rest_init : FnScope N_Rest_init P_Rest_init (defScope s_Rest_init) := ⟨rfl, rfl, rfl, by decide +kernel, rfl, by decide +kernel, by decide +kernel⟩
abbrev s_Rest_call : Stmt := (inClass (top 22) 1)
abbrev N_Rest_call : List Str := ["self", "t"]
abbrev P_Rest_call : List Str := ["self", "t"]
theorem sc_Rest_call : FnScope N_Rest_call P_Rest_call (defScope s_Rest_call) := ⟨rfl, rfl, rfl, by decide +kernel, rfl, by decide +kernel, by decide +kernel⟩
abbrev s_Rest_forms : Stmt := (inClass (top 22) 5)
abbrev N_Rest_forms : List Str := ["self"]
abbrev P_Rest_forms : List Str := ["self"]
theorem sc_Rest_forms : FnScope N_Rest_forms P_Rest_forms (defScope s_Rest_forms) := ⟨rfl, rfl, rfl, by decide +kernel, rfl, by decide +kernel, by decide +kernel⟩
abbrev s_Rest_period : Stmt := (inClass (top 22) 6)
abbrev N_Rest_period : List Str := ["self"]
abbrev P_Rest_period : List Str := ["self"]
theorem sc_Rest_period : FnScope N_Rest_period P_Rest_period (defScope s_Rest_period) := ⟨rfl, rfl, rfl, by decide +kernel, rfl, by decide +kernel, by decide +kernel⟩
abbrev s_Rest_bend : Stmt := (inClass (top 22) 7)
abbrev N_Rest_bend : List Str := ["self"]
abbrev P_Rest_bend : List Str := ["self"]
theorem sc_Rest_bend : FnScope N_Rest_bend P_Rest_bend (defScope s_Rest_bend) := ⟨rfl, rfl, rfl, by decide +kernel, rfl, by decide +kernel, by decide +kernel⟩
abbrev s_Rest_written : Stmt := (inClass (top 22) 8)
abbrev N_Rest_written : List Str := ["self"]
abbrev P_Rest_written : List Str := ["self"]
theorem sc_Rest_written : FnScope N_Rest_written P_Rest_written (defScope s_Rest_written) := ⟨rfl, rfl, rfl, by decide +kernel, rfl, by decide +kernel, by decide +kernel⟩
abbrev s_Window_init : Stmt := (inClass (top 23) 0)
abbrev N_Window_init : List Str := ["self", "width", "__class__"]
abbrev P_Window_init : List Str := ["self", "width"]
theorem sc_Window_init : NdefX.NScope N_Window_init P_Window_init ["__class__"] (defScope s_Window_init) := NdefX.nscope_by (by decide +kernel)
abbrev s_Window_after : Stmt := (inClass (top 23) 1)
abbrev N_Window_after : List Str := ["self", "t"]
abbrev P_Window_after : List Str := ["self", "t"]
theorem sc_Window_after : FnScope N_Window_after P_Window_after (defScope s_Window_after) := ⟨rfl, rfl, rfl, by decide +kernel, rfl, by decide +kernel, by decide +kernel⟩
abbrev s_Days_init : Stmt := (inClass (top 24) 0)
abbrev N_Days_init : List Str := ["self", "borders", "every", "__class__", "last", "at", "border", "words"]
abbrev P_Days_init : List Str := ["self", "borders", "every"]
theorem sc_Days_init : NdefX.NScope N_Days_init P_Days_init ["__class__"] (defScope s_Days_init) := NdefX.nscope_by (by decide +kernel)
abbrev cs_Days_init_1 : Scope := { kind := .function, names := [(".0", .local), ("border", .local), ("str", .globalImplicit)], isGenerator := false, isCoroutine := false, more := [] }
abbrev s_Days_after : Stmt := (inClass (top 24) 2)
abbrev N_Days_after : List Str := ["self", "t", "border"]
abbrev P_Days_after : List Str := ["self", "t"]
theorem sc_Days_after : FnScope N_Days_after P_Days_after (defScope s_Days_after) := ⟨rfl, rfl, rfl, by decide +kernel, rfl, by decide +kernel, by decide +kernel⟩
abbrev s_joined : Stmt := (top 25)
abbrev N_joined : List Str := ["word", "first", "second", "value", "forms", "period", "bend"]
abbrev P_joined : List Str := ["word", "first", "second"]
theorem sc_joined : FnScope N_joined P_joined (defScope s_joined) := ⟨rfl, rfl, rfl, by decide +kernel, rfl, by decide +kernel, by decide +kernel⟩
abbrev s_Later_init : Stmt := (inClass (top 26) 0)
abbrev N_Later_init : List Str := ["self", "first", "second", "__class__", "text", "forms", "period", "bend"]
abbrev P_Later_init : List Str := ["self", "first", "second"]
theorem sc_Later_init : NdefX.NScope N_Later_init P_Later_init ["__class__"] (defScope s_Later_init) := NdefX.nscope_by (by decide +kernel)
abbrev s_Later_after : Stmt := (inClass (top 26) 1)
abbrev N_Later_after : List Str := ["self", "t"]
abbrev P_Later_after : List Str := ["self", "t"]
theorem sc_Later_after : FnScope N_Later_after P_Later_after (defScope s_Later_after) := ⟨rfl, rfl, rfl, by decide +kernel, rfl, by decide +kernel, by decide +kernel⟩
abbrev s_Sooner_init : Stmt := (inClass (top 27) 0)
abbrev N_Sooner_init : List Str := ["self", "first", "second", "__class__", "text", "forms", "period", "bend"]
abbrev P_Sooner_init : List Str := ["self", "first", "second"]
theorem sc_Sooner_init : NdefX.NScope N_Sooner_init P_Sooner_init ["__class__"] (defScope s_Sooner_init) := NdefX.nscope_by (by decide +kernel)
abbrev s_Sooner_after : Stmt := (inClass (top 27) 1)
abbrev N_Sooner_after : List Str := ["self", "t"]
abbrev P_Sooner_after : List Str := ["self", "t"]
theorem sc_Sooner_after : FnScope N_Sooner_after P_Sooner_after (defScope s_Sooner_after) := ⟨rfl, rfl, rfl, by decide +kernel, rfl, by decide +kernel, by decide +kernel⟩
abbrev s_Next_init : Stmt := (inClass (top 28) 0)
abbrev N_Next_init : List Str := ["self", "first", "second", "__class__", "text", "forms", "period", "bend"]
abbrev P_Next_init : List Str := ["self", "first", "second"]
theorem sc_Next_init : NdefX.NScope N_Next_init P_Next_init ["__class__"] (defScope s_Next_init) := NdefX.nscope_by (by decide +kernel)
abbrev s_Next_after : Stmt := (inClass (top 28) 1)
abbrev N_Next_after : List Str := ["self", "t"]
abbrev P_Next_after : List Str := ["self", "t"]
theorem sc_Next_after : FnScope N_Next_after P_Next_after (defScope s_Next_after) := ⟨rfl, rfl, rfl, by decide +kernel, rfl, by decide +kernel, by decide +kernel⟩
abbrev s_isrow : Stmt := (top 32)
abbrev N_isrow : List Str := ["row", "ahead", "name", "elder", "error", "delay"]
abbrev P_isrow : List Str := ["row", "ahead"]
theorem sc_isrow : FnScope N_isrow P_isrow (defScope s_isrow) := ⟨rfl, rfl, rfl, by decide +kernel, rfl, by decide +kernel, by decide +kernel⟩
abbrev s_alldists : Stmt := (top 33)
abbrev N_alldists : List Str := ["rows", "dists", "name", "row", "line", "other", "far", "back"]
abbrev P_alldists : List Str := ["rows"]
theorem sc_alldists : FnScope N_alldists P_alldists (defScope s_alldists) := ⟨rfl, rfl, rfl, by decide +kernel, rfl, by decide +kernel, by decide +kernel⟩
abbrev s_allkappas : Stmt := (top 34)
abbrev N_allkappas : List Str := ["rows", "dists", "kappas", "name", "row", "line", "other", "best", "above"]
abbrev P_allkappas : List Str := ["rows", "dists"]
theorem sc_allkappas : FnScope N_allkappas P_allkappas (defScope s_allkappas) := ⟨rfl, rfl, rfl, by decide +kernel, rfl, by decide +kernel, by decide +kernel⟩
abbrev s_Net_init : Stmt := (inClass (top 35) 0)
abbrev N_Net_init : List Str := ["self", "rest", "rows", "known", "at", "row"]
abbrev P_Net_init : List Str := ["self", "rest", "rows"]
theorem sc_Net_init : FnScope N_Net_init P_Net_init (defScope s_Net_init) := ⟨rfl, rfl, rfl, by decide +kernel, rfl, by decide +kernel, by decide +kernel⟩
abbrev s_Net_row : Stmt := (inClass (top 35) 1)
abbrev N_Net_row : List Str := ["self", "name"]
abbrev P_Net_row : List Str := ["self", "name"]
theorem sc_Net_row : FnScope N_Net_row P_Net_row (defScope s_Net_row) := ⟨rfl, rfl, rfl, by decide +kernel, rfl, by decide +kernel, by decide +kernel⟩
abbrev s_Net_error_of : Stmt := (inClass (top 35) 5)
abbrev N_Net_error_of : List Str := ["self", "name"]
abbrev P_Net_error_of : List Str := ["self", "name"]
theorem sc_Net_error_of : FnScope N_Net_error_of P_Net_error_of (defScope s_Net_error_of) := ⟨rfl, rfl, rfl, by decide +kernel, rfl, by decide +kernel, by decide +kernel⟩
abbrev s_Net_kappa : Stmt := (inClass (top 35) 9)
abbrev N_Net_kappa : List Str := ["self", "name", "other"]
abbrev P_Net_kappa : List Str := ["self", "name", "other"]
theorem sc_Net_kappa : FnScope N_Net_kappa P_Net_kappa (defScope s_Net_kappa) := ⟨rfl, rfl, rfl, by decide +kernel, rfl, by decide +kernel, by decide +kernel⟩
abbrev s_box : Stmt := (top 37)
abbrev N_box : List Str := ["_law_script", "_law_cells", "_law_cell"]
abbrev P_box : List Str := ["_law_script"]
theorem sc_box : FnScope N_box P_box (defScope s_box) := ⟨rfl, rfl, rfl, by decide +kernel, rfl, by decide +kernel, by decide +kernel⟩
abbrev cs_box_1 : Scope := { kind := .function, names := [(".0", .local), ("_law_cell", .local), ("int", .globalImplicit)], isGenerator := false, isCoroutine := false, more := [] }
abbrev s_take : Stmt := (top 38)
abbrev N_take : List Str := ["_law_box_here", "_law_many", "_law_cells", "_law_at", "_law_turn", "_law_cell"]
abbrev P_take : List Str := ["_law_box_here", "_law_many"]
theorem sc_take : FnScope N_take P_take (defScope s_take) := ⟨rfl, rfl, rfl, by decide +kernel, rfl, by decide +kernel, by decide +kernel⟩
abbrev s_plain_form : Stmt := (top 39)
abbrev N_plain_form : List Str := ["_law_box_here", "_law_borders", "_law_k"]
abbrev P_plain_form : List Str := ["_law_box_here"]
theorem sc_plain_form : FnScope N_plain_form P_plain_form (defScope s_plain_form) := ⟨rfl, rfl, rfl, by decide +kernel, rfl, by decide +kernel, by decide +kernel⟩
abbrev s_form : Stmt := (top 40)
abbrev N_form : List Str := ["_law_box_here", "_law_word", "_law_first"]
abbrev P_form : List Str := ["_law_box_here"]
theorem sc_form : FnScope N_form P_form (defScope s_form) := ⟨rfl, rfl, rfl, by decide +kernel, rfl, by decide +kernel, by decide +kernel⟩
abbrev s_after : Stmt := (top 41)
abbrev N_after : List Str := ["_law_form_here", "_law_t", "_law_border", "_law_start", "_law_one"]
abbrev P_after : List Str := ["_law_form_here", "_law_t"]
theorem sc_after : FnScope N_after P_after (defScope s_after) := ⟨rfl, rfl, rfl, by decide +kernel, rfl, by decide +kernel, by decide +kernel⟩
abbrev s_made : Stmt := (top 42)
abbrev N_made : List Str := ["_law_form_here"]
abbrev P_made : List Str := ["_law_form_here"]
theorem sc_made : FnScope N_made P_made (defScope s_made) := ⟨rfl, rfl, rfl, by decide +kernel, rfl, by decide +kernel, by decide +kernel⟩
abbrev s_rows : Stmt := (top 43)
abbrev N_rows : List Str := ["_law_box_here", "_law_size", "_law_errors", "_law_delays", "_law_names", "_law_shift", "_law_rows_here", "_law_k", "_law_above"]
abbrev P_rows : List Str := ["_law_box_here", "_law_size", "_law_errors", "_law_delays"]
theorem sc_rows : FnScope N_rows P_rows (defScope s_rows) := ⟨rfl, rfl, rfl, by decide +kernel, rfl, by decide +kernel, by decide +kernel⟩
abbrev s_net : Stmt := (top 44)
abbrev N_net : List Str := ["_law_rows_here", "_law_form_here", "_law_own"]
abbrev P_net : List Str := ["_law_rows_here", "_law_form_here"]
theorem sc_net : FnScope N_net P_net (defScope s_net) := ⟨rfl, rfl, rfl, by decide +kernel, rfl, by decide +kernel, by decide +kernel⟩
abbrev s_row : Stmt := (top 45)
abbrev N_row : List Str := ["_law_rows_here", "_law_spot", "_law_row_here"]
abbrev P_row : List Str := ["_law_rows_here", "_law_spot"]
theorem sc_row : FnScope N_row P_row (defScope s_row) := ⟨rfl, rfl, rfl, by decide +kernel, rfl, by decide +kernel, by decide +kernel⟩
abbrev cs_row_1 : Scope := { kind := .function, names := [(".0", .local), ("_law_row_here", .local), ("_law_spot", .free)], isGenerator := false, isCoroutine := false, more := [] }
abbrev s_line : Stmt := (top 46)
abbrev N_line : List Str := ["_law_rows_here", "_law_spot", "_law_line_here", "_law_row_here"]
abbrev P_line : List Str := ["_law_rows_here", "_law_spot"]
theorem sc_line : FnScope N_line P_line (defScope s_line) := ⟨rfl, rfl, rfl, by decide +kernel, rfl, by decide +kernel, by decide +kernel⟩
abbrev s_far : Stmt := (top 47)
abbrev N_far : List Str := ["_law_rows_here", "_law_one", "_law_two", "_law_first", "_law_second", "_law_edges", "_law_spot"]
abbrev P_far : List Str := ["_law_rows_here", "_law_one", "_law_two"]
theorem sc_far : FnScope N_far P_far (defScope s_far) := ⟨rfl, rfl, rfl, by decide +kernel, rfl, by decide +kernel, by decide +kernel⟩
abbrev cs_far_1 : Scope := { kind := .function, names := [(".0", .local), ("_law_spot", .local), ("_law_row", .globalImplicit), ("_law_rows_here", .free)], isGenerator := false, isCoroutine := false, more := [] }
abbrev cs_far_2 : Scope := { kind := .function, names := [(".0", .local), ("_law_spot", .local), ("_law_second", .free)], isGenerator := false, isCoroutine := false, more := [] }
abbrev cs_far_3 : Scope := { kind := .function, names := [(".0", .local), ("_law_spot", .local), ("_law_first", .free)], isGenerator := false, isCoroutine := false, more := [] }
abbrev s_gap : Stmt := (top 48)
abbrev N_gap : List Str := ["_law_rows_here", "_law_one", "_law_two", "_law_best", "_law_spot", "_law_size"]
abbrev P_gap : List Str := ["_law_rows_here", "_law_one", "_law_two"]
theorem sc_gap : FnScope N_gap P_gap (defScope s_gap) := ⟨rfl, rfl, rfl, by decide +kernel, rfl, by decide +kernel, by decide +kernel⟩
abbrev s_need : Stmt := (top 49)
abbrev N_need : List Str := ["_law_rows_here", "_law_form_here", "_law_one", "_law_two"]
abbrev P_need : List Str := ["_law_rows_here", "_law_form_here", "_law_one", "_law_two"]
theorem sc_need : FnScope N_need P_need (defScope s_need) := ⟨rfl, rfl, rfl, by decide +kernel, rfl, by decide +kernel, by decide +kernel⟩
abbrev s_lleads : Stmt := (top 50)
abbrev N_lleads : List Str := ["_law_rows_here", "_law_form_here", "_law_one", "_law_two"]
abbrev P_lleads : List Str := ["_law_rows_here", "_law_form_here", "_law_one", "_law_two"]
theorem sc_lleads : FnScope N_lleads P_lleads (defScope s_lleads) := ⟨rfl, rfl, rfl, by decide +kernel, rfl, by decide +kernel, by decide +kernel⟩
abbrev s_chain : Stmt := (top 51)
abbrev N_chain : List Str := ["_law_box_here", "_law_rows_here", "_law_form_here", "_law_room", "_law_demands", "_law_k", "_law_one", "_law_spot", "_law_edge"]
abbrev P_chain : List Str := ["_law_box_here", "_law_rows_here", "_law_form_here"]
theorem sc_chain : FnScope N_chain P_chain (defScope s_chain) := ⟨rfl, rfl, rfl, by decide +kernel, rfl, by decide +kernel, by decide +kernel⟩
abbrev s_law : Stmt := (top 52)
abbrev N_law : List Str := ["_law_script", "_law_box_here", "_law_rows_here", "_law_form_here", "_law_net_here", "_law_demands", "_law_told", "_law_one", "_law_two", "_law_line_here", "_law_again", "_law_due", "_law_three"]
abbrev P_law : List Str := ["_law_script"]
theorem sc_law : FnScope N_law P_law (defScope s_law) := ⟨rfl, rfl, rfl, by decide +kernel, rfl, by decide +kernel, by decide +kernel⟩
abbrev cs_law_1 : Scope := { kind := .function, names := [(".0", .local), ("_law_two", .local), ("_law_leads", .globalImplicit), ("_law_form_here", .free), ("_law_one", .free), ("_law_rows_here", .free)], isGenerator := false, isCoroutine := false, more := [] }
abbrev cs_law_2 : Scope := { kind := .function, names := [(".0", .local), ("_law_two", .local), ("leads", .globalImplicit), ("_law_net_here", .free), ("_law_one", .free)], isGenerator := false, isCoroutine := false, more := [] }
abbrev cs_law_3 : Scope := { kind := .function, names := [(".0", .local), ("_law_two", .local), ("leads", .globalImplicit), ("_law_net_here", .free), ("_law_one", .free)], isGenerator := false, isCoroutine := false, more := [] }
theorem g_is_number_isinstance : (defScope s_is_number).names.lookup ("isinstance" : Str) = some NameKind.globalImplicit := by decide +kernel
theorem g_is_number_int : (defScope s_is_number).names.lookup ("int" : Str) = some NameKind.globalImplicit := by decide +kernel
theorem v_is_number_value : visB (defScope s_is_number) "value" = true := by decide +kernel
theorem g_is_number_bool : (defScope s_is_number).names.lookup ("bool" : Str) = some NameKind.globalImplicit := by decide +kernel
theorem v_is_number_least : visB (defScope s_is_number) "least" = true := by decide +kernel
theorem v_is_number_most : visB (defScope s_is_number) "most" = true := by decide +kernel
theorem v_Rest_init_self : visB (defScope s_Rest_init) "self" = true := by decide +kernel
theorem v_Rest_init_bend : visB (defScope s_Rest_init) "bend" = true := by decide +kernel
theorem v_Rest_init_period : visB (defScope s_Rest_init) "period" = true := by decide +kernel
theorem v_Rest_init_forms : visB (defScope s_Rest_init) "forms" = true := by decide +kernel
theorem v_Rest_init_text : visB (defScope s_Rest_init) "text" = true := by decide +kernel
theorem v_Rest_forms_self : visB (defScope s_Rest_forms) "self" = true := by decide +kernel
theorem v_Rest_period_self : visB (defScope s_Rest_period) "self" = true := by decide +kernel
theorem v_Rest_bend_self : visB (defScope s_Rest_bend) "self" = true := by decide +kernel
theorem v_Rest_written_self : visB (defScope s_Rest_written) "self" = true := by decide +kernel
theorem v_joined_bend : visB (defScope s_joined) "bend" = true := by decide +kernel
theorem v_joined_period : visB (defScope s_joined) "period" = true := by decide +kernel
theorem v_joined_forms : visB (defScope s_joined) "forms" = true := by decide +kernel
theorem v_joined_second : visB (defScope s_joined) "second" = true := by decide +kernel
theorem v_joined_first : visB (defScope s_joined) "first" = true := by decide +kernel
theorem v_joined_word : visB (defScope s_joined) "word" = true := by decide +kernel
theorem l_joined_bend : locB (defScope s_joined) "bend" = true := by decide +kernel
theorem g_joined_max : (defScope s_joined).names.lookup ("max" : Str) = some NameKind.globalImplicit := by decide +kernel
theorem g_joined_PERIOD : (defScope s_joined).names.lookup ("PERIOD" : Str) = some NameKind.globalImplicit := by decide +kernel
theorem l_joined_period : locB (defScope s_joined) "period" = true := by decide +kernel
theorem g_joined_lcm : (defScope s_joined).names.lookup ("lcm" : Str) = some NameKind.globalImplicit := by decide +kernel
theorem g_joined_FORMS : (defScope s_joined).names.lookup ("FORMS" : Str) = some NameKind.globalImplicit := by decide +kernel
theorem l_joined_forms : locB (defScope s_joined) "forms" = true := by decide +kernel
theorem l_joined_value : locB (defScope s_joined) "value" = true := by decide +kernel
theorem g_joined_isinstance : (defScope s_joined).names.lookup ("isinstance" : Str) = some NameKind.globalImplicit := by decide +kernel
theorem g_joined_Rest : (defScope s_joined).names.lookup ("Rest" : Str) = some NameKind.globalImplicit := by decide +kernel
theorem v_joined_value : visB (defScope s_joined) "value" = true := by decide +kernel
theorem v_Window_init_self : visB (defScope s_Window_init) "self" = true := by decide +kernel
theorem v_Window_init_width : visB (defScope s_Window_init) "width" = true := by decide +kernel
theorem g_Window_init_super : (defScope s_Window_init).names.lookup ("super" : Str) = some NameKind.globalImplicit := by decide +kernel
theorem fr_Window_init : (defScope s_Window_init).names.lookup ("__class__" : Str) = some NameKind.free := by decide +kernel
theorem l_Window_init_self : locB (defScope s_Window_init) "self" = true := by decide +kernel
theorem g_Window_init_is_number : (defScope s_Window_init).names.lookup ("is_number" : Str) = some NameKind.globalImplicit := by decide +kernel
theorem v_Days_init_self : visB (defScope s_Days_init) "self" = true := by decide +kernel
theorem g_Days_init_list : (defScope s_Days_init).names.lookup ("list" : Str) = some NameKind.globalImplicit := by decide +kernel
theorem v_Days_init_borders : visB (defScope s_Days_init) "borders" = true := by decide +kernel
theorem v_Days_init_every : visB (defScope s_Days_init) "every" = true := by decide +kernel
theorem g_Days_init_super : (defScope s_Days_init).names.lookup ("super" : Str) = some NameKind.globalImplicit := by decide +kernel
theorem fr_Days_init : (defScope s_Days_init).names.lookup ("__class__" : Str) = some NameKind.free := by decide +kernel
theorem l_Days_init_self : locB (defScope s_Days_init) "self" = true := by decide +kernel
theorem v_Days_init_last : visB (defScope s_Days_init) "last" = true := by decide +kernel
theorem v_Days_init_words : visB (defScope s_Days_init) "words" = true := by decide +kernel
theorem l_Days_init_words : locB (defScope s_Days_init) "words" = true := by decide +kernel
theorem ok_cs_Days_init_1 : BlkOk N_Days_init (defScope s_Days_init) cs_Days_init_1 [("border", 6)] := blkOk_by (by decide +kernel)
theorem l_Days_init_1_border : locB (relS cs_Days_init_1 (defScope s_Days_init)) "border" = true := by decide +kernel
theorem g_Days_init_1_str : (relS cs_Days_init_1 (defScope s_Days_init)).names.lookup ("str" : Str) = some NameKind.globalImplicit := by decide +kernel
theorem v_Days_init_1_border : visB (relS cs_Days_init_1 (defScope s_Days_init)) "border" = true := by decide +kernel
theorem g_Days_init_str : (defScope s_Days_init).names.lookup ("str" : Str) = some NameKind.globalImplicit := by decide +kernel
theorem g_Days_init_is_number : (defScope s_Days_init).names.lookup ("is_number" : Str) = some NameKind.globalImplicit := by decide +kernel
theorem g_Days_init_enumerate : (defScope s_Days_init).names.lookup ("enumerate" : Str) = some NameKind.globalImplicit := by decide +kernel
theorem l_Days_init_border : locB (defScope s_Days_init) "border" = true := by decide +kernel
theorem l_Days_init_at : locB (defScope s_Days_init) "at" = true := by decide +kernel
theorem l_Days_init_last : locB (defScope s_Days_init) "last" = true := by decide +kernel
theorem v_Days_init_border : visB (defScope s_Days_init) "border" = true := by decide +kernel
theorem g_Days_init_len : (defScope s_Days_init).names.lookup ("len" : Str) = some NameKind.globalImplicit := by decide +kernel
theorem g_Days_init_BORDERS : (defScope s_Days_init).names.lookup ("BORDERS" : Str) = some NameKind.globalImplicit := by decide +kernel
theorem g_Days_init_isinstance : (defScope s_Days_init).names.lookup ("isinstance" : Str) = some NameKind.globalImplicit := by decide +kernel
theorem g_Days_init_tuple : (defScope s_Days_init).names.lookup ("tuple" : Str) = some NameKind.globalImplicit := by decide +kernel
theorem v_Later_init_self : visB (defScope s_Later_init) "self" = true := by decide +kernel
theorem v_Later_init_second : visB (defScope s_Later_init) "second" = true := by decide +kernel
theorem v_Later_init_first : visB (defScope s_Later_init) "first" = true := by decide +kernel
theorem g_Later_init_super : (defScope s_Later_init).names.lookup ("super" : Str) = some NameKind.globalImplicit := by decide +kernel
theorem fr_Later_init : (defScope s_Later_init).names.lookup ("__class__" : Str) = some NameKind.free := by decide +kernel
theorem l_Later_init_self : locB (defScope s_Later_init) "self" = true := by decide +kernel
theorem v_Later_init_bend : visB (defScope s_Later_init) "bend" = true := by decide +kernel
theorem v_Later_init_period : visB (defScope s_Later_init) "period" = true := by decide +kernel
theorem v_Later_init_forms : visB (defScope s_Later_init) "forms" = true := by decide +kernel
theorem v_Later_init_text : visB (defScope s_Later_init) "text" = true := by decide +kernel
theorem g_Later_init_joined : (defScope s_Later_init).names.lookup ("joined" : Str) = some NameKind.globalImplicit := by decide +kernel
theorem l_Later_init_bend : locB (defScope s_Later_init) "bend" = true := by decide +kernel
theorem l_Later_init_period : locB (defScope s_Later_init) "period" = true := by decide +kernel
theorem l_Later_init_forms : locB (defScope s_Later_init) "forms" = true := by decide +kernel
theorem l_Later_init_text : locB (defScope s_Later_init) "text" = true := by decide +kernel
theorem v_Sooner_init_self : visB (defScope s_Sooner_init) "self" = true := by decide +kernel
theorem v_Sooner_init_second : visB (defScope s_Sooner_init) "second" = true := by decide +kernel
theorem v_Sooner_init_first : visB (defScope s_Sooner_init) "first" = true := by decide +kernel
theorem g_Sooner_init_super : (defScope s_Sooner_init).names.lookup ("super" : Str) = some NameKind.globalImplicit := by decide +kernel
theorem fr_Sooner_init : (defScope s_Sooner_init).names.lookup ("__class__" : Str) = some NameKind.free := by decide +kernel
theorem l_Sooner_init_self : locB (defScope s_Sooner_init) "self" = true := by decide +kernel
theorem v_Sooner_init_bend : visB (defScope s_Sooner_init) "bend" = true := by decide +kernel
theorem v_Sooner_init_period : visB (defScope s_Sooner_init) "period" = true := by decide +kernel
theorem v_Sooner_init_forms : visB (defScope s_Sooner_init) "forms" = true := by decide +kernel
theorem v_Sooner_init_text : visB (defScope s_Sooner_init) "text" = true := by decide +kernel
theorem g_Sooner_init_joined : (defScope s_Sooner_init).names.lookup ("joined" : Str) = some NameKind.globalImplicit := by decide +kernel
theorem l_Sooner_init_bend : locB (defScope s_Sooner_init) "bend" = true := by decide +kernel
theorem l_Sooner_init_period : locB (defScope s_Sooner_init) "period" = true := by decide +kernel
theorem l_Sooner_init_forms : locB (defScope s_Sooner_init) "forms" = true := by decide +kernel
theorem l_Sooner_init_text : locB (defScope s_Sooner_init) "text" = true := by decide +kernel
theorem v_Next_init_self : visB (defScope s_Next_init) "self" = true := by decide +kernel
theorem v_Next_init_second : visB (defScope s_Next_init) "second" = true := by decide +kernel
theorem v_Next_init_first : visB (defScope s_Next_init) "first" = true := by decide +kernel
theorem g_Next_init_super : (defScope s_Next_init).names.lookup ("super" : Str) = some NameKind.globalImplicit := by decide +kernel
theorem fr_Next_init : (defScope s_Next_init).names.lookup ("__class__" : Str) = some NameKind.free := by decide +kernel
theorem l_Next_init_self : locB (defScope s_Next_init) "self" = true := by decide +kernel
theorem v_Next_init_bend : visB (defScope s_Next_init) "bend" = true := by decide +kernel
theorem v_Next_init_period : visB (defScope s_Next_init) "period" = true := by decide +kernel
theorem v_Next_init_forms : visB (defScope s_Next_init) "forms" = true := by decide +kernel
theorem v_Next_init_text : visB (defScope s_Next_init) "text" = true := by decide +kernel
theorem g_Next_init_joined : (defScope s_Next_init).names.lookup ("joined" : Str) = some NameKind.globalImplicit := by decide +kernel
theorem l_Next_init_bend : locB (defScope s_Next_init) "bend" = true := by decide +kernel
theorem l_Next_init_period : locB (defScope s_Next_init) "period" = true := by decide +kernel
theorem l_Next_init_forms : locB (defScope s_Next_init) "forms" = true := by decide +kernel
theorem l_Next_init_text : locB (defScope s_Next_init) "text" = true := by decide +kernel
theorem v_Window_after_t : visB (defScope s_Window_after) "t" = true := by decide +kernel
theorem v_Window_after_self : visB (defScope s_Window_after) "self" = true := by decide +kernel
theorem v_Days_after_self : visB (defScope s_Days_after) "self" = true := by decide +kernel
theorem v_Days_after_t : visB (defScope s_Days_after) "t" = true := by decide +kernel
theorem l_Days_after_border : locB (defScope s_Days_after) "border" = true := by decide +kernel
theorem v_Days_after_border : visB (defScope s_Days_after) "border" = true := by decide +kernel
theorem g_Later_after_max : (defScope s_Later_after).names.lookup ("max" : Str) = some NameKind.globalImplicit := by decide +kernel
theorem v_Later_after_self : visB (defScope s_Later_after) "self" = true := by decide +kernel
theorem v_Later_after_t : visB (defScope s_Later_after) "t" = true := by decide +kernel
theorem g_Sooner_after_min : (defScope s_Sooner_after).names.lookup ("min" : Str) = some NameKind.globalImplicit := by decide +kernel
theorem v_Sooner_after_self : visB (defScope s_Sooner_after) "self" = true := by decide +kernel
theorem v_Sooner_after_t : visB (defScope s_Sooner_after) "t" = true := by decide +kernel
theorem v_Next_after_self : visB (defScope s_Next_after) "self" = true := by decide +kernel
theorem v_Next_after_t : visB (defScope s_Next_after) "t" = true := by decide +kernel
theorem v_Rest_call_self : visB (defScope s_Rest_call) "self" = true := by decide +kernel
theorem v_Rest_call_t : visB (defScope s_Rest_call) "t" = true := by decide +kernel
theorem v_is_name_value : visB (defScope s_is_name) "value" = true := by decide +kernel
theorem l_is_name_sign : locB (defScope s_is_name) "sign" = true := by decide +kernel
theorem v_is_name_sign : visB (defScope s_is_name) "sign" = true := by decide +kernel
theorem g_is_name_LETTERS : (defScope s_is_name).names.lookup ("LETTERS" : Str) = some NameKind.globalImplicit := by decide +kernel
theorem g_is_name_DIGITS : (defScope s_is_name).names.lookup ("DIGITS" : Str) = some NameKind.globalImplicit := by decide +kernel
theorem g_is_name_isinstance : (defScope s_is_name).names.lookup ("isinstance" : Str) = some NameKind.globalImplicit := by decide +kernel
theorem g_is_name_str : (defScope s_is_name).names.lookup ("str" : Str) = some NameKind.globalImplicit := by decide +kernel
theorem g_is_name_len : (defScope s_is_name).names.lookup ("len" : Str) = some NameKind.globalImplicit := by decide +kernel
theorem g_made_Next : (defScope s_made).names.lookup ("Next" : Str) = some NameKind.globalImplicit := by decide +kernel
theorem g_made_law_made : (defScope s_made).names.lookup ("_law_made" : Str) = some NameKind.globalImplicit := by decide +kernel
theorem v_made_law_form_here : visB (defScope s_made) "_law_form_here" = true := by decide +kernel
theorem g_made_Sooner : (defScope s_made).names.lookup ("Sooner" : Str) = some NameKind.globalImplicit := by decide +kernel
theorem g_made_Later : (defScope s_made).names.lookup ("Later" : Str) = some NameKind.globalImplicit := by decide +kernel
theorem g_made_Days : (defScope s_made).names.lookup ("Days" : Str) = some NameKind.globalImplicit := by decide +kernel
theorem g_made_list : (defScope s_made).names.lookup ("list" : Str) = some NameKind.globalImplicit := by decide +kernel
theorem g_made_Window : (defScope s_made).names.lookup ("Window" : Str) = some NameKind.globalImplicit := by decide +kernel
theorem v_box_law_cells : visB (defScope s_box) "_law_cells" = true := by decide +kernel
theorem ok_cs_box_1 : BlkOk N_box (defScope s_box) cs_box_1 [("_law_cell", 2)] := blkOk_by (by decide +kernel)
theorem v_box_law_script : visB (defScope s_box) "_law_script" = true := by decide +kernel
theorem l_box_1_law_cell : locB (relS cs_box_1 (defScope s_box)) "_law_cell" = true := by decide +kernel
theorem v_box_1_law_cell : visB (relS cs_box_1 (defScope s_box)) "_law_cell" = true := by decide +kernel
theorem g_box_1_int : (relS cs_box_1 (defScope s_box)).names.lookup ("int" : Str) = some NameKind.globalImplicit := by decide +kernel
theorem l_box_law_cells : locB (defScope s_box) "_law_cells" = true := by decide +kernel
theorem g_take_int : (defScope s_take).names.lookup ("int" : Str) = some NameKind.globalImplicit := by decide +kernel
theorem v_take_law_box_here : visB (defScope s_take) "_law_box_here" = true := by decide +kernel
theorem v_take_law_many : visB (defScope s_take) "_law_many" = true := by decide +kernel
theorem v_take_law_turn : visB (defScope s_take) "_law_turn" = true := by decide +kernel
theorem v_take_law_at : visB (defScope s_take) "_law_at" = true := by decide +kernel
theorem g_take_len : (defScope s_take).names.lookup ("len" : Str) = some NameKind.globalImplicit := by decide +kernel
theorem v_take_law_cells : visB (defScope s_take) "_law_cells" = true := by decide +kernel
theorem v_take_law_cell : visB (defScope s_take) "_law_cell" = true := by decide +kernel
theorem l_take_law_cell : locB (defScope s_take) "_law_cell" = true := by decide +kernel
theorem l_take_law_turn : locB (defScope s_take) "_law_turn" = true := by decide +kernel
theorem l_take_law_at : locB (defScope s_take) "_law_at" = true := by decide +kernel
theorem l_take_law_cells : locB (defScope s_take) "_law_cells" = true := by decide +kernel
theorem g_plain_form_law_take : (defScope s_plain_form).names.lookup ("_law_take" : Str) = some NameKind.globalImplicit := by decide +kernel
theorem v_plain_form_law_box_here : visB (defScope s_plain_form) "_law_box_here" = true := by decide +kernel
theorem g_plain_form_tuple : (defScope s_plain_form).names.lookup ("tuple" : Str) = some NameKind.globalImplicit := by decide +kernel
theorem v_plain_form_law_borders : visB (defScope s_plain_form) "_law_borders" = true := by decide +kernel
theorem g_plain_form_range : (defScope s_plain_form).names.lookup ("range" : Str) = some NameKind.globalImplicit := by decide +kernel
theorem l_plain_form_law_k : locB (defScope s_plain_form) "_law_k" = true := by decide +kernel
theorem g_plain_form_sum : (defScope s_plain_form).names.lookup ("sum" : Str) = some NameKind.globalImplicit := by decide +kernel
theorem l_plain_form_law_borders : locB (defScope s_plain_form) "_law_borders" = true := by decide +kernel
theorem g_form_law_plain_form : (defScope s_form).names.lookup ("_law_plain_form" : Str) = some NameKind.globalImplicit := by decide +kernel
theorem v_form_law_box_here : visB (defScope s_form) "_law_box_here" = true := by decide +kernel
theorem v_form_law_first : visB (defScope s_form) "_law_first" = true := by decide +kernel
theorem v_form_law_word : visB (defScope s_form) "_law_word" = true := by decide +kernel
theorem l_form_law_first : locB (defScope s_form) "_law_first" = true := by decide +kernel
theorem l_form_law_word : locB (defScope s_form) "_law_word" = true := by decide +kernel
theorem g_form_law_take : (defScope s_form).names.lookup ("_law_take" : Str) = some NameKind.globalImplicit := by decide +kernel
theorem g_after_min : (defScope s_after).names.lookup ("min" : Str) = some NameKind.globalImplicit := by decide +kernel
theorem g_after_law_after : (defScope s_after).names.lookup ("_law_after" : Str) = some NameKind.globalImplicit := by decide +kernel
theorem v_after_law_t : visB (defScope s_after) "_law_t" = true := by decide +kernel
theorem v_after_law_form_here : visB (defScope s_after) "_law_form_here" = true := by decide +kernel
theorem v_after_law_one : visB (defScope s_after) "_law_one" = true := by decide +kernel
theorem g_after_max : (defScope s_after).names.lookup ("max" : Str) = some NameKind.globalImplicit := by decide +kernel
theorem l_after_law_one : locB (defScope s_after) "_law_one" = true := by decide +kernel
theorem v_after_law_start : visB (defScope s_after) "_law_start" = true := by decide +kernel
theorem l_after_law_start : locB (defScope s_after) "_law_start" = true := by decide +kernel
theorem g_after_sum : (defScope s_after).names.lookup ("sum" : Str) = some NameKind.globalImplicit := by decide +kernel
theorem l_after_law_border : locB (defScope s_after) "_law_border" = true := by decide +kernel
theorem v_after_law_border : visB (defScope s_after) "_law_border" = true := by decide +kernel
theorem g_isrow_is_name : (defScope s_isrow).names.lookup ("is_name" : Str) = some NameKind.globalImplicit := by decide +kernel
theorem v_isrow_elder : visB (defScope s_isrow) "elder" = true := by decide +kernel
theorem v_isrow_ahead : visB (defScope s_isrow) "ahead" = true := by decide +kernel
theorem v_isrow_delay : visB (defScope s_isrow) "delay" = true := by decide +kernel
theorem g_isrow_is_number : (defScope s_isrow).names.lookup ("is_number" : Str) = some NameKind.globalImplicit := by decide +kernel
theorem g_isrow_MOST_ERROR : (defScope s_isrow).names.lookup ("MOST_ERROR" : Str) = some NameKind.globalImplicit := by decide +kernel
theorem v_isrow_error : visB (defScope s_isrow) "error" = true := by decide +kernel
theorem v_isrow_name : visB (defScope s_isrow) "name" = true := by decide +kernel
theorem v_isrow_row : visB (defScope s_isrow) "row" = true := by decide +kernel
theorem l_isrow_delay : locB (defScope s_isrow) "delay" = true := by decide +kernel
theorem l_isrow_error : locB (defScope s_isrow) "error" = true := by decide +kernel
theorem l_isrow_elder : locB (defScope s_isrow) "elder" = true := by decide +kernel
theorem l_isrow_name : locB (defScope s_isrow) "name" = true := by decide +kernel
theorem g_isrow_isinstance : (defScope s_isrow).names.lookup ("isinstance" : Str) = some NameKind.globalImplicit := by decide +kernel
theorem g_isrow_tuple : (defScope s_isrow).names.lookup ("tuple" : Str) = some NameKind.globalImplicit := by decide +kernel
theorem g_isrow_len : (defScope s_isrow).names.lookup ("len" : Str) = some NameKind.globalImplicit := by decide +kernel
theorem v_alldists_dists : visB (defScope s_alldists) "dists" = true := by decide +kernel
theorem v_alldists_rows : visB (defScope s_alldists) "rows" = true := by decide +kernel
theorem l_alldists_row : locB (defScope s_alldists) "row" = true := by decide +kernel
theorem l_alldists_name : locB (defScope s_alldists) "name" = true := by decide +kernel
theorem v_alldists_line : visB (defScope s_alldists) "line" = true := by decide +kernel
theorem v_alldists_name : visB (defScope s_alldists) "name" = true := by decide +kernel
theorem g_alldists_list : (defScope s_alldists).names.lookup ("list" : Str) = some NameKind.globalImplicit := by decide +kernel
theorem l_alldists_other : locB (defScope s_alldists) "other" = true := by decide +kernel
theorem v_alldists_far : visB (defScope s_alldists) "far" = true := by decide +kernel
theorem v_alldists_back : visB (defScope s_alldists) "back" = true := by decide +kernel
theorem l_alldists_back : locB (defScope s_alldists) "back" = true := by decide +kernel
theorem v_alldists_other : visB (defScope s_alldists) "other" = true := by decide +kernel
theorem l_alldists_far : locB (defScope s_alldists) "far" = true := by decide +kernel
theorem v_alldists_row : visB (defScope s_alldists) "row" = true := by decide +kernel
theorem l_alldists_line : locB (defScope s_alldists) "line" = true := by decide +kernel
theorem l_alldists_dists : locB (defScope s_alldists) "dists" = true := by decide +kernel
theorem v_allkappas_kappas : visB (defScope s_allkappas) "kappas" = true := by decide +kernel
theorem v_allkappas_rows : visB (defScope s_allkappas) "rows" = true := by decide +kernel
theorem l_allkappas_row : locB (defScope s_allkappas) "row" = true := by decide +kernel
theorem l_allkappas_name : locB (defScope s_allkappas) "name" = true := by decide +kernel
theorem v_allkappas_line : visB (defScope s_allkappas) "line" = true := by decide +kernel
theorem v_allkappas_name : visB (defScope s_allkappas) "name" = true := by decide +kernel
theorem l_allkappas_other : locB (defScope s_allkappas) "other" = true := by decide +kernel
theorem v_allkappas_best : visB (defScope s_allkappas) "best" = true := by decide +kernel
theorem v_allkappas_other : visB (defScope s_allkappas) "other" = true := by decide +kernel
theorem v_allkappas_row : visB (defScope s_allkappas) "row" = true := by decide +kernel
theorem v_allkappas_above : visB (defScope s_allkappas) "above" = true := by decide +kernel
theorem l_allkappas_best : locB (defScope s_allkappas) "best" = true := by decide +kernel
theorem l_allkappas_above : locB (defScope s_allkappas) "above" = true := by decide +kernel
theorem v_allkappas_dists : visB (defScope s_allkappas) "dists" = true := by decide +kernel
theorem l_allkappas_line : locB (defScope s_allkappas) "line" = true := by decide +kernel
theorem l_allkappas_kappas : locB (defScope s_allkappas) "kappas" = true := by decide +kernel
theorem v_Net_init_self : visB (defScope s_Net_init) "self" = true := by decide +kernel
theorem g_Net_init_all_kappas : (defScope s_Net_init).names.lookup ("_all_kappas" : Str) = some NameKind.globalImplicit := by decide +kernel
theorem v_Net_init_known : visB (defScope s_Net_init) "known" = true := by decide +kernel
theorem g_Net_init_all_dists : (defScope s_Net_init).names.lookup ("_all_dists" : Str) = some NameKind.globalImplicit := by decide +kernel
theorem v_Net_init_rest : visB (defScope s_Net_init) "rest" = true := by decide +kernel
theorem g_Net_init_enumerate : (defScope s_Net_init).names.lookup ("enumerate" : Str) = some NameKind.globalImplicit := by decide +kernel
theorem v_Net_init_rows : visB (defScope s_Net_init) "rows" = true := by decide +kernel
theorem l_Net_init_row : locB (defScope s_Net_init) "row" = true := by decide +kernel
theorem l_Net_init_at : locB (defScope s_Net_init) "at" = true := by decide +kernel
theorem v_Net_init_row : visB (defScope s_Net_init) "row" = true := by decide +kernel
theorem g_Net_init_is_row : (defScope s_Net_init).names.lookup ("_is_row" : Str) = some NameKind.globalImplicit := by decide +kernel
theorem l_Net_init_known : locB (defScope s_Net_init) "known" = true := by decide +kernel
theorem g_Net_init_len : (defScope s_Net_init).names.lookup ("len" : Str) = some NameKind.globalImplicit := by decide +kernel
theorem g_Net_init_MOST_PLACES : (defScope s_Net_init).names.lookup ("MOST_PLACES" : Str) = some NameKind.globalImplicit := by decide +kernel
theorem g_Net_init_isinstance : (defScope s_Net_init).names.lookup ("isinstance" : Str) = some NameKind.globalImplicit := by decide +kernel
theorem g_Net_init_Rest : (defScope s_Net_init).names.lookup ("Rest" : Str) = some NameKind.globalImplicit := by decide +kernel
theorem v_Net_row_self : visB (defScope s_Net_row) "self" = true := by decide +kernel
theorem v_Net_row_name : visB (defScope s_Net_row) "name" = true := by decide +kernel
theorem g_Net_row_is_name : (defScope s_Net_row).names.lookup ("is_name" : Str) = some NameKind.globalImplicit := by decide +kernel
theorem v_Net_error_of_self : visB (defScope s_Net_error_of) "self" = true := by decide +kernel
theorem v_Net_error_of_name : visB (defScope s_Net_error_of) "name" = true := by decide +kernel
theorem v_Net_kappa_self : visB (defScope s_Net_kappa) "self" = true := by decide +kernel
theorem v_Net_kappa_name : visB (defScope s_Net_kappa) "name" = true := by decide +kernel
theorem v_Net_kappa_other : visB (defScope s_Net_kappa) "other" = true := by decide +kernel
theorem v_leads_due : visB (defScope s_leads) "due" = true := by decide +kernel
theorem v_leads_net : visB (defScope s_leads) "net" = true := by decide +kernel
theorem v_leads_home : visB (defScope s_leads) "home" = true := by decide +kernel
theorem v_leads_rested : visB (defScope s_leads) "rested" = true := by decide +kernel
theorem v_leads_place : visB (defScope s_leads) "place" = true := by decide +kernel
theorem l_leads_rested : locB (defScope s_leads) "rested" = true := by decide +kernel
theorem v_leads_rest : visB (defScope s_leads) "rest" = true := by decide +kernel
theorem v_leads_reading : visB (defScope s_leads) "reading" = true := by decide +kernel
theorem l_leads_rest : locB (defScope s_leads) "rest" = true := by decide +kernel
theorem v_leads_other : visB (defScope s_leads) "other" = true := by decide +kernel
theorem l_leads_due : locB (defScope s_leads) "due" = true := by decide +kernel
theorem l_leads_home : locB (defScope s_leads) "home" = true := by decide +kernel
theorem v_leads_demand : visB (defScope s_leads) "demand" = true := by decide +kernel
theorem l_leads_reading : locB (defScope s_leads) "reading" = true := by decide +kernel
theorem l_leads_place : locB (defScope s_leads) "place" = true := by decide +kernel
theorem ok_cs_row_1 : BlkOk N_row (defScope s_row) cs_row_1 [("_law_row_here", 2)] := blkOk_by (by decide +kernel)
theorem v_row_law_rows_here : visB (defScope s_row) "_law_rows_here" = true := by decide +kernel
theorem v_row_1_law_row_here : visB (relS cs_row_1 (defScope s_row)) "_law_row_here" = true := by decide +kernel
theorem v_row_1_law_spot : visB (relS cs_row_1 (defScope s_row)) "_law_spot" = true := by decide +kernel
theorem l_row_1_law_row_here : locB (relS cs_row_1 (defScope s_row)) "_law_row_here" = true := by decide +kernel
theorem v_line_law_line_here : visB (defScope s_line) "_law_line_here" = true := by decide +kernel
theorem g_line_reversed : (defScope s_line).names.lookup ("reversed" : Str) = some NameKind.globalImplicit := by decide +kernel
theorem v_line_law_rows_here : visB (defScope s_line) "_law_rows_here" = true := by decide +kernel
theorem l_line_law_row_here : locB (defScope s_line) "_law_row_here" = true := by decide +kernel
theorem v_line_law_row_here : visB (defScope s_line) "_law_row_here" = true := by decide +kernel
theorem l_line_law_line_here : locB (defScope s_line) "_law_line_here" = true := by decide +kernel
theorem v_line_law_spot : visB (defScope s_line) "_law_spot" = true := by decide +kernel
theorem g_far_sum : (defScope s_far).names.lookup ("sum" : Str) = some NameKind.globalImplicit := by decide +kernel
theorem ok_cs_far_1 : BlkOk N_far (defScope s_far) cs_far_1 [("_law_spot", 6)] := blkOk_by (by decide +kernel)
theorem v_far_law_edges : visB (defScope s_far) "_law_edges" = true := by decide +kernel
theorem l_far_1_law_spot : locB (relS cs_far_1 (defScope s_far)) "_law_spot" = true := by decide +kernel
theorem g_far_1_law_row : (relS cs_far_1 (defScope s_far)).names.lookup ("_law_row" : Str) = some NameKind.globalImplicit := by decide +kernel
theorem v_far_1_law_spot : visB (relS cs_far_1 (defScope s_far)) "_law_spot" = true := by decide +kernel
theorem v_far_1_law_rows_here : visB (relS cs_far_1 (defScope s_far)) "_law_rows_here" = true := by decide +kernel
theorem l_far_law_edges : locB (defScope s_far) "_law_edges" = true := by decide +kernel
theorem ok_cs_far_2 : BlkOk N_far (defScope s_far) cs_far_2 [("_law_spot", 6)] := blkOk_by (by decide +kernel)
theorem v_far_law_first : visB (defScope s_far) "_law_first" = true := by decide +kernel
theorem v_far_2_law_spot : visB (relS cs_far_2 (defScope s_far)) "_law_spot" = true := by decide +kernel
theorem v_far_2_law_second : visB (relS cs_far_2 (defScope s_far)) "_law_second" = true := by decide +kernel
theorem l_far_2_law_spot : locB (relS cs_far_2 (defScope s_far)) "_law_spot" = true := by decide +kernel
theorem ok_cs_far_3 : BlkOk N_far (defScope s_far) cs_far_3 [("_law_spot", 6)] := blkOk_by (by decide +kernel)
theorem v_far_law_second : visB (defScope s_far) "_law_second" = true := by decide +kernel
theorem v_far_3_law_spot : visB (relS cs_far_3 (defScope s_far)) "_law_spot" = true := by decide +kernel
theorem v_far_3_law_first : visB (relS cs_far_3 (defScope s_far)) "_law_first" = true := by decide +kernel
theorem l_far_3_law_spot : locB (relS cs_far_3 (defScope s_far)) "_law_spot" = true := by decide +kernel
theorem c_far_law_second : celB (defScope s_far) "_law_second" = true := by decide +kernel
theorem g_far_law_line : (defScope s_far).names.lookup ("_law_line" : Str) = some NameKind.globalImplicit := by decide +kernel
theorem v_far_law_two : visB (defScope s_far) "_law_two" = true := by decide +kernel
theorem v_far_law_rows_here : visB (defScope s_far) "_law_rows_here" = true := by decide +kernel
theorem c_far_law_first : celB (defScope s_far) "_law_first" = true := by decide +kernel
theorem v_far_law_one : visB (defScope s_far) "_law_one" = true := by decide +kernel
theorem v_gap_law_best : visB (defScope s_gap) "_law_best" = true := by decide +kernel
theorem g_gap_law_line : (defScope s_gap).names.lookup ("_law_line" : Str) = some NameKind.globalImplicit := by decide +kernel
theorem v_gap_law_one : visB (defScope s_gap) "_law_one" = true := by decide +kernel
theorem v_gap_law_rows_here : visB (defScope s_gap) "_law_rows_here" = true := by decide +kernel
theorem l_gap_law_spot : locB (defScope s_gap) "_law_spot" = true := by decide +kernel
theorem v_gap_law_size : visB (defScope s_gap) "_law_size" = true := by decide +kernel
theorem l_gap_law_best : locB (defScope s_gap) "_law_best" = true := by decide +kernel
theorem v_gap_law_spot : visB (defScope s_gap) "_law_spot" = true := by decide +kernel
theorem v_gap_law_two : visB (defScope s_gap) "_law_two" = true := by decide +kernel
theorem l_gap_law_size : locB (defScope s_gap) "_law_size" = true := by decide +kernel
theorem g_gap_law_row : (defScope s_gap).names.lookup ("_law_row" : Str) = some NameKind.globalImplicit := by decide +kernel
theorem g_gap_law_far : (defScope s_gap).names.lookup ("_law_far" : Str) = some NameKind.globalImplicit := by decide +kernel
theorem g_need_law_after : (defScope s_need).names.lookup ("_law_after" : Str) = some NameKind.globalImplicit := by decide +kernel
theorem v_need_law_one : visB (defScope s_need) "_law_one" = true := by decide +kernel
theorem g_need_law_row : (defScope s_need).names.lookup ("_law_row" : Str) = some NameKind.globalImplicit := by decide +kernel
theorem v_need_law_rows_here : visB (defScope s_need) "_law_rows_here" = true := by decide +kernel
theorem v_need_law_form_here : visB (defScope s_need) "_law_form_here" = true := by decide +kernel
theorem g_need_law_gap : (defScope s_need).names.lookup ("_law_gap" : Str) = some NameKind.globalImplicit := by decide +kernel
theorem v_need_law_two : visB (defScope s_need) "_law_two" = true := by decide +kernel
theorem v_lleads_law_two : visB (defScope s_lleads) "_law_two" = true := by decide +kernel
theorem g_lleads_law_row : (defScope s_lleads).names.lookup ("_law_row" : Str) = some NameKind.globalImplicit := by decide +kernel
theorem v_lleads_law_rows_here : visB (defScope s_lleads) "_law_rows_here" = true := by decide +kernel
theorem g_lleads_law_need : (defScope s_lleads).names.lookup ("_law_need" : Str) = some NameKind.globalImplicit := by decide +kernel
theorem v_lleads_law_one : visB (defScope s_lleads) "_law_one" = true := by decide +kernel
theorem v_lleads_law_form_here : visB (defScope s_lleads) "_law_form_here" = true := by decide +kernel
theorem v_rows_law_rows_here : visB (defScope s_rows) "_law_rows_here" = true := by decide +kernel
theorem g_rows_range : (defScope s_rows).names.lookup ("range" : Str) = some NameKind.globalImplicit := by decide +kernel
theorem g_rows_min : (defScope s_rows).names.lookup ("min" : Str) = some NameKind.globalImplicit := by decide +kernel
theorem v_rows_law_size : visB (defScope s_rows) "_law_size" = true := by decide +kernel
theorem l_rows_law_k : locB (defScope s_rows) "_law_k" = true := by decide +kernel
theorem g_rows_law_take : (defScope s_rows).names.lookup ("_law_take" : Str) = some NameKind.globalImplicit := by decide +kernel
theorem v_rows_law_delays : visB (defScope s_rows) "_law_delays" = true := by decide +kernel
theorem v_rows_law_box_here : visB (defScope s_rows) "_law_box_here" = true := by decide +kernel
theorem v_rows_law_errors : visB (defScope s_rows) "_law_errors" = true := by decide +kernel
theorem v_rows_law_above : visB (defScope s_rows) "_law_above" = true := by decide +kernel
theorem v_rows_law_names : visB (defScope s_rows) "_law_names" = true := by decide +kernel
theorem v_rows_law_shift : visB (defScope s_rows) "_law_shift" = true := by decide +kernel
theorem v_rows_law_k : visB (defScope s_rows) "_law_k" = true := by decide +kernel
theorem l_rows_law_above : locB (defScope s_rows) "_law_above" = true := by decide +kernel
theorem g_rows_len : (defScope s_rows).names.lookup ("len" : Str) = some NameKind.globalImplicit := by decide +kernel
theorem l_rows_law_rows_here : locB (defScope s_rows) "_law_rows_here" = true := by decide +kernel
theorem l_rows_law_shift : locB (defScope s_rows) "_law_shift" = true := by decide +kernel
theorem l_rows_law_names : locB (defScope s_rows) "_law_names" = true := by decide +kernel
theorem g_net_Net : (defScope s_net).names.lookup ("Net" : Str) = some NameKind.globalImplicit := by decide +kernel
theorem v_net_law_rows_here : visB (defScope s_net) "_law_rows_here" = true := by decide +kernel
theorem v_net_law_own : visB (defScope s_net) "_law_own" = true := by decide +kernel
theorem g_net_len : (defScope s_net).names.lookup ("len" : Str) = some NameKind.globalImplicit := by decide +kernel
theorem l_net_law_own : locB (defScope s_net) "_law_own" = true := by decide +kernel
theorem g_net_law_made : (defScope s_net).names.lookup ("_law_made" : Str) = some NameKind.globalImplicit := by decide +kernel
theorem v_net_law_form_here : visB (defScope s_net) "_law_form_here" = true := by decide +kernel
theorem v_chain_law_demands : visB (defScope s_chain) "_law_demands" = true := by decide +kernel
theorem g_chain_range : (defScope s_chain).names.lookup ("range" : Str) = some NameKind.globalImplicit := by decide +kernel
theorem l_chain_law_k : locB (defScope s_chain) "_law_k" = true := by decide +kernel
theorem g_chain_min : (defScope s_chain).names.lookup ("min" : Str) = some NameKind.globalImplicit := by decide +kernel
theorem g_chain_max : (defScope s_chain).names.lookup ("max" : Str) = some NameKind.globalImplicit := by decide +kernel
theorem v_chain_law_edge : visB (defScope s_chain) "_law_edge" = true := by decide +kernel
theorem g_chain_law_take : (defScope s_chain).names.lookup ("_law_take" : Str) = some NameKind.globalImplicit := by decide +kernel
theorem v_chain_law_box_here : visB (defScope s_chain) "_law_box_here" = true := by decide +kernel
theorem v_chain_law_spot : visB (defScope s_chain) "_law_spot" = true := by decide +kernel
theorem l_chain_law_edge : locB (defScope s_chain) "_law_edge" = true := by decide +kernel
theorem g_chain_law_need : (defScope s_chain).names.lookup ("_law_need" : Str) = some NameKind.globalImplicit := by decide +kernel
theorem v_chain_law_one : visB (defScope s_chain) "_law_one" = true := by decide +kernel
theorem v_chain_law_form_here : visB (defScope s_chain) "_law_form_here" = true := by decide +kernel
theorem v_chain_law_rows_here : visB (defScope s_chain) "_law_rows_here" = true := by decide +kernel
theorem l_chain_law_spot : locB (defScope s_chain) "_law_spot" = true := by decide +kernel
theorem g_chain_len : (defScope s_chain).names.lookup ("len" : Str) = some NameKind.globalImplicit := by decide +kernel
theorem l_chain_law_one : locB (defScope s_chain) "_law_one" = true := by decide +kernel
theorem l_chain_law_demands : locB (defScope s_chain) "_law_demands" = true := by decide +kernel
theorem v_chain_law_room : visB (defScope s_chain) "_law_room" = true := by decide +kernel
theorem l_chain_law_room : locB (defScope s_chain) "_law_room" = true := by decide +kernel
theorem g_law_range : (defScope s_law).names.lookup ("range" : Str) = some NameKind.globalImplicit := by decide +kernel
theorem c_law_law_one : celB (defScope s_law) "_law_one" = true := by decide +kernel
theorem l_law_law_two : locB (defScope s_law) "_law_two" = true := by decide +kernel
theorem l_law_law_three : locB (defScope s_law) "_law_three" = true := by decide +kernel
theorem v_law_law_told : visB (defScope s_law) "_law_told" = true := by decide +kernel
theorem v_law_law_one : visB (defScope s_law) "_law_one" = true := by decide +kernel
theorem v_law_law_two : visB (defScope s_law) "_law_two" = true := by decide +kernel
theorem v_law_law_three : visB (defScope s_law) "_law_three" = true := by decide +kernel
theorem v_law_law_demands : visB (defScope s_law) "_law_demands" = true := by decide +kernel
theorem v_law_law_line_here : visB (defScope s_law) "_law_line_here" = true := by decide +kernel
theorem g_law_repr : (defScope s_law).names.lookup ("repr" : Str) = some NameKind.globalImplicit := by decide +kernel
theorem v_law_law_due : visB (defScope s_law) "_law_due" = true := by decide +kernel
theorem v_law_law_again : visB (defScope s_law) "_law_again" = true := by decide +kernel
theorem ok_cs_law_1 : BlkOk N_law (defScope s_law) cs_law_1 [("_law_two", 8)] := blkOk_by (by decide +kernel)
theorem l_law_1_law_two : locB (relS cs_law_1 (defScope s_law)) "_law_two" = true := by decide +kernel
theorem g_law_1_law_leads : (relS cs_law_1 (defScope s_law)).names.lookup ("_law_leads" : Str) = some NameKind.globalImplicit := by decide +kernel
theorem v_law_1_law_two : visB (relS cs_law_1 (defScope s_law)) "_law_two" = true := by decide +kernel
theorem v_law_1_law_one : visB (relS cs_law_1 (defScope s_law)) "_law_one" = true := by decide +kernel
theorem v_law_1_law_form_here : visB (relS cs_law_1 (defScope s_law)) "_law_form_here" = true := by decide +kernel
theorem v_law_1_law_rows_here : visB (relS cs_law_1 (defScope s_law)) "_law_rows_here" = true := by decide +kernel
theorem l_law_law_due : locB (defScope s_law) "_law_due" = true := by decide +kernel
theorem ok_cs_law_2 : BlkOk N_law (defScope s_law) cs_law_2 [("_law_two", 8)] := blkOk_by (by decide +kernel)
theorem l_law_2_law_two : locB (relS cs_law_2 (defScope s_law)) "_law_two" = true := by decide +kernel
theorem g_law_2_leads : (relS cs_law_2 (defScope s_law)).names.lookup ("leads" : Str) = some NameKind.globalImplicit := by decide +kernel
theorem v_law_2_law_net_here : visB (relS cs_law_2 (defScope s_law)) "_law_net_here" = true := by decide +kernel
theorem v_law_2_law_two : visB (relS cs_law_2 (defScope s_law)) "_law_two" = true := by decide +kernel
theorem v_law_2_law_one : visB (relS cs_law_2 (defScope s_law)) "_law_one" = true := by decide +kernel
theorem l_law_law_again : locB (defScope s_law) "_law_again" = true := by decide +kernel
theorem ok_cs_law_3 : BlkOk N_law (defScope s_law) cs_law_3 [("_law_two", 8)] := blkOk_by (by decide +kernel)
theorem l_law_3_law_two : locB (relS cs_law_3 (defScope s_law)) "_law_two" = true := by decide +kernel
theorem g_law_3_leads : (relS cs_law_3 (defScope s_law)).names.lookup ("leads" : Str) = some NameKind.globalImplicit := by decide +kernel
theorem v_law_3_law_two : visB (relS cs_law_3 (defScope s_law)) "_law_two" = true := by decide +kernel
theorem v_law_3_law_one : visB (relS cs_law_3 (defScope s_law)) "_law_one" = true := by decide +kernel
theorem v_law_3_law_net_here : visB (relS cs_law_3 (defScope s_law)) "_law_net_here" = true := by decide +kernel
theorem l_law_law_line_here : locB (defScope s_law) "_law_line_here" = true := by decide +kernel
theorem l_law_law_told : locB (defScope s_law) "_law_told" = true := by decide +kernel
theorem l_law_law_demands : locB (defScope s_law) "_law_demands" = true := by decide +kernel
theorem g_law_law_chain : (defScope s_law).names.lookup ("_law_chain" : Str) = some NameKind.globalImplicit := by decide +kernel
theorem v_law_law_form_here : visB (defScope s_law) "_law_form_here" = true := by decide +kernel
theorem v_law_law_rows_here : visB (defScope s_law) "_law_rows_here" = true := by decide +kernel
theorem v_law_law_box_here : visB (defScope s_law) "_law_box_here" = true := by decide +kernel
theorem c_law_law_net_here : celB (defScope s_law) "_law_net_here" = true := by decide +kernel
theorem g_law_law_net : (defScope s_law).names.lookup ("_law_net" : Str) = some NameKind.globalImplicit := by decide +kernel
theorem c_law_law_form_here : celB (defScope s_law) "_law_form_here" = true := by decide +kernel
theorem g_law_law_form : (defScope s_law).names.lookup ("_law_form" : Str) = some NameKind.globalImplicit := by decide +kernel
theorem c_law_law_rows_here : celB (defScope s_law) "_law_rows_here" = true := by decide +kernel
theorem g_law_law_rows : (defScope s_law).names.lookup ("_law_rows" : Str) = some NameKind.globalImplicit := by decide +kernel
theorem g_law_law_take : (defScope s_law).names.lookup ("_law_take" : Str) = some NameKind.globalImplicit := by decide +kernel
theorem l_law_law_box_here : locB (defScope s_law) "_law_box_here" = true := by decide +kernel
theorem g_law_law_box : (defScope s_law).names.lookup ("_law_box" : Str) = some NameKind.globalImplicit := by decide +kernel
theorem v_law_law_script : visB (defScope s_law) "_law_script" = true := by decide +kernel
structure Tx (K : PySem.W.Frag) (mg : Str → Option Value) where
  C_Rest : Addr
  m_Rest : mg "Rest" = some (.ref C_Rest)
  C_Window : Addr
  m_Window : mg "Window" = some (.ref C_Window)
  C_Days : Addr
  m_Days : mg "Days" = some (.ref C_Days)
  C_Later : Addr
  m_Later : mg "Later" = some (.ref C_Later)
  C_Sooner : Addr
  m_Sooner : mg "Sooner" = some (.ref C_Sooner)
  C_Next : Addr
  m_Next : mg "Next" = some (.ref C_Next)
  C_Net : Addr
  m_Net : mg "Net" = some (.ref C_Net)
  a_is_number : Addr
  fd_is_number : FuncData
  F_is_number : Fun K "is_number" "is_number" s_is_number a_is_number fd_is_number
  b_is_number : Binds K fd_is_number P_is_number []
  k_is_number : PySem.W.keepIn K (.ref a_is_number) = true
  m_is_number : mg "is_number" = some (.ref a_is_number)
  a_is_name : Addr
  fd_is_name : FuncData
  F_is_name : Fun K "is_name" "is_name" s_is_name a_is_name fd_is_name
  b_is_name : Binds K fd_is_name P_is_name []
  k_is_name : PySem.W.keepIn K (.ref a_is_name) = true
  m_is_name : mg "is_name" = some (.ref a_is_name)
  a_leads : Addr
  fd_leads : FuncData
  F_leads : Fun K "leads" "leads" s_leads a_leads fd_leads
  b_leads : Binds K fd_leads P_leads []
  k_leads : PySem.W.keepIn K (.ref a_leads) = true
  m_leads : mg "leads" = some (.ref a_leads)
  a_Rest_init : Addr
  fd_Rest_init : FuncData
  F_Rest_init : Fun K "__init__" "Rest.__init__" s_Rest_init a_Rest_init fd_Rest_init
  b_Rest_init : Binds K fd_Rest_init P_Rest_init []
  k_Rest_init : PySem.W.keepIn K (.ref a_Rest_init) = true
  a_Rest_call : Addr
  fd_Rest_call : FuncData
  F_Rest_call : Fun K "__call__" "Rest.__call__" s_Rest_call a_Rest_call fd_Rest_call
  b_Rest_call : Binds K fd_Rest_call P_Rest_call []
  k_Rest_call : PySem.W.keepIn K (.ref a_Rest_call) = true
  a_Rest_forms : Addr
  fd_Rest_forms : FuncData
  F_Rest_forms : Fun K "forms" "Rest.forms" s_Rest_forms a_Rest_forms fd_Rest_forms
  b_Rest_forms : Binds K fd_Rest_forms P_Rest_forms []
  k_Rest_forms : PySem.W.keepIn K (.ref a_Rest_forms) = true
  a_Rest_period : Addr
  fd_Rest_period : FuncData
  F_Rest_period : Fun K "period" "Rest.period" s_Rest_period a_Rest_period fd_Rest_period
  b_Rest_period : Binds K fd_Rest_period P_Rest_period []
  k_Rest_period : PySem.W.keepIn K (.ref a_Rest_period) = true
  a_Rest_bend : Addr
  fd_Rest_bend : FuncData
  F_Rest_bend : Fun K "bend" "Rest.bend" s_Rest_bend a_Rest_bend fd_Rest_bend
  b_Rest_bend : Binds K fd_Rest_bend P_Rest_bend []
  k_Rest_bend : PySem.W.keepIn K (.ref a_Rest_bend) = true
  a_Rest_written : Addr
  fd_Rest_written : FuncData
  F_Rest_written : Fun K "written" "Rest.written" s_Rest_written a_Rest_written fd_Rest_written
  b_Rest_written : Binds K fd_Rest_written P_Rest_written []
  k_Rest_written : PySem.W.keepIn K (.ref a_Rest_written) = true
  a_Window_init : Addr
  cc_Window_init : Addr
  cda_Window_init : Addr
  fd_Window_init : FuncData
  F_Window_init : FunS K "__init__" "Window.__init__" s_Window_init a_Window_init fd_Window_init cc_Window_init cda_Window_init
  b_Window_init : Binds K fd_Window_init P_Window_init []
  ce_Window_init : ∃ cl cld csl, K.lookup cc_Window_init = some ⟨cl, cld, .cell (some (.ref C_Window)), csl⟩
  sd_Window_init : SupDef P K mg a_Window_init C_Window cc_Window_init cda_Window_init "self"
  k_Window_init : PySem.W.keepIn K (.ref a_Window_init) = true
  a_Window_after : Addr
  fd_Window_after : FuncData
  F_Window_after : Fun K "_after" "Window._after" s_Window_after a_Window_after fd_Window_after
  b_Window_after : Binds K fd_Window_after P_Window_after []
  k_Window_after : PySem.W.keepIn K (.ref a_Window_after) = true
  a_Days_init : Addr
  cc_Days_init : Addr
  cda_Days_init : Addr
  fd_Days_init : FuncData
  F_Days_init : FunS K "__init__" "Days.__init__" s_Days_init a_Days_init fd_Days_init cc_Days_init cda_Days_init
  b_Days_init : Binds K fd_Days_init P_Days_init []
  ce_Days_init : ∃ cl cld csl, K.lookup cc_Days_init = some ⟨cl, cld, .cell (some (.ref C_Days)), csl⟩
  sd_Days_init : SupDef P K mg a_Days_init C_Days cc_Days_init cda_Days_init "self"
  k_Days_init : PySem.W.keepIn K (.ref a_Days_init) = true
  a_Days_after : Addr
  fd_Days_after : FuncData
  F_Days_after : Fun K "_after" "Days._after" s_Days_after a_Days_after fd_Days_after
  b_Days_after : Binds K fd_Days_after P_Days_after []
  k_Days_after : PySem.W.keepIn K (.ref a_Days_after) = true
  a_joined : Addr
  fd_joined : FuncData
  F_joined : Fun K "joined" "joined" s_joined a_joined fd_joined
  b_joined : Binds K fd_joined P_joined []
  k_joined : PySem.W.keepIn K (.ref a_joined) = true
  m_joined : mg "joined" = some (.ref a_joined)
  a_Later_init : Addr
  cc_Later_init : Addr
  cda_Later_init : Addr
  fd_Later_init : FuncData
  F_Later_init : FunS K "__init__" "Later.__init__" s_Later_init a_Later_init fd_Later_init cc_Later_init cda_Later_init
  b_Later_init : Binds K fd_Later_init P_Later_init []
  ce_Later_init : ∃ cl cld csl, K.lookup cc_Later_init = some ⟨cl, cld, .cell (some (.ref C_Later)), csl⟩
  sd_Later_init : SupDef P K mg a_Later_init C_Later cc_Later_init cda_Later_init "self"
  k_Later_init : PySem.W.keepIn K (.ref a_Later_init) = true
  a_Later_after : Addr
  fd_Later_after : FuncData
  F_Later_after : Fun K "_after" "Later._after" s_Later_after a_Later_after fd_Later_after
  b_Later_after : Binds K fd_Later_after P_Later_after []
  k_Later_after : PySem.W.keepIn K (.ref a_Later_after) = true
  a_Sooner_init : Addr
  cc_Sooner_init : Addr
  cda_Sooner_init : Addr
  fd_Sooner_init : FuncData
  F_Sooner_init : FunS K "__init__" "Sooner.__init__" s_Sooner_init a_Sooner_init fd_Sooner_init cc_Sooner_init cda_Sooner_init
  b_Sooner_init : Binds K fd_Sooner_init P_Sooner_init []
  ce_Sooner_init : ∃ cl cld csl, K.lookup cc_Sooner_init = some ⟨cl, cld, .cell (some (.ref C_Sooner)), csl⟩
  sd_Sooner_init : SupDef P K mg a_Sooner_init C_Sooner cc_Sooner_init cda_Sooner_init "self"
  k_Sooner_init : PySem.W.keepIn K (.ref a_Sooner_init) = true
  a_Sooner_after : Addr
  fd_Sooner_after : FuncData
  F_Sooner_after : Fun K "_after" "Sooner._after" s_Sooner_after a_Sooner_after fd_Sooner_after
  b_Sooner_after : Binds K fd_Sooner_after P_Sooner_after []
  k_Sooner_after : PySem.W.keepIn K (.ref a_Sooner_after) = true
  a_Next_init : Addr
  cc_Next_init : Addr
  cda_Next_init : Addr
  fd_Next_init : FuncData
  F_Next_init : FunS K "__init__" "Next.__init__" s_Next_init a_Next_init fd_Next_init cc_Next_init cda_Next_init
  b_Next_init : Binds K fd_Next_init P_Next_init []
  ce_Next_init : ∃ cl cld csl, K.lookup cc_Next_init = some ⟨cl, cld, .cell (some (.ref C_Next)), csl⟩
  sd_Next_init : SupDef P K mg a_Next_init C_Next cc_Next_init cda_Next_init "self"
  k_Next_init : PySem.W.keepIn K (.ref a_Next_init) = true
  a_Next_after : Addr
  fd_Next_after : FuncData
  F_Next_after : Fun K "_after" "Next._after" s_Next_after a_Next_after fd_Next_after
  b_Next_after : Binds K fd_Next_after P_Next_after []
  k_Next_after : PySem.W.keepIn K (.ref a_Next_after) = true
  a_isrow : Addr
  fd_isrow : FuncData
  F_isrow : Fun K "_is_row" "_is_row" s_isrow a_isrow fd_isrow
  b_isrow : Binds K fd_isrow P_isrow []
  k_isrow : PySem.W.keepIn K (.ref a_isrow) = true
  m_isrow : mg "_is_row" = some (.ref a_isrow)
  a_alldists : Addr
  fd_alldists : FuncData
  F_alldists : Fun K "_all_dists" "_all_dists" s_alldists a_alldists fd_alldists
  b_alldists : Binds K fd_alldists P_alldists []
  k_alldists : PySem.W.keepIn K (.ref a_alldists) = true
  m_alldists : mg "_all_dists" = some (.ref a_alldists)
  a_allkappas : Addr
  fd_allkappas : FuncData
  F_allkappas : Fun K "_all_kappas" "_all_kappas" s_allkappas a_allkappas fd_allkappas
  b_allkappas : Binds K fd_allkappas P_allkappas []
  k_allkappas : PySem.W.keepIn K (.ref a_allkappas) = true
  m_allkappas : mg "_all_kappas" = some (.ref a_allkappas)
  a_Net_init : Addr
  fd_Net_init : FuncData
  F_Net_init : Fun K "__init__" "Net.__init__" s_Net_init a_Net_init fd_Net_init
  bs_Net_init : ∀ (a r : Value) (us : List Value), bindArgs fd_Net_init ⟨a :: us, [("rest", r)]⟩ = (newTuple us >>= fun t => pure [(("self" : Str), a), (("rest" : Str), r), (("rows" : Str), t)])
  k_Net_init : PySem.W.keepIn K (.ref a_Net_init) = true
  a_Net_row : Addr
  fd_Net_row : FuncData
  F_Net_row : Fun K "_row" "Net._row" s_Net_row a_Net_row fd_Net_row
  b_Net_row : Binds K fd_Net_row P_Net_row []
  k_Net_row : PySem.W.keepIn K (.ref a_Net_row) = true
  a_Net_error_of : Addr
  fd_Net_error_of : FuncData
  F_Net_error_of : Fun K "error_of" "Net.error_of" s_Net_error_of a_Net_error_of fd_Net_error_of
  b_Net_error_of : Binds K fd_Net_error_of P_Net_error_of []
  k_Net_error_of : PySem.W.keepIn K (.ref a_Net_error_of) = true
  a_Net_kappa : Addr
  fd_Net_kappa : FuncData
  F_Net_kappa : Fun K "kappa" "Net.kappa" s_Net_kappa a_Net_kappa fd_Net_kappa
  b_Net_kappa : Binds K fd_Net_kappa P_Net_kappa []
  k_Net_kappa : PySem.W.keepIn K (.ref a_Net_kappa) = true
  a_box : Addr
  fd_box : FuncData
  F_box : Fun K "_law_box" "_law_box" s_box a_box fd_box
  b_box : Binds K fd_box P_box []
  k_box : PySem.W.keepIn K (.ref a_box) = true
  m_box : mg "_law_box" = some (.ref a_box)
  a_take : Addr
  fd_take : FuncData
  F_take : Fun K "_law_take" "_law_take" s_take a_take fd_take
  b_take : Binds K fd_take P_take []
  k_take : PySem.W.keepIn K (.ref a_take) = true
  m_take : mg "_law_take" = some (.ref a_take)
  a_plain_form : Addr
  fd_plain_form : FuncData
  F_plain_form : Fun K "_law_plain_form" "_law_plain_form" s_plain_form a_plain_form fd_plain_form
  b_plain_form : Binds K fd_plain_form P_plain_form []
  k_plain_form : PySem.W.keepIn K (.ref a_plain_form) = true
  m_plain_form : mg "_law_plain_form" = some (.ref a_plain_form)
  a_form : Addr
  fd_form : FuncData
  F_form : Fun K "_law_form" "_law_form" s_form a_form fd_form
  b_form : Binds K fd_form P_form []
  k_form : PySem.W.keepIn K (.ref a_form) = true
  m_form : mg "_law_form" = some (.ref a_form)
  a_after : Addr
  fd_after : FuncData
  F_after : Fun K "_law_after" "_law_after" s_after a_after fd_after
  b_after : Binds K fd_after P_after []
  k_after : PySem.W.keepIn K (.ref a_after) = true
  m_after : mg "_law_after" = some (.ref a_after)
  a_made : Addr
  fd_made : FuncData
  F_made : Fun K "_law_made" "_law_made" s_made a_made fd_made
  b_made : Binds K fd_made P_made []
  k_made : PySem.W.keepIn K (.ref a_made) = true
  m_made : mg "_law_made" = some (.ref a_made)
  a_rows : Addr
  fd_rows : FuncData
  F_rows : Fun K "_law_rows" "_law_rows" s_rows a_rows fd_rows
  b_rows : Binds K fd_rows P_rows []
  k_rows : PySem.W.keepIn K (.ref a_rows) = true
  m_rows : mg "_law_rows" = some (.ref a_rows)
  a_net : Addr
  fd_net : FuncData
  F_net : Fun K "_law_net" "_law_net" s_net a_net fd_net
  b_net : Binds K fd_net P_net []
  k_net : PySem.W.keepIn K (.ref a_net) = true
  m_net : mg "_law_net" = some (.ref a_net)
  a_row : Addr
  fd_row : FuncData
  F_row : Fun K "_law_row" "_law_row" s_row a_row fd_row
  b_row : Binds K fd_row P_row []
  k_row : PySem.W.keepIn K (.ref a_row) = true
  m_row : mg "_law_row" = some (.ref a_row)
  a_line : Addr
  fd_line : FuncData
  F_line : Fun K "_law_line" "_law_line" s_line a_line fd_line
  b_line : Binds K fd_line P_line []
  k_line : PySem.W.keepIn K (.ref a_line) = true
  m_line : mg "_law_line" = some (.ref a_line)
  a_far : Addr
  fd_far : FuncData
  F_far : Fun K "_law_far" "_law_far" s_far a_far fd_far
  b_far : Binds K fd_far P_far []
  k_far : PySem.W.keepIn K (.ref a_far) = true
  m_far : mg "_law_far" = some (.ref a_far)
  a_gap : Addr
  fd_gap : FuncData
  F_gap : Fun K "_law_gap" "_law_gap" s_gap a_gap fd_gap
  b_gap : Binds K fd_gap P_gap []
  k_gap : PySem.W.keepIn K (.ref a_gap) = true
  m_gap : mg "_law_gap" = some (.ref a_gap)
  a_need : Addr
  fd_need : FuncData
  F_need : Fun K "_law_need" "_law_need" s_need a_need fd_need
  b_need : Binds K fd_need P_need []
  k_need : PySem.W.keepIn K (.ref a_need) = true
  m_need : mg "_law_need" = some (.ref a_need)
  a_lleads : Addr
  fd_lleads : FuncData
  F_lleads : Fun K "_law_leads" "_law_leads" s_lleads a_lleads fd_lleads
  b_lleads : Binds K fd_lleads P_lleads []
  k_lleads : PySem.W.keepIn K (.ref a_lleads) = true
  m_lleads : mg "_law_leads" = some (.ref a_lleads)
  a_chain : Addr
  fd_chain : FuncData
  F_chain : Fun K "_law_chain" "_law_chain" s_chain a_chain fd_chain
  b_chain : Binds K fd_chain P_chain []
  k_chain : PySem.W.keepIn K (.ref a_chain) = true
  m_chain : mg "_law_chain" = some (.ref a_chain)
  a_law : Addr
  fd_law : FuncData
  F_law : Fun K "law" "law" s_law a_law fd_law
  b_law : Binds K fd_law P_law []
  k_law : PySem.W.keepIn K (.ref a_law) = true
  m_law : mg "law" = some (.ref a_law)
  n_isinstance : mg "isinstance" = none
  n_int : mg "int" = none
  n_bool : mg "bool" = none
  n_max : mg "max" = none
  n_list : mg "list" = none
  n_str : mg "str" = none
  n_enumerate : mg "enumerate" = none
  n_len : mg "len" = none
  n_tuple : mg "tuple" = none
  n_min : mg "min" = none
  n_range : mg "range" = none
  n_sum : mg "sum" = none
  n_reversed : mg "reversed" = none
  n_repr : mg "repr" = none
  n_super : mg "super" = none
  t_PERIOD : Tok
  m_PERIOD : mg "PERIOD" = some (.int 2000 t_PERIOD)
  r_PERIOD : RelV (.int 2000) (.int 2000 t_PERIOD)
  m_lcm : mg "lcm" = some (.builtin "math.lcm")
  t_FORMS : Tok
  m_FORMS : mg "FORMS" = some (.int 6 t_FORMS)
  r_FORMS : RelV (.int 6) (.int 6 t_FORMS)
  t_BORDERS : Tok
  m_BORDERS : mg "BORDERS" = some (.int 12 t_BORDERS)
  r_BORDERS : RelV (.int 12) (.int 12 t_BORDERS)
  t_LETTERS : Tok
  m_LETTERS : mg "LETTERS" = some (.str "abcdefghijklmnopqrstuvwxyz" t_LETTERS)
  r_LETTERS : RelV (.str "abcdefghijklmnopqrstuvwxyz") (.str "abcdefghijklmnopqrstuvwxyz" t_LETTERS)
  t_DIGITS : Tok
  m_DIGITS : mg "DIGITS" = some (.str "0123456789" t_DIGITS)
  r_DIGITS : RelV (.str "0123456789") (.str "0123456789" t_DIGITS)
  t_MOST_ERROR : Tok
  m_MOST_ERROR : mg "MOST_ERROR" = some (.int 100 t_MOST_ERROR)
  r_MOST_ERROR : RelV (.int 100) (.int 100 t_MOST_ERROR)
  t_MOST_PLACES : Tok
  m_MOST_PLACES : mg "MOST_PLACES" = some (.int 12 t_MOST_PLACES)
  r_MOST_PLACES : RelV (.int 12) (.int 12 t_MOST_PLACES)
  kbm_leads_demand_other : KBinds K fd_leads P_leads ["demand", "other"] (fun (us ws : List Value) => match us, ws with | [u0], [w0, w1] => [u0, w0, w1] | _, _ => []) (fun (us ws : List V) => match us, ws with | [u0], [w0, w1] => [u0, w0, w1] | _, _ => [])
  cl_Window : Cls K C_Window
  mk_Window : Mk K C_Window a_Window_init
  ty_Window : ClsTy K C_Window
  kt_Window_Rest : PySem.W.kitOne K (.ref C_Window) (.ref C_Rest) = some true
  su_Window : SupAt K C_Window C_Window a_Rest_init "__init__"
  no_Window_text : NoAttr K C_Window "_text"
  no_Window_forms : NoAttr K C_Window "_forms"
  no_Window_period : NoAttr K C_Window "_period"
  no_Window_bend : NoAttr K C_Window "_bend"
  no_Window_width : NoAttr K C_Window "width"
  me_Window_after : Meth K C_Window "_after" a_Window_after
  me_Window_forms : Meth K C_Window "forms" a_Rest_forms
  me_Window_period : Meth K C_Window "period" a_Rest_period
  me_Window_bend : Meth K C_Window "bend" a_Rest_bend
  me_Window_written : Meth K C_Window "written" a_Rest_written
  co_Window : StX.CallO K C_Window a_Rest_call
  cl_Days : Cls K C_Days
  mk_Days : Mk K C_Days a_Days_init
  ty_Days : ClsTy K C_Days
  kt_Days_Rest : PySem.W.kitOne K (.ref C_Days) (.ref C_Rest) = some true
  su_Days : SupAt K C_Days C_Days a_Rest_init "__init__"
  no_Days_text : NoAttr K C_Days "_text"
  no_Days_forms : NoAttr K C_Days "_forms"
  no_Days_period : NoAttr K C_Days "_period"
  no_Days_bend : NoAttr K C_Days "_bend"
  no_Days_every : NoAttr K C_Days "every"
  no_Days_borders : NoAttr K C_Days "_borders"
  me_Days_after : Meth K C_Days "_after" a_Days_after
  me_Days_forms : Meth K C_Days "forms" a_Rest_forms
  me_Days_period : Meth K C_Days "period" a_Rest_period
  me_Days_bend : Meth K C_Days "bend" a_Rest_bend
  me_Days_written : Meth K C_Days "written" a_Rest_written
  co_Days : StX.CallO K C_Days a_Rest_call
  cl_Later : Cls K C_Later
  mk_Later : Mk K C_Later a_Later_init
  ty_Later : ClsTy K C_Later
  kt_Later_Rest : PySem.W.kitOne K (.ref C_Later) (.ref C_Rest) = some true
  su_Later : SupAt K C_Later C_Later a_Rest_init "__init__"
  no_Later_text : NoAttr K C_Later "_text"
  no_Later_forms : NoAttr K C_Later "_forms"
  no_Later_period : NoAttr K C_Later "_period"
  no_Later_bend : NoAttr K C_Later "_bend"
  no_Later_first : NoAttr K C_Later "first"
  no_Later_second : NoAttr K C_Later "second"
  me_Later_after : Meth K C_Later "_after" a_Later_after
  me_Later_forms : Meth K C_Later "forms" a_Rest_forms
  me_Later_period : Meth K C_Later "period" a_Rest_period
  me_Later_bend : Meth K C_Later "bend" a_Rest_bend
  me_Later_written : Meth K C_Later "written" a_Rest_written
  co_Later : StX.CallO K C_Later a_Rest_call
  cl_Sooner : Cls K C_Sooner
  mk_Sooner : Mk K C_Sooner a_Sooner_init
  ty_Sooner : ClsTy K C_Sooner
  kt_Sooner_Rest : PySem.W.kitOne K (.ref C_Sooner) (.ref C_Rest) = some true
  su_Sooner : SupAt K C_Sooner C_Sooner a_Rest_init "__init__"
  no_Sooner_text : NoAttr K C_Sooner "_text"
  no_Sooner_forms : NoAttr K C_Sooner "_forms"
  no_Sooner_period : NoAttr K C_Sooner "_period"
  no_Sooner_bend : NoAttr K C_Sooner "_bend"
  no_Sooner_first : NoAttr K C_Sooner "first"
  no_Sooner_second : NoAttr K C_Sooner "second"
  me_Sooner_after : Meth K C_Sooner "_after" a_Sooner_after
  me_Sooner_forms : Meth K C_Sooner "forms" a_Rest_forms
  me_Sooner_period : Meth K C_Sooner "period" a_Rest_period
  me_Sooner_bend : Meth K C_Sooner "bend" a_Rest_bend
  me_Sooner_written : Meth K C_Sooner "written" a_Rest_written
  co_Sooner : StX.CallO K C_Sooner a_Rest_call
  cl_Next : Cls K C_Next
  mk_Next : Mk K C_Next a_Next_init
  ty_Next : ClsTy K C_Next
  kt_Next_Rest : PySem.W.kitOne K (.ref C_Next) (.ref C_Rest) = some true
  su_Next : SupAt K C_Next C_Next a_Rest_init "__init__"
  no_Next_text : NoAttr K C_Next "_text"
  no_Next_forms : NoAttr K C_Next "_forms"
  no_Next_period : NoAttr K C_Next "_period"
  no_Next_bend : NoAttr K C_Next "_bend"
  no_Next_first : NoAttr K C_Next "first"
  no_Next_second : NoAttr K C_Next "second"
  me_Next_after : Meth K C_Next "_after" a_Next_after
  me_Next_forms : Meth K C_Next "forms" a_Rest_forms
  me_Next_period : Meth K C_Next "period" a_Rest_period
  me_Next_bend : Meth K C_Next "bend" a_Rest_bend
  me_Next_written : Meth K C_Next "written" a_Rest_written
  co_Next : StX.CallO K C_Next a_Rest_call
  cl_Net : Cls K C_Net
  mk_Net : Mk K C_Net a_Net_init
  no_Net_rest : NoAttr K C_Net "rest"
  no_Net_known : NoAttr K C_Net "_known"
  no_Net_dists : NoAttr K C_Net "_dists"
  no_Net_kappas : NoAttr K C_Net "_kappas"
  me_Net_row : Meth K C_Net "_row" a_Net_row
  me_Net_error_of : Meth K C_Net "error_of" a_Net_error_of
  me_Net_kappa : Meth K C_Net "kappa" a_Net_kappa


/-! ### rests as data -/
inductive Op where | later | sooner | next
inductive Plan where | win (w : Int) | days (bs : List Int) (p : Int) | op (o : Op) (a b : Plan)
def baseOf (bs : List Int) : Int := bs.getLast?.getD 0
def dayAt (bs : List Int) (p t : Int) : Int := match bs.find? (fun b => decide (t < b)) with
  | some b => b
  | none => baseOf bs + ((t - baseOf bs) / p + 1) * p
def mx (i j : Int) : Int := if j > i then j else i
def mn (i j : Int) : Int := if j < i then j else i
def lcmI (a b : Int) : Int := ((Nat.lcm a.natAbs b.natAbs : Nat) : Int)
def Plan.at : Plan → Int → Int
  | .win w, t => t + w
  | .days bs p, t => dayAt bs p t
  | .op .later a b, t => mx (a.at t) (b.at t)
  | .op .sooner a b, t => mn (a.at t) (b.at t)
  | .op .next a b, t => b.at (a.at t)
def Plan.forms : Plan → Nat
  | .win _ => 1
  | .days _ _ => 1
  | .op _ a b => 1 + a.forms + b.forms
def Plan.period : Plan → Int
  | .win _ => 1
  | .days _ p => p
  | .op _ a b => lcmI a.period b.period
def Plan.bend : Plan → Int
  | .win _ => 0
  | .days bs _ => baseOf bs
  | .op _ a b => mx a.bend b.bend
def Asc : Int → List Int → Prop
  | _, [] => True
  | l, b :: r => l < b ∧ Asc b r
def Plan.Ok : Plan → Prop
  | .win w => 1 ≤ w ∧ w ≤ 1000
  | .days bs p => Asc 0 bs ∧ (∀ b ∈ bs, b ≤ 1000) ∧ bs.length ≤ 12 ∧ 1 ≤ p ∧ p ≤ 2000
  | .op o a b => a.Ok ∧ b.Ok ∧ (Plan.op o a b).forms ≤ 6 ∧ (Plan.op o a b).period ≤ 2000
theorem Plan.forms_pos (p : Plan) : 0 < p.forms := by cases p <;> simp [Plan.forms] <;> omega
theorem lcmI_nn (a b : Int) : 0 ≤ lcmI a b := Int.natCast_nonneg _
theorem period_pos : ∀ {p : Plan}, p.Ok → 0 < p.period ∧ p.period ≤ 2000
  | .win _, _ => ⟨by show (0 : Int) < 1; decide, by show (1 : Int) ≤ 2000; decide⟩
  | .days bs p, h => by
    obtain ⟨_, _, _, h1, h2⟩ := h
    exact ⟨by show 0 < p; omega, h2⟩
  | .op o a b, h => by
    obtain ⟨ha, hb, _, h2⟩ := h
    have q1 := (period_pos ha).1
    have q2 := (period_pos hb).1
    refine ⟨?_, h2⟩
    show 0 < lcmI a.period b.period
    have : 0 < Nat.lcm a.period.natAbs b.period.natAbs := Nat.lcm_pos (by omega) (by omega)
    unfold lcmI
    omega
/-! ### rests as objects -/
section
variable {K : PySem.W.Frag} {mg : Str → Option Value}
def cOp (T : Tx K mg) : Op → Addr
  | .later => T.C_Later
  | .sooner => T.C_Sooner
  | .next => T.C_Next
abbrev nW1 : List Str := ["width"]
abbrev nD1 : List Str := ["every", "_borders"]
abbrev nO1 : List Str := ["first", "second"]
abbrev n4 : List Str := ["_text", "_forms", "_period", "_bend"]
abbrev nWin : List Str := ["_text", "_forms", "_period", "_bend", "width"]
abbrev nDays : List Str := ["_text", "_forms", "_period", "_bend", "every", "_borders"]
abbrev nOp : List Str := ["_text", "_forms", "_period", "_bend", "first", "second"]
inductive RestAt (T : Tx K mg) (F : Addr → Prop) (H : Hp) : Addr → Plan → Prop where
  | win {a dx : Addr} {tx : Str} {w : Int} (h : H a = some (.ins T.C_Window dx (FL nWin [.str tx, .int 1, .int 1, .int 0, .int w]))) (ht : tx.length ≤ 1000) : RestAt T F H a (.win w)
  | days {a dx l : Addr} {tx : Str} {bs : List Int} {p : Int} (h : H a = some (.ins T.C_Days dx (FL nDays [.str tx, .int 1, .int p, .int (baseOf bs), .int p, .ref l]))) (hl : H l = some (.lst (bs.map V.int))) (ht : tx.length ≤ 1000) (hF : ¬ F l) : RestAt T F H a (.days bs p)
  | op {a dx a1 a2 : Addr} {tx : Str} {o : Op} {p q : Plan} (h : H a = some (.ins (cOp T o) dx (FL nOp [.str tx, .int ((Plan.op o p q).forms : Nat), .int (Plan.op o p q).period, .int (Plan.op o p q).bend, .ref a1, .ref a2])))
      (h1 : RestAt T F H a1 p) (h2 : RestAt T F H a2 q) (ht : tx.length ≤ 1000 * (Plan.op o p q).forms) : RestAt T F H a (.op o p q)
theorem RestAt.up {T : Tx K mg} {F : Addr → Prop} {H H' : Hp} (e : Same H H') : ∀ {a : Addr} {p : Plan}, RestAt T F H a p → RestAt T F H' a p := by
  intro a p h
  induction h with
  | win h ht => exact .win (e _ _ h) ht
  | days h hl ht hF => exact .days (e _ _ h) (e _ _ hl) ht hF
  | op h h1 h2 ht i1 i2 => exact .op (e _ _ h) i1 i2 ht
/-- its class, among the five -/
inductive IsC (T : Tx K mg) : Addr → Prop where
  | win : IsC T T.C_Window
  | days : IsC T T.C_Days
  | op (o : Op) : IsC T (cOp T o)
theorem RestAt.four {T : Tx K mg} {F : Addr → Prop} {H : Hp} {a : Addr} {p : Plan} (h : RestAt T F H a p) : ∃ (C dx : Addr) (ns : List Str) (vs : List V) (tx : Str), IsC T C ∧ (ns = nW1 ∨ ns = nD1 ∨ ns = nO1) ∧ tx.length ≤ 1000 * p.forms ∧
    H a = some (.ins C dx (FL (n4 ++ ns) ([V.str tx, .int (p.forms : Nat), .int p.period, .int p.bend] ++ vs))) := by
  cases h with
  | win h ht => exact ⟨_, _, _, _, _, .win, .inl rfl, by show _ ≤ 1000 * 1; omega, h⟩
  | days h hl ht hF => exact ⟨_, _, _, _, _, .days, .inr (.inl rfl), by show _ ≤ 1000 * 1; omega, h⟩
  | op h h1 h2 ht => exact ⟨_, _, _, _, _, .op _, .inr (.inr rfl), ht, h⟩
theorem IsC.cl {T : Tx K mg} {C : Addr} (h : IsC T C) : Cls K C := by
  cases h with
  | win => exact T.cl_Window
  | days => exact T.cl_Days
  | op o => cases o <;> first | exact T.cl_Later | exact T.cl_Sooner | exact T.cl_Next
theorem IsC.ty {T : Tx K mg} {C : Addr} (h : IsC T C) : ClsTy K C := by
  cases h with
  | win => exact T.ty_Window
  | days => exact T.ty_Days
  | op o => cases o <;> first | exact T.ty_Later | exact T.ty_Sooner | exact T.ty_Next
theorem IsC.kt {T : Tx K mg} {C : Addr} (h : IsC T C) : PySem.W.kitOne K (.ref C) (.ref T.C_Rest) = some true := by
  cases h with
  | win => exact T.kt_Window_Rest
  | days => exact T.kt_Days_Rest
  | op o => cases o <;> first | exact T.kt_Later_Rest | exact T.kt_Sooner_Rest | exact T.kt_Next_Rest
theorem IsC.noText {T : Tx K mg} {C : Addr} (h : IsC T C) : NoAttr K C "_text" := by
  cases h with
  | win => exact T.no_Window_text
  | days => exact T.no_Days_text
  | op o => cases o <;> first | exact T.no_Later_text | exact T.no_Sooner_text | exact T.no_Next_text
theorem IsC.noForms {T : Tx K mg} {C : Addr} (h : IsC T C) : NoAttr K C "_forms" := by
  cases h with
  | win => exact T.no_Window_forms
  | days => exact T.no_Days_forms
  | op o => cases o <;> first | exact T.no_Later_forms | exact T.no_Sooner_forms | exact T.no_Next_forms
theorem IsC.noPeriod {T : Tx K mg} {C : Addr} (h : IsC T C) : NoAttr K C "_period" := by
  cases h with
  | win => exact T.no_Window_period
  | days => exact T.no_Days_period
  | op o => cases o <;> first | exact T.no_Later_period | exact T.no_Sooner_period | exact T.no_Next_period
theorem IsC.noBend {T : Tx K mg} {C : Addr} (h : IsC T C) : NoAttr K C "_bend" := by
  cases h with
  | win => exact T.no_Window_bend
  | days => exact T.no_Days_bend
  | op o => cases o <;> first | exact T.no_Later_bend | exact T.no_Sooner_bend | exact T.no_Next_bend
end
section
variable {w : World} {K : PySem.W.Frag} {mg : Str → Option Value} {base : Heap}
/-! ### is_number, Rest -/
def spNum : Sp := fun vs H Q _ => ∃ v lo hi : Int, vs = [.int v, .int lo, .int hi] ∧ lo ≤ v ∧ v ≤ hi ∧ Q (.bl true) H
theorem ok_is_number (T : Tx K mg) : FnOk P w K mg base CX0 1 T.a_is_number T.fd_is_number P_is_number spNum := by
  refine T.F_is_number.ok sc_is_number (fun vs H Q E h => ?_) (fun cdv A outer s H vs Q E hr h => ?_)
  · obtain ⟨v, lo, hi, rfl, _⟩ := h
    rfl
  · obtain ⟨v, lo, hi, rfl, h0, h1, k⟩ := h
    have nd := sc_is_number.nd
    refine ⟨_, (pss_one (ps_ret (pe_and (kcB b_isinstance (by decide) (by decide) (kc_isi K) g_is_number_isinstance T.n_isinstance (pa_cons (kv (i := 0) v_is_number_value) (pa_cons (kty_int g_is_number_int T.n_int) pa_nil))) (pe_and (pe_not (kcB b_isinstance (by decide) (by decide) (kc_isi K) g_is_number_isinstance T.n_isinstance (pa_cons (kv (i := 0) v_is_number_value) (pa_cons (kty_bool g_is_number_bool T.n_bool) pa_nil)))) (pe_one (pe_chain op_le op_le (kv (i := 1) v_is_number_least) (kv (i := 0) v_is_number_value) (kv (i := 2) v_is_number_most))))))), ?_⟩
    walk_at "ss"
    refine k_dt h0 ?_
    walk_at "ss"
    show Q (.bl (decide (v ≤ hi))) H
    rw [decide_eq_true h1]
    exact k
def spRestInit (T : Tx K mg) : Sp := fun vs H Q _ => ∃ (a C dx : Addr) (tx : Str) (f p b : Int), vs = [.ref a, .str tx, .int f, .int p, .int b] ∧ IsC T C ∧ H a = some (.ins C dx []) ∧ Q .non (upd H a (.ins C dx (FL n4 [.str tx, .int f, .int p, .int b])))
theorem ok_Rest_init (T : Tx K mg) : FnOk P w K mg base CX0 1 T.a_Rest_init T.fd_Rest_init P_Rest_init (spRestInit T) := by
  refine T.F_Rest_init.ok sc_Rest_init (fun vs H Q E h => ?_) (fun cdv A outer s H vs Q E hr h => ?_)
  · obtain ⟨a, C, dx, tx, f, p, b, rfl, _⟩ := h
    rfl
  · obtain ⟨a, C, dx, tx, f, p, b, rfl, hC, ha, k⟩ := h
    have nd := sc_Rest_init.nd
    refine ⟨_, (pss_cons (kps_fld K (kv (i := 0) v_Rest_init_self) (kv (i := 1) v_Rest_init_text))
      (pss_cons (kps_fld K (kv (i := 0) v_Rest_init_self) (kv (i := 2) v_Rest_init_forms))
      (pss_cons (kps_fld K (kv (i := 0) v_Rest_init_self) (kv (i := 3) v_Rest_init_period))
      (pss_one (kps_fld K (kv (i := 0) v_Rest_init_self) (kv (i := 4) v_Rest_init_bend)))))), ?_⟩
    walk_at "ss"
    refine k_putAt (ns := []) (vs := []) ha hC.cl hC.noText rfl (by decide +kernel) (by decide) ?_
    walk_at "ss"
    refine k_putTop hC.cl hC.noForms rfl (by decide +kernel) (by decide) ?_
    walk_at "ss"
    refine k_putTop hC.cl hC.noPeriod rfl (by decide +kernel) (by decide) ?_
    walk_at "ss"
    refine k_putTop hC.cl hC.noBend rfl (by decide +kernel) (by decide) ?_
    exact k
def spForms (T : Tx K mg) : Sp := fun vs H Q _ => ∃ F a p, vs = [.ref a] ∧ RestAt T F H a p ∧ Q (.int (p.forms : Nat)) H
def spPeriod (T : Tx K mg) : Sp := fun vs H Q _ => ∃ F a p, vs = [.ref a] ∧ RestAt T F H a p ∧ Q (.int p.period) H
def spBend (T : Tx K mg) : Sp := fun vs H Q _ => ∃ F a p, vs = [.ref a] ∧ RestAt T F H a p ∧ Q (.int p.bend) H
def spWritten (T : Tx K mg) : Sp := fun vs H Q _ => ∃ F a p, vs = [.ref a] ∧ RestAt T F H a p ∧ ∀ tx : Str, tx.length ≤ 1000 * p.forms → Q (.str tx) H
theorem pos4 {x : Str} {ns : List Str} {i : Nat} (h : pos? x n4 = some i) : pos? x (n4 ++ ns) = some i := by
  have key : ∀ (l : List Str) (i : Nat), pos? x l = some i → pos? x (l ++ ns) = some i := by
    intro l
    induction l with
    | nil => intro i h; cases h
    | cons n r ih =>
      intro i h
      unfold pos? at h
      show pos? x (n :: (r ++ ns)) = some i
      unfold pos?
      by_cases e : n == x
      · rw [if_pos e] at h ⊢
        exact h
      · rw [if_neg e] at h ⊢
        cases hp : pos? x r with
        | none => rw [hp] at h; cases h
        | some j =>
          rw [hp] at h
          rw [ih j hp]
          exact h
  exact key _ _ h
theorem ok_Rest_forms (T : Tx K mg) : FnOk P w K mg base CX0 1 T.a_Rest_forms T.fd_Rest_forms P_Rest_forms (spForms T) := by
  refine T.F_Rest_forms.ok sc_Rest_forms (fun vs H Q E h => ?_) (fun cdv A outer s H vs Q E hr h => ?_)
  · obtain ⟨F, a, p, rfl, _⟩ := h
    rfl
  · obtain ⟨F, a, p, rfl, ha, k⟩ := h
    obtain ⟨C, dx, ns, vs, tx, hC, _, ht, he⟩ := ha.four
    refine ⟨_, (pss_one (ps_ret (kpe_fld K (kv (i := 0) v_Rest_forms_self)))), ?_⟩
    walk_at "ss"
    exact k_fldAt he hC.cl hC.noForms (pos4 (x := "_forms") (i := 1) (by decide +kernel)) rfl k
theorem ok_Rest_period (T : Tx K mg) : FnOk P w K mg base CX0 1 T.a_Rest_period T.fd_Rest_period P_Rest_period (spPeriod T) := by
  refine T.F_Rest_period.ok sc_Rest_period (fun vs H Q E h => ?_) (fun cdv A outer s H vs Q E hr h => ?_)
  · obtain ⟨F, a, p, rfl, _⟩ := h
    rfl
  · obtain ⟨F, a, p, rfl, ha, k⟩ := h
    obtain ⟨C, dx, ns, vs, tx, hC, _, ht, he⟩ := ha.four
    refine ⟨_, (pss_one (ps_ret (kpe_fld K (kv (i := 0) v_Rest_period_self)))), ?_⟩
    walk_at "ss"
    exact k_fldAt he hC.cl hC.noPeriod (pos4 (x := "_period") (i := 2) (by decide +kernel)) rfl k
theorem ok_Rest_bend (T : Tx K mg) : FnOk P w K mg base CX0 1 T.a_Rest_bend T.fd_Rest_bend P_Rest_bend (spBend T) := by
  refine T.F_Rest_bend.ok sc_Rest_bend (fun vs H Q E h => ?_) (fun cdv A outer s H vs Q E hr h => ?_)
  · obtain ⟨F, a, p, rfl, _⟩ := h
    rfl
  · obtain ⟨F, a, p, rfl, ha, k⟩ := h
    obtain ⟨C, dx, ns, vs, tx, hC, _, ht, he⟩ := ha.four
    refine ⟨_, (pss_one (ps_ret (kpe_fld K (kv (i := 0) v_Rest_bend_self)))), ?_⟩
    walk_at "ss"
    exact k_fldAt he hC.cl hC.noBend (pos4 (x := "_bend") (i := 3) (by decide +kernel)) rfl k
theorem ok_Rest_written (T : Tx K mg) : FnOk P w K mg base CX0 1 T.a_Rest_written T.fd_Rest_written P_Rest_written (spWritten T) := by
  refine T.F_Rest_written.ok sc_Rest_written (fun vs H Q E h => ?_) (fun cdv A outer s H vs Q E hr h => ?_)
  · obtain ⟨F, a, p, rfl, _⟩ := h
    rfl
  · obtain ⟨F, a, p, rfl, ha, k⟩ := h
    obtain ⟨C, dx, ns, vs, tx, hC, _, ht, he⟩ := ha.four
    refine ⟨_, (pss_one (ps_ret (kpe_fld K (kv (i := 0) v_Rest_written_self)))), ?_⟩
    walk_at "ss"
    exact k_fldAt he hC.cl hC.noText (pos4 (x := "_text") (i := 0) (by decide +kernel)) rfl (k tx ht)
abbrev OneSp (T : Tx K mg) (sp0 : Sp) : Addr → Sp → Prop := fun C sp => IsC T C ∧ sp = sp0
theorem disp_forms (T : Tx K mg) : ∀ C sp, OneSp T (spForms T) C sp → ∃ g fd ps, Cls K C ∧ Meth K C "forms" g ∧ FnOk P w K mg base CX0 1 g fd ps sp ∧ Binds K fd ps [] := by
  rintro C sp ⟨hC, rfl⟩
  refine ⟨_, _, _, hC.cl, ?_, ok_Rest_forms T, T.b_Rest_forms⟩
  cases hC with
  | win => exact T.me_Window_forms
  | days => exact T.me_Days_forms
  | op o => cases o <;> first | exact T.me_Later_forms | exact T.me_Sooner_forms | exact T.me_Next_forms
theorem disp_period (T : Tx K mg) : ∀ C sp, OneSp T (spPeriod T) C sp → ∃ g fd ps, Cls K C ∧ Meth K C "period" g ∧ FnOk P w K mg base CX0 1 g fd ps sp ∧ Binds K fd ps [] := by
  rintro C sp ⟨hC, rfl⟩
  refine ⟨_, _, _, hC.cl, ?_, ok_Rest_period T, T.b_Rest_period⟩
  cases hC with
  | win => exact T.me_Window_period
  | days => exact T.me_Days_period
  | op o => cases o <;> first | exact T.me_Later_period | exact T.me_Sooner_period | exact T.me_Next_period
theorem disp_bend (T : Tx K mg) : ∀ C sp, OneSp T (spBend T) C sp → ∃ g fd ps, Cls K C ∧ Meth K C "bend" g ∧ FnOk P w K mg base CX0 1 g fd ps sp ∧ Binds K fd ps [] := by
  rintro C sp ⟨hC, rfl⟩
  refine ⟨_, _, _, hC.cl, ?_, ok_Rest_bend T, T.b_Rest_bend⟩
  cases hC with
  | win => exact T.me_Window_bend
  | days => exact T.me_Days_bend
  | op o => cases o <;> first | exact T.me_Later_bend | exact T.me_Sooner_bend | exact T.me_Next_bend
theorem disp_written (T : Tx K mg) : ∀ C sp, OneSp T (spWritten T) C sp → ∃ g fd ps, Cls K C ∧ Meth K C "written" g ∧ FnOk P w K mg base CX0 1 g fd ps sp ∧ Binds K fd ps [] := by
  rintro C sp ⟨hC, rfl⟩
  refine ⟨_, _, _, hC.cl, ?_, ok_Rest_written T, T.b_Rest_written⟩
  cases hC with
  | win => exact T.me_Window_written
  | days => exact T.me_Days_written
  | op o => cases o <;> first | exact T.me_Later_written | exact T.me_Sooner_written | exact T.me_Next_written
end

section
variable {w : World} {K : PySem.W.Frag} {mg : Str → Option Value} {base : Heap}
/-- a method that no rest has in its own dict -/
theorem no_meth {m : Str} {ns : List Str} {vs : List V} (h : nin m n4 = true) (h1 : nin m ["width", "every", "_borders", "first", "second"] = true) (hn : ns = nW1 ∨ ns = nD1 ∨ ns = nO1) : (FL (n4 ++ ns) vs).lookup m = none := by
  refine fl_no ?_
  unfold nin at h1
  simp only [nin, Bool.and_eq_true] at h h1 ⊢
  rcases hn with rfl | rfl | rfl <;> simp [nin, h, h1]
theorem k_rest {T : Tx K mg} {F : Addr → Prop} {H : Hp} {a : Addr} {p : Plan} {m : Str} {E : XK} {sp0 : Sp} {σ : L2.St} {Q : VK} {ta : TE} (ha : RestAt T F H a p) (h : nin m n4 = true) (h1 : nin m ["width", "every", "_borders", "first", "second"] = true)
    (hσ : ∀ Q : VK, Q (.ref a) H → ta σ H Q) (k : sp0 [.ref a] H Q E) : tMethP (OneSp T sp0) m E ta tNil σ H Q := by
  obtain ⟨C, dx, ns, vs, tx, hC, hn, _, he⟩ := ha.four
  refine hσ _ ?_
  exact ⟨a, C, dx, _, sp0, rfl, he, ⟨hC, rfl⟩, no_meth h h1 hn, k⟩
def spJoined (T : Tx K mg) : Sp := fun vs H Q _ => ∃ (F : Addr → Prop) (wd : Str) (a b : Addr) (o : Op) (p q : Plan), vs = [.str wd, .ref a, .ref b] ∧ wd.length ≤ 10 ∧ RestAt T F H a p ∧ RestAt T F H b q ∧ p.Ok ∧ q.Ok ∧ (Plan.op o p q).forms ≤ 6 ∧ (Plan.op o p q).period ≤ 2000 ∧
  ∀ (t : Addr) (tx : Str) (H' : Hp), tx.length ≤ 1000 * (Plan.op o p q).forms → Same H H' → H' t = some (.tup [.str tx, .int ((Plan.op o p q).forms : Nat), .int (Plan.op o p q).period, .int (Plan.op o p q).bend]) → Q (.ref t) H'
theorem ok_joined (T : Tx K mg) : FnOk P w K mg base CX0 2 T.a_joined T.fd_joined P_joined (spJoined T) := by
  refine T.F_joined.ok sc_joined (fun vs H Q E h => ?_) (fun cdv A outer s H vs Q E hr h => ?_)
  · obtain ⟨F, wd, a, b, o, p, q, rfl, _⟩ := h
    rfl
  · obtain ⟨F, wd, a, b, o, p, q, rfl, hw, ha, hb, op, oq, hf, hp, k⟩ := h
    have nd := sc_joined.nd
    refine ⟨_, (pss_cons (ps_for PassesOwn.never rfl (kpi_tup K (pe_tup (pa_cons (kv (i := 1) v_joined_first) (pa_cons (kv (i := 2) v_joined_second) pa_nil)))) (kgL (i := 3) nd l_joined_value) (pss_one (ps_if (pt_not (pt_val (kcB b_isinstance (by decide) (by decide) (kc_isi K) g_joined_isinstance T.n_isinstance (pa_cons (kv (i := 3) v_joined_value) (pa_cons (kcls g_joined_Rest T.m_Rest) pa_nil))))) (pss_one ps_never) pss_nil)))
      (pss_cons (ks_setL (i := 4) nd l_joined_forms (pe_op kop_add (pe_op kop_add pe_int (kpe_methP0 (disp_forms T) (hr.mono (by decide)) pass0 (kv (i := 1) v_joined_first))) (kpe_methP0 (disp_forms T) (hr.mono (by decide)) pass0 (kv (i := 2) v_joined_second))))
      (pss_cons (ps_if (pt_cmpR op_gt (kv (i := 4) v_joined_forms) (pe_glob g_joined_FORMS T.m_FORMS T.r_FORMS) (nomark _)) (pss_one ps_never) pss_nil)
      (pss_cons (ks_setL (i := 5) nd l_joined_period (pe_callBfun kcr_lcm g_joined_lcm T.m_lcm (pa_cons (kpe_methP0 (disp_period T) (hr.mono (by decide)) pass0 (kv (i := 1) v_joined_first)) (pa_cons (kpe_methP0 (disp_period T) (hr.mono (by decide)) pass0 (kv (i := 2) v_joined_second)) pa_nil))))
      (pss_cons (ps_if (pt_cmpR op_gt (kv (i := 5) v_joined_period) (pe_glob g_joined_PERIOD T.m_PERIOD T.r_PERIOD) (nomark _)) (pss_one ps_never) pss_nil)
      (pss_cons (ks_setL (i := 6) nd l_joined_bend (kcB b_max (by decide) (by decide) (kc_max2 rfl) g_joined_max T.n_max (pa_cons (kpe_methP0 (disp_bend T) (hr.mono (by decide)) pass0 (kv (i := 1) v_joined_first)) (pa_cons (kpe_methP0 (disp_bend T) (hr.mono (by decide)) pass0 (kv (i := 2) v_joined_second)) pa_nil))))
      (pss_one (ps_ret (pe_tup (pa_cons (pe_joined (.cons (pe_fmt (kv (i := 0) v_joined_word)) (.cons pe_str (.cons (pe_fmt (kpe_methP0 (disp_written T) (hr.mono (by decide)) pass0 (kv (i := 1) v_joined_first))) (.cons pe_str (.cons (pe_fmt (kpe_methP0 (disp_written T) (hr.mono (by decide)) pass0 (kv (i := 2) v_joined_second))) (.cons pe_str .nil))))))) (pa_cons (kv (i := 4) v_joined_forms) (pa_cons (kv (i := 5) v_joined_period) (pa_cons (kv (i := 6) v_joined_bend) pa_nil))))))))))))), ?_⟩
    walk_at "ss"
    intro tp np
    have e1 := same_new (o := .tup [V.ref a, V.ref b]) np
    have ha1 := ha.up e1
    have hb1 := hb.up e1
    refine k_iT (SqT.of upd_same) ?_
    refine k_forTup [V.ref a, V.ref b] (fun i σ H' => H' = upd H tp (.tup [V.ref a, V.ref b]) ∧ ∃ v, σ = [some (.str wd), some (.ref a), some (.ref b), v, none, none, none]) ⟨rfl, none, rfl⟩ ?_ ?_ ?_
    · rintro i σ H' _ ⟨rfl, _⟩
      exact SqT.of upd_same
    · rintro i x σ H' hx ⟨rfl, v, rfl⟩
      have hm := List.mem_of_getElem? hx
      have key : ∃ c r, x = V.ref c ∧ RestAt T F (upd H tp (.tup [V.ref a, V.ref b])) c r := by
        simp only [List.mem_cons, List.not_mem_nil, or_false] at hm
        rcases hm with rfl | rfl
        · exact ⟨a, p, rfl, ha1⟩
        · exact ⟨b, q, rfl, hb1⟩
      obtain ⟨c, r, rfl, hc⟩ := key
      obtain ⟨C, dx, ns, vs, tx, hC, hn, _, he⟩ := hc.four
      walk_at "ss"
      refine k_isiO (ty_own hC.ty he) hC.kt ?_
      walk_at "ss"
      exact ⟨rfl, _, rfl⟩
    · rintro σ H' ⟨rfl, v, rfl⟩
      walk_at "ss"
      refine k_rest ha1 (by decide +kernel) (by decide +kernel) (fun Q q => ⟨_, rfl, q⟩) ⟨F, a, p, rfl, ha1, ?_⟩
      walk_at "ss"
      refine k_rest hb1 (by decide +kernel) (by decide +kernel) (fun Q q => ⟨_, rfl, q⟩) ⟨F, b, q, rfl, hb1, ?_⟩
      walk_at "ss"
      have ef : (1 : Int) + (p.forms : Nat) + (q.forms : Nat) = ((Plan.op o p q).forms : Nat) := by
        show _ = ((1 + p.forms + q.forms : Nat) : Int)
        omega
      rw [ef]
      refine k_df (by omega) ?_
      walk_at "ss"
      refine k_rest ha1 (by decide +kernel) (by decide +kernel) (fun Q q => ⟨_, rfl, q⟩) ⟨F, a, p, rfl, ha1, ?_⟩
      walk_at "ss"
      refine k_rest hb1 (by decide +kernel) (by decide +kernel) (fun Q q => ⟨_, rfl, q⟩) ⟨F, b, q, rfl, hb1, ?_⟩
      walk_at "ss"
      have pp := period_pos op
      have pq := period_pos oq
      refine ⟨p.period, q.period, rfl, by omega, by omega, by omega, by omega, ?_⟩
      walk_at "ss"
      refine k_df (show ¬ (2000 < (Plan.op o p q).period) by omega) ?_
      walk_at "ss"
      refine k_rest ha1 (by decide +kernel) (by decide +kernel) (fun Q q => ⟨_, rfl, q⟩) ⟨F, a, p, rfl, ha1, ?_⟩
      walk_at "ss"
      refine k_rest hb1 (by decide +kernel) (by decide +kernel) (fun Q q => ⟨_, rfl, q⟩) ⟨F, b, q, rfl, hb1, ?_⟩
      walk_at "ss"
      have hff : (Plan.op o p q).forms = 1 + p.forms + q.forms := rfl
      have l1 : ("(" : Str).length = 1 := by decide +kernel
      have l2 : (", " : Str).length = 2 := by decide +kernel
      have l3 : (")" : Str).length = 1 := by decide +kernel
      refine k_fmtS (by omega) ?_
      refine k_jsV (by simp only [PySem.Str.length_append, len_empty]; omega) ?_
      walk_at "ss"
      refine k_jsV (by simp only [PySem.Str.length_append, len_empty, l1]; omega) ?_
      walk_at "ss"
      refine k_rest ha1 (by decide +kernel) (by decide +kernel) (fun Q q => ⟨_, rfl, q⟩) ⟨F, a, p, rfl, ha1, fun t1 ht1 => ?_⟩
      refine k_fmtS (by omega) ?_
      refine k_jsV (by simp only [PySem.Str.length_append, len_empty, l1]; omega) ?_
      walk_at "ss"
      refine k_jsV (by simp only [PySem.Str.length_append, len_empty, l1, l2]; omega) ?_
      walk_at "ss"
      refine k_rest hb1 (by decide +kernel) (by decide +kernel) (fun Q q => ⟨_, rfl, q⟩) ⟨F, b, q, rfl, hb1, fun t2 ht2 => ?_⟩
      refine k_fmtS (by omega) ?_
      refine k_jsV (by simp only [PySem.Str.length_append, len_empty, l1, l2]; omega) ?_
      walk_at "ss"
      refine k_jsV (by simp only [PySem.Str.length_append, len_empty, l1, l2, l3]; omega) ?_
      walk_at "ss"
      intro t nt
      exact k t _ _ (by simp only [PySem.Str.length_append, len_empty, l1, l2, l3]; omega) (e1.trans (same_new nt)) upd_same

def spWinInit (T : Tx K mg) : Sp := fun vs H Q _ => ∃ (F : Addr → Prop) (a dx : Addr) (n : Int), vs = [.ref a, .int n] ∧ 1 ≤ n ∧ n ≤ 1000 ∧ H a = some (.ins T.C_Window dx []) ∧ ∀ H', SameBut a H H' → RestAt T F H' a (.win n) → Q .non H'
theorem ok_Window_init (T : Tx K mg) : FnOk P w K mg base CX0 2 T.a_Window_init T.fd_Window_init P_Window_init (spWinInit T) := by
  obtain ⟨cl, cld, csl, hce⟩ := T.ce_Window_init
  refine T.F_Window_init.ok sc_Window_init hce T.b_Window_init (fun vs H Q E h => ?_) (fun A outer s H vs Q E hr h => ?_)
  · obtain ⟨F, a, dx, n, rfl, _⟩ := h
    rfl
  · obtain ⟨F, a, dx, n, rfl, h0, h1, ha, k⟩ := h
    have nd := sc_Window_init.nd
    refine ⟨_, (psa_cons (pst_of (ps_if (pt_not (pt_val (pe_call (ok_is_number T) (hr.mono (by first | decide | omega)) g_Window_init_is_number T.m_is_number T.k_is_number T.b_is_number .nil pass0 (pa_cons (kv (i := 1) v_Window_init_width) (pa_cons pe_int (pa_cons pe_int pa_nil)))))) (pss_one ps_never) pss_nil))
      (psa_cons (kpst_super K T.sd_Window_init rfl rfl g_Window_init_super fr_Window_init cc_look rfl (locB_ok l_Window_init_self) (by decide) (ok_Rest_init T) (hr.mono (by decide)) T.b_Rest_init .nil pass0 (pa_cons (pe_joined (.cons pe_str (.cons (pe_fmt (kv (i := 1) v_Window_init_width)) .nil))) (pa_cons pe_int (pa_cons pe_int (pa_cons pe_int pa_nil)))))
      (psa_one (pst_of (kps_fld K (kv (i := 0) v_Window_init_self) (kv (i := 1) v_Window_init_width)))))), ?_⟩
    walk_at "ss"
    refine ⟨n, 1, 1000, rfl, h0, h1, ?_⟩
    walk_at "ss"
    refine k_sup rfl ha T.su_Window fun q H1 nq e1 s1 hq => ?_
    walk_at "ss"
    have l1 : ("window " : Str).length = 7 := by decide +kernel
    have l2 : (Str.ofString (toString n)).length ≤ 5 := len_text (k := 4) (by decide) (by omega)
    refine k_jsV (by simp only [PySem.Str.length_append, len_empty, l1]; omega) ?_
    walk_at "ss"
    refine k_fmtI (by omega) ?_
    refine k_jsV (by simp only [PySem.Str.length_append, len_empty, l1]; omega) ?_
    walk_at "ss"
    refine ⟨hq, ?_⟩
    refine ⟨a, _, dx, _, 1, 1, 0, rfl, .win, s1 _ _ ha, ?_⟩
    walk_at "ss"
    refine k_putTop T.cl_Window T.no_Window_width rfl (by decide +kernel) (by decide) ?_
    exact k _ ((SameBut.of s1).put) (.win upd_same (by simp only [PySem.Str.length_append, len_empty, l1]; omega))
end

section
variable {w : World} {K : PySem.W.Frag} {mg : Str → Option Value} {base : Heap}
theorem baseOf_snoc (l : List Int) (b : Int) : baseOf (l ++ [b]) = b := by simp [baseOf]
theorem asc_lt : ∀ {l : Int} {bs : List Int}, Asc l bs → ∀ b ∈ bs, l < b
  | _, [], _, b, hb => by cases hb
  | l, c :: r, h, b, hb => by
    obtain ⟨h1, h2⟩ := h
    rcases List.mem_cons.mp hb with rfl | hb
    · exact h1
    · exact Int.lt_trans h1 (asc_lt h2 b hb)
theorem txtJoin_len (a : Str) (ys : List Str) : (Txt.join a ys).length ≤ (ys.map (·.length)).sum + ys.length * a.length := by
  show (Builtin.Str.glued a ys).length ≤ _
  rw [StrLaws.glued_eq_join]
  exact StrLaws.join_length_le a ys
theorem sum_le {B : Nat} : ∀ {ys : List Str}, (∀ y ∈ ys, y.length ≤ B) → (ys.map (·.length)).sum ≤ ys.length * B
  | [], _ => Nat.zero_le _
  | y :: r, h => by
    have h1 := h y (List.mem_cons_self ..)
    have h2 := sum_le (ys := r) fun z hz => h z (List.mem_cons_of_mem _ hz)
    simp only [List.map_cons, List.sum_cons, List.length_cons, Nat.add_mul, Nat.one_mul]
    omega
def daysW (ys : List Str) (p : Int) : List Str := [("days" : Str)] ++ ys ++ [("then" : Str), Str.ofString (toString p)]
def spDaysInit (T : Tx K mg) : Sp := fun vs H Q _ => ∃ (F : Addr → Prop) (a dx l : Addr) (bs : List Int) (p : Int), (∀ x, F x → H x ≠ none) ∧ vs = [.ref a, .ref l, .int p] ∧ (Plan.days bs p).Ok ∧ H a = some (.ins T.C_Days dx []) ∧ H l = some (.lst (bs.map V.int)) ∧ ∀ H', SameBut a H H' → RestAt T F H' a (.days bs p) → Q .non H'
theorem ok_Days_init (T : Tx K mg) : FnOk P w K mg base CX0 2 T.a_Days_init T.fd_Days_init P_Days_init (spDaysInit T) := by
  obtain ⟨cl, cld, csl, hce⟩ := T.ce_Days_init
  refine T.F_Days_init.ok sc_Days_init hce T.b_Days_init (fun vs H Q E h => ?_) (fun A outer s H vs Q E hr h => ?_)
  · obtain ⟨F, a, dx, l, bs, p, _, rfl, _⟩ := h
    rfl
  · obtain ⟨F, a, dx, l, bs, p, hFH, rfl, ⟨hasc, hle, hlen, hp1, hp2⟩, ha, hl, k⟩ := h
    have nd := sc_Days_init.nd
    refine ⟨_, (psa_cons (pst_of (ps_if (pt_not (pt_val (kcB b_isinstance (by decide) (by decide) (kc_isiT K) g_Days_init_isinstance T.n_isinstance (pa_cons (kv (i := 1) v_Days_init_borders) (pa_cons (pe_tup (pa_cons (kty_list g_Days_init_list T.n_list) (pa_cons (kty_tuple g_Days_init_tuple T.n_tuple) pa_nil))) pa_nil))))) (pss_one ps_never) pss_nil))
      (psa_cons (pst_of (ps_if (pt_cmpR op_gt (kcB b_len (by decide) (by decide) (kc_len K) g_Days_init_len T.n_len (pa_cons (kv (i := 1) v_Days_init_borders) pa_nil)) (pe_glob g_Days_init_BORDERS T.m_BORDERS T.r_BORDERS) (nomark _)) (pss_one ps_never) pss_nil))
      (psa_cons (pst_of (ks_setL (i := 4) nd l_Days_init_last pe_int))
      (psa_cons (pst_of (ps_for PassesOwn.never rfl (kpi_enum K g_Days_init_enumerate T.n_enumerate (pa_cons (kv (i := 1) v_Days_init_borders) pa_nil)) (kpg_tup K 2 rfl (pgs_cons (kgL (i := 5) nd l_Days_init_at) (pgs_cons (kgL (i := 6) nd l_Days_init_border) pgs_nil))) (pss_cons (ps_if (pt_not (pt_val (pe_call (ok_is_number T) (hr.mono (by first | decide | omega)) g_Days_init_is_number T.m_is_number T.k_is_number T.b_is_number .nil pass0 (pa_cons (kv (i := 6) v_Days_init_border) (pa_cons (pe_op kop_add (kv (i := 4) v_Days_init_last) pe_int) (pa_cons pe_int pa_nil)))))) (pss_one ps_never) pss_nil)
      (pss_one (ks_setL (i := 4) nd l_Days_init_last (kv (i := 6) v_Days_init_border))))))
      (psa_cons (pst_of (ps_if (pt_not (pt_val (pe_call (ok_is_number T) (hr.mono (by first | decide | omega)) g_Days_init_is_number T.m_is_number T.k_is_number T.b_is_number .nil pass0 (pa_cons (kv (i := 2) v_Days_init_every) (pa_cons pe_int (pa_cons pe_int pa_nil)))))) (pss_one ps_never) pss_nil))
      (psa_cons (pst_of (ks_setL (i := 7) nd l_Days_init_words (pe_op kop_add (pe_op kop_add (pe_lst (pa_cons pe_str pa_nil)) (pe_lc (own := [("border", 6)]) rfl nd (kpi_list K (kv (i := 1) v_Days_init_borders)) ok_cs_Days_init_1 (fun _ _ _ _ _ => (kgL (i := 6) nd l_Days_init_1_border)) (fun _ _ _ _ _ => pts_nil) (fun _ _ _ _ _ => (kcT b_str (by decide) (by decide) kc_str g_Days_init_1_str T.n_str (pa_cons (kv (i := 6) v_Days_init_1_border) pa_nil))))) (pe_lst (pa_cons pe_str (pa_cons (kcT b_str (by decide) (by decide) kc_str g_Days_init_str T.n_str (pa_cons (kv (i := 2) v_Days_init_every) pa_nil)) pa_nil))))))
      (psa_cons (kpst_super K T.sd_Days_init rfl rfl g_Days_init_super fr_Days_init cc_look rfl (locB_ok l_Days_init_self) (by decide) (ok_Rest_init T) (hr.mono (by decide)) T.b_Rest_init .nil pass0 (pa_cons (kpe_join K pe_str (kv (i := 7) v_Days_init_words)) (pa_cons pe_int (pa_cons (kv (i := 2) v_Days_init_every) (pa_cons (kv (i := 4) v_Days_init_last) pa_nil)))))
      (psa_cons (pst_of (kps_fld K (kv (i := 0) v_Days_init_self) (kv (i := 2) v_Days_init_every)))
      (psa_one (pst_of (kps_fld K (kv (i := 0) v_Days_init_self) (kcT b_list (by decide) (by decide) (kc_list K) g_Days_init_list T.n_list (pa_cons (kv (i := 1) v_Days_init_borders) pa_nil))))))))))))), ?_⟩
    walk_at "ss"
    intro t1 n1
    generalize e1 : upd H t1 _ = H1
    have s1 := upd_sm e1 n1
    have h1 := upd_at e1
    have hl1 := s1 _ _ hl
    have ha1 := s1 _ _ ha
    clear e1
    walk_at "ss"
    refine k_df (by rw [List.length_map]; omega) ?_
    walk_at "ss"
    refine ⟨l, _, rfl, SqL.of hl1, ?_⟩
    refine k_forIt (walk_enum (xs := bs.map V.int)) (fun i σ H' => ∃ dn rs v5 v6, bs = dn ++ rs ∧ dn.length = i ∧ Asc (baseOf dn) rs ∧ σ = [some (V.ref a), some (V.ref l), some (V.int p), some (V.ref T.C_Days), some (V.int (baseOf dn)), v5, v6, none] ∧ Same H1 H') ⟨[], bs, none, none, rfl, rfl, hasc, rfl, Same.refl _⟩ ?_ ?_ ?_
    · rintro i σ H' _ ⟨dn, rs, v5, v6, _, _, _, _, sm⟩
      exact SqL.of (sm _ _ hl1)
    · rintro i x σ H' H'' hi ⟨dn, rs, v5, v6, eb, ei, hrs, rfl, sm⟩ ⟨tp, y1, y2, rfl, nt, rfl, ey1, ey2⟩
      obtain rfl : V.int (i : Nat) = y1 := Option.some.inj ey1
      have ey2 : (bs.map V.int)[i]? = some y2 := ey2
      rw [List.length_map] at hi
      cases rs with
      | nil => rw [eb, List.append_nil] at hi; omega
      | cons c r =>
        have hc : y2 = V.int c := by
          rw [eb, List.map_append, List.getElem?_append_right (by simp [ei]), List.length_map, ei] at ey2
          simp at ey2
          exact ey2.symm
        subst hc
        obtain ⟨hc1, hc2⟩ := hrs
        have hc3 := hle c (by rw [eb]; simp)
        walk_at "ss"
        refine ⟨c, baseOf dn + 1, 1000, rfl, by omega, hc3, ?_⟩
        walk_at "ss"
        exact ⟨dn ++ [c], r, _, _, by rw [eb]; simp, by simp [ei], by rw [baseOf_snoc]; exact hc2, by rw [baseOf_snoc]; rfl, sm.trans (same_new nt)⟩
    · rintro σ H2 ⟨dn, rs, v5, v6, eb, ei, hrs, rfl, sm⟩
      have er : rs = [] := by
        have := congrArg List.length eb
        rw [List.length_append, ei, List.length_map] at this
        exact List.length_eq_zero_iff.mp (by omega)
      subst er
      rw [List.append_nil] at eb
      subst eb
      have sm0 := sm
      have hl2 := sm _ _ hl1
      have ha2 := sm _ _ ha1
      walk_at "ss"
      refine ⟨p, 1, 2000, rfl, hp1, hp2, ?_⟩
      walk_at "ss"
      intro t3 n3
      generalize e3 : upd H2 t3 _ = H3
      have s3 := upd_sm e3 n3
      have h3 := upd_at e3
      clear e3
      walk_at "ss"
      refine k_iL (SqL.of (s3 _ _ hl2)) ?_
      intro D nD
      refine k_lcList (bs.map V.int) (fun i H' => ∃ ys : List Str, ys.length = i ∧ (∀ y ∈ ys, y.length ≤ 5) ∧ H' D = some (.lst (ys.map V.str)) ∧ SameBut D H3 H') ⟨[], rfl, fun y hy => (by cases hy), upd_same, (SameBut.refl _ _).put⟩ ?_ ?_ ?_
      · rintro i H' _ ⟨ys, _, _, hD, sm⟩
        exact SqL.of (sm _ _ (ne_of_none (s3 _ _ hl2) nD) (s3 _ _ hl2))
      · rintro i x H' hx ⟨ys, ey, hy, hD, sm⟩
        have hm := List.mem_of_getElem? hx
        obtain ⟨z, hz, rfl⟩ := List.mem_map.mp hm
        have hi := (List.getElem?_eq_some_iff.mp hx).1
        rw [List.length_map] at hi
        have hz1 := hle z hz
        have hz0 := asc_lt hasc z hz
        refine k_gName ?_
        refine ⟨rfl, ?_⟩
        walk_at "ss"
        refine k_str1 (by omega) ?_
        refine ⟨_, hD, small_lt (by rw [List.length_map]; omega), ys ++ [Str.ofString (toString z)], by simp [ey], ?_, by rw [upd_same, List.map_append]; rfl, sm.put⟩
        intro y hy'
        rcases List.mem_append.mp hy' with h | h
        · exact hy y h
        · rw [List.mem_singleton] at h
          subst h
          exact len_text (k := 4) (by decide) (by omega)
      · rintro H4 ⟨ys, ey, hy, hD, sm⟩
        rw [List.length_map] at ey
        have h34 := sm _ _ (ne_of_none h3 nD) h3
        have ha4 := sm _ _ (ne_of_none (s3 _ _ ha2) nD) (s3 _ _ ha2)
        have hl4 := sm _ _ (ne_of_none (s3 _ _ hl2) nD) (s3 _ _ hl2)
        have sH4 : Same H H4 := fun b o h => sm b o (ne_of_none (s3 _ _ (sm0 _ _ (s1 _ _ h))) nD) (s3 _ _ (sm0 _ _ (s1 _ _ h)))
        refine k_addL h34 hD (by simp; omega) ?_
        intro t5 n5
        generalize e5 : upd H4 t5 _ = H5
        have s5 := upd_sm e5 n5
        have h5 := upd_at e5
        clear e5
        walk_at "ss"
        refine k_str1 (by omega) ?_
        walk_at "ss"
        intro t6 n6
        generalize e6 : upd H5 t6 _ = H6
        have s6 := upd_sm e6 n6
        have h6 := upd_at e6
        clear e6
        refine k_addL (s6 _ _ h5) h6 (by simp; omega) ?_
        intro t7 n7
        generalize e7 : upd H6 t7 _ = H7
        have s7 := upd_sm e7 n7
        have h7 := upd_at e7
        clear e7
        have s47 := (s5.trans s6).trans s7
        walk_at "ss"
        refine k_sup rfl (s47 _ _ ha4) T.su_Days fun q H8 nq e8 s8 hq => ?_
        walk_at "ss"
        have l1 : ("days" : Str).length = 4 := by decide +kernel
        have l2 : ("then" : Str).length = 4 := by decide +kernel
        have l3 : (" " : Str).length = 1 := by decide +kernel
        have l4 : (Str.ofString (toString p)).length ≤ 5 := len_text (k := 4) (by decide) (by omega)
        have q7 : H8 t7 = some (.lst ((daysW ys p).map V.str)) := by
          rw [s8 _ _ h7]
          unfold daysW
          simp only [List.map_append, List.map_cons, List.map_nil]
        have lz : ∀ y ∈ daysW ys p, y.length ≤ 5 := by
          intro y hy'
          unfold daysW at hy'
          simp only [List.mem_append, List.mem_cons, List.not_mem_nil, or_false] at hy'
          rcases hy' with (rfl | h) | rfl | rfl
          · omega
          · exact hy y h
          · omega
          · exact l4
        have ll : (daysW ys p).length ≤ 15 := by
          unfold daysW
          simp only [List.length_append, List.length_cons, List.length_nil]
          omega
        have lsum := sum_le lz
        have lj := txtJoin_len " " (daysW ys p)
        have lm1 : (daysW ys p).length * 5 ≤ 15 * 5 := Nat.mul_le_mul_right 5 ll
        rw [l3] at lj
        refine k_joinL (SqL.of q7) (by rw [l3]; omega) fun out eo => ?_
        walk_at "ss"
        refine ⟨hq, ?_⟩
        refine ⟨a, _, dx, _, 1, p, baseOf bs, rfl, .days, s8 _ _ (s47 _ _ ha4), ?_⟩
        walk_at "ss"
        refine k_putTop T.cl_Days T.no_Days_every rfl (by decide +kernel) (by decide) ?_
        walk_at "ss"
        have hl8 := s8 _ _ (s47 _ _ hl4)
        have nla : l ≠ a := ne_of hl8 (s8 _ _ (s47 _ _ ha4)) (by intro z; cases z)
        refine k_listL (SqL.of ((upd_ne nla).trans hl8)) ?_
        intro l2 n9
        have na9 : a ≠ l2 := fun z => by rw [← z, upd_same] at n9; cases n9
        walk_at "ss"
        refine k_putAt ((upd_ne na9).trans upd_same) T.cl_Days T.no_Days_borders rfl (by decide +kernel) (by decide) ?_
        refine k _ ?_ (.days upd_same ((upd_ne (Ne.symm na9)).trans upd_same) (by rw [eo]; omega) (fun z => ?_))
        · refine SameBut.put ?_
          intro b o nb hb
          rw [upd_ne, upd_ne nb]
          · exact s8 _ _ (s47 _ _ (sH4 _ _ hb))
          · intro z
            rw [← z, upd_ne nb, s8 _ _ (s47 _ _ (sH4 _ _ hb))] at n9
            cases n9
        · cases hb : H l2 with
          | none => exact hFH _ z hb
          | some o =>
            rw [upd_ne (Ne.symm na9), s8 _ _ (s47 _ _ (sH4 _ _ hb))] at n9
            cases n9
end

section
variable {w : World} {K : PySem.W.Frag} {mg : Str → Option Value} {base : Heap}
theorem RestAt.upBut {T : Tx K mg} {F : Addr → Prop} {H H' : Hp} {z C dx : Addr} (hz : H z = some (.ins C dx [])) (e : SameBut z H H') : ∀ {a : Addr} {p : Plan}, RestAt T F H a p → RestAt T F H' a p := by
  intro a p h
  induction h with
  | win h ht => exact .win (e _ _ (ne_of h hz (by intro q; cases q)) h) ht
  | days h hl ht hF => exact .days (e _ _ (ne_of h hz (by intro q; cases q)) h) (e _ _ (ne_of hl hz (by intro q; cases q)) hl) ht hF
  | op h h1 h2 ht i1 i2 => exact .op (e _ _ (ne_of h hz (by intro q; cases q)) h) i1 i2 ht
def spOpInit (T : Tx K mg) (o : Op) : Sp := fun vs H Q _ => ∃ (F : Addr → Prop) (a dx a1 a2 : Addr) (p q : Plan), vs = [.ref a, .ref a1, .ref a2] ∧ (Plan.op o p q).Ok ∧ H a = some (.ins (cOp T o) dx []) ∧ RestAt T F H a1 p ∧ RestAt T F H a2 q ∧ ∀ H', SameBut a H H' → RestAt T F H' a (.op o p q) → Q .non H'
theorem ok_Later_init (T : Tx K mg) : FnOk P w K mg base CX0 3 T.a_Later_init T.fd_Later_init P_Later_init (spOpInit T .later) := by
  obtain ⟨cl, cld, csl, hce⟩ := T.ce_Later_init
  refine T.F_Later_init.ok sc_Later_init hce T.b_Later_init (fun vs H Q E h => ?_) (fun A outer s H vs Q E hr h => ?_)
  · obtain ⟨F, a, dx, a1, a2, p, q, rfl, _⟩ := h
    rfl
  · obtain ⟨F, a, dx, a1, a2, p, q, rfl, ⟨op, oq, hf, hp⟩, ha, h1, h2, k⟩ := h
    have nd := sc_Later_init.nd
    have ha : H a = some (.ins T.C_Later dx []) := ha
    refine ⟨_, (psa_cons (pst_of (ps_asg (pe_call (ok_joined T) (hr.mono (by first | decide | omega)) g_Later_init_joined T.m_joined T.k_joined T.b_joined .nil pass0 (pa_cons pe_str (pa_cons (kv (i := 1) v_Later_init_first) (pa_cons (kv (i := 2) v_Later_init_second) pa_nil)))) (kpg_tup K 4 rfl (pgs_cons (kgL (i := 4) nd l_Later_init_text) (pgs_cons (kgL (i := 5) nd l_Later_init_forms) (pgs_cons (kgL (i := 6) nd l_Later_init_period) (pgs_cons (kgL (i := 7) nd l_Later_init_bend) pgs_nil)))))))
      (psa_cons (kpst_super K T.sd_Later_init rfl rfl g_Later_init_super fr_Later_init cc_look rfl (locB_ok l_Later_init_self) (by decide) (ok_Rest_init T) (hr.mono (by decide)) T.b_Rest_init .nil pass0 (pa_cons (kv (i := 4) v_Later_init_text) (pa_cons (kv (i := 5) v_Later_init_forms) (pa_cons (kv (i := 6) v_Later_init_period) (pa_cons (kv (i := 7) v_Later_init_bend) pa_nil)))))
      (psa_cons (pst_of (kps_fld K (kv (i := 0) v_Later_init_self) (kv (i := 1) v_Later_init_first)))
      (psa_one (pst_of (kps_fld K (kv (i := 0) v_Later_init_self) (kv (i := 2) v_Later_init_second))))))), ?_⟩
    walk_at "ss"
    refine ⟨F, _, a1, a2, .later, p, q, rfl, by decide +kernel, h1, h2, op, oq, hf, hp, fun t tx H1 htx s1 ht => ?_⟩
    walk_at "ss"
    refine k_sup rfl (s1 _ _ ha) T.su_Later fun qq H2 nq e2 s2 hq => ?_
    walk_at "ss"
    refine ⟨hq, ?_⟩
    refine ⟨a, _, dx, tx, _, _, _, rfl, .op .later, s2 _ _ (s1 _ _ ha), ?_⟩
    walk_at "ss"
    refine k_putTop T.cl_Later T.no_Later_first rfl (by decide +kernel) (by decide) ?_
    walk_at "ss"
    refine k_putTop T.cl_Later T.no_Later_second rfl (by decide +kernel) (by decide) ?_
    have sb : SameBut a H (upd H2 a (.ins T.C_Later dx (FL (n4 ++ [("first" : Str)] ++ [("second" : Str)]) ([V.str tx, .int ((Plan.op .later p q).forms : Nat), .int (Plan.op .later p q).period, .int (Plan.op .later p q).bend] ++ [V.ref a1] ++ [V.ref a2])))) := (SameBut.of (s1.trans s2)).put
    exact k _ sb (.op upd_same (h1.upBut ha sb) (h2.upBut ha sb) htx)
theorem ok_Sooner_init (T : Tx K mg) : FnOk P w K mg base CX0 3 T.a_Sooner_init T.fd_Sooner_init P_Sooner_init (spOpInit T .sooner) := by
  obtain ⟨cl, cld, csl, hce⟩ := T.ce_Sooner_init
  refine T.F_Sooner_init.ok sc_Sooner_init hce T.b_Sooner_init (fun vs H Q E h => ?_) (fun A outer s H vs Q E hr h => ?_)
  · obtain ⟨F, a, dx, a1, a2, p, q, rfl, _⟩ := h
    rfl
  · obtain ⟨F, a, dx, a1, a2, p, q, rfl, ⟨op, oq, hf, hp⟩, ha, h1, h2, k⟩ := h
    have nd := sc_Sooner_init.nd
    have ha : H a = some (.ins T.C_Sooner dx []) := ha
    refine ⟨_, (psa_cons (pst_of (ps_asg (pe_call (ok_joined T) (hr.mono (by first | decide | omega)) g_Sooner_init_joined T.m_joined T.k_joined T.b_joined .nil pass0 (pa_cons pe_str (pa_cons (kv (i := 1) v_Sooner_init_first) (pa_cons (kv (i := 2) v_Sooner_init_second) pa_nil)))) (kpg_tup K 4 rfl (pgs_cons (kgL (i := 4) nd l_Sooner_init_text) (pgs_cons (kgL (i := 5) nd l_Sooner_init_forms) (pgs_cons (kgL (i := 6) nd l_Sooner_init_period) (pgs_cons (kgL (i := 7) nd l_Sooner_init_bend) pgs_nil)))))))
      (psa_cons (kpst_super K T.sd_Sooner_init rfl rfl g_Sooner_init_super fr_Sooner_init cc_look rfl (locB_ok l_Sooner_init_self) (by decide) (ok_Rest_init T) (hr.mono (by decide)) T.b_Rest_init .nil pass0 (pa_cons (kv (i := 4) v_Sooner_init_text) (pa_cons (kv (i := 5) v_Sooner_init_forms) (pa_cons (kv (i := 6) v_Sooner_init_period) (pa_cons (kv (i := 7) v_Sooner_init_bend) pa_nil)))))
      (psa_cons (pst_of (kps_fld K (kv (i := 0) v_Sooner_init_self) (kv (i := 1) v_Sooner_init_first)))
      (psa_one (pst_of (kps_fld K (kv (i := 0) v_Sooner_init_self) (kv (i := 2) v_Sooner_init_second))))))), ?_⟩
    walk_at "ss"
    refine ⟨F, _, a1, a2, .sooner, p, q, rfl, by decide +kernel, h1, h2, op, oq, hf, hp, fun t tx H1 htx s1 ht => ?_⟩
    walk_at "ss"
    refine k_sup rfl (s1 _ _ ha) T.su_Sooner fun qq H2 nq e2 s2 hq => ?_
    walk_at "ss"
    refine ⟨hq, ?_⟩
    refine ⟨a, _, dx, tx, _, _, _, rfl, .op .sooner, s2 _ _ (s1 _ _ ha), ?_⟩
    walk_at "ss"
    refine k_putTop T.cl_Sooner T.no_Sooner_first rfl (by decide +kernel) (by decide) ?_
    walk_at "ss"
    refine k_putTop T.cl_Sooner T.no_Sooner_second rfl (by decide +kernel) (by decide) ?_
    have sb : SameBut a H (upd H2 a (.ins T.C_Sooner dx (FL (n4 ++ [("first" : Str)] ++ [("second" : Str)]) ([V.str tx, .int ((Plan.op .sooner p q).forms : Nat), .int (Plan.op .sooner p q).period, .int (Plan.op .sooner p q).bend] ++ [V.ref a1] ++ [V.ref a2])))) := (SameBut.of (s1.trans s2)).put
    exact k _ sb (.op upd_same (h1.upBut ha sb) (h2.upBut ha sb) htx)
theorem ok_Next_init (T : Tx K mg) : FnOk P w K mg base CX0 3 T.a_Next_init T.fd_Next_init P_Next_init (spOpInit T .next) := by
  obtain ⟨cl, cld, csl, hce⟩ := T.ce_Next_init
  refine T.F_Next_init.ok sc_Next_init hce T.b_Next_init (fun vs H Q E h => ?_) (fun A outer s H vs Q E hr h => ?_)
  · obtain ⟨F, a, dx, a1, a2, p, q, rfl, _⟩ := h
    rfl
  · obtain ⟨F, a, dx, a1, a2, p, q, rfl, ⟨op, oq, hf, hp⟩, ha, h1, h2, k⟩ := h
    have nd := sc_Next_init.nd
    have ha : H a = some (.ins T.C_Next dx []) := ha
    refine ⟨_, (psa_cons (pst_of (ps_asg (pe_call (ok_joined T) (hr.mono (by first | decide | omega)) g_Next_init_joined T.m_joined T.k_joined T.b_joined .nil pass0 (pa_cons pe_str (pa_cons (kv (i := 1) v_Next_init_first) (pa_cons (kv (i := 2) v_Next_init_second) pa_nil)))) (kpg_tup K 4 rfl (pgs_cons (kgL (i := 4) nd l_Next_init_text) (pgs_cons (kgL (i := 5) nd l_Next_init_forms) (pgs_cons (kgL (i := 6) nd l_Next_init_period) (pgs_cons (kgL (i := 7) nd l_Next_init_bend) pgs_nil)))))))
      (psa_cons (kpst_super K T.sd_Next_init rfl rfl g_Next_init_super fr_Next_init cc_look rfl (locB_ok l_Next_init_self) (by decide) (ok_Rest_init T) (hr.mono (by decide)) T.b_Rest_init .nil pass0 (pa_cons (kv (i := 4) v_Next_init_text) (pa_cons (kv (i := 5) v_Next_init_forms) (pa_cons (kv (i := 6) v_Next_init_period) (pa_cons (kv (i := 7) v_Next_init_bend) pa_nil)))))
      (psa_cons (pst_of (kps_fld K (kv (i := 0) v_Next_init_self) (kv (i := 1) v_Next_init_first)))
      (psa_one (pst_of (kps_fld K (kv (i := 0) v_Next_init_self) (kv (i := 2) v_Next_init_second))))))), ?_⟩
    walk_at "ss"
    refine ⟨F, _, a1, a2, .next, p, q, rfl, by decide +kernel, h1, h2, op, oq, hf, hp, fun t tx H1 htx s1 ht => ?_⟩
    walk_at "ss"
    refine k_sup rfl (s1 _ _ ha) T.su_Next fun qq H2 nq e2 s2 hq => ?_
    walk_at "ss"
    refine ⟨hq, ?_⟩
    refine ⟨a, _, dx, tx, _, _, _, rfl, .op .next, s2 _ _ (s1 _ _ ha), ?_⟩
    walk_at "ss"
    refine k_putTop T.cl_Next T.no_Next_first rfl (by decide +kernel) (by decide) ?_
    walk_at "ss"
    refine k_putTop T.cl_Next T.no_Next_second rfl (by decide +kernel) (by decide) ?_
    have sb : SameBut a H (upd H2 a (.ins T.C_Next dx (FL (n4 ++ [("first" : Str)] ++ [("second" : Str)]) ([V.str tx, .int ((Plan.op .next p q).forms : Nat), .int (Plan.op .next p q).period, .int (Plan.op .next p q).bend] ++ [V.ref a1] ++ [V.ref a2])))) := (SameBut.of (s1.trans s2)).put
    exact k _ sb (.op upd_same (h1.upBut ha sb) (h2.upBut ha sb) htx)
/-! ### the moments -/
def spAftW (T : Tx K mg) : Sp := fun vs H Q _ => ∃ F a t n, vs = [.ref a, .int t] ∧ RestAt T F H a (.win n) ∧ Q (.int ((Plan.win n).at t)) H
def spAftD (T : Tx K mg) : Sp := fun vs H Q _ => ∃ F a t bs p, vs = [.ref a, .int t] ∧ RestAt T F H a (.days bs p) ∧ (Plan.days bs p).Ok ∧ Q (.int ((Plan.days bs p).at t)) H
def spAftO (T : Tx K mg) (o : Op) (d : Nat) : Sp := fun vs H Q _ => ∃ F a t p q, vs = [.ref a, .int t] ∧ RestAt T F H a (.op o p q) ∧ p.Ok ∧ q.Ok ∧ p.forms ≤ d + 1 ∧ q.forms ≤ d + 1 ∧ Q (.int ((Plan.op o p q).at t)) H
inductive RA (T : Tx K mg) (d : Nat) : Addr → Sp → Prop where
  | win : RA T d T.C_Window (spAftW T)
  | days : RA T d T.C_Days (spAftD T)
  | op (o : Op) (d' : Nat) (h : d' < d) : RA T d (cOp T o) (spAftO T o d')
theorem ok_Window_after (T : Tx K mg) : FnOk P w K mg base CX0 1 T.a_Window_after T.fd_Window_after P_Window_after (spAftW T) := by
  refine T.F_Window_after.ok sc_Window_after (fun vs H Q E h => ?_) (fun cdv A outer s H vs Q E hr h => ?_)
  · obtain ⟨F, a, t, n, rfl, _⟩ := h
    rfl
  · obtain ⟨F, a, t, n, rfl, ha, k⟩ := h
    cases ha with
    | win h ht =>
      refine ⟨_, (pss_one (ps_ret (pe_op kop_add (kv (i := 1) v_Window_after_t) (kpe_fld K (kv (i := 0) v_Window_after_self))))), ?_⟩
      walk_at "ss"
      refine k_fldAt h T.cl_Window T.no_Window_width (i := 4) (by decide +kernel) rfl ?_
      walk_at "ss"
      exact k
theorem asc_base : ∀ {l : Int} {bs : List Int}, Asc l bs → ∀ b ∈ bs, b ≤ baseOf bs
  | _, [], _, b, hb => by cases hb
  | l, [c], _, b, hb => by
    rw [List.mem_singleton] at hb
    subst hb
    exact Int.le_refl _
  | l, c :: e :: r, h, b, hb => by
    obtain ⟨h1, h2⟩ := h
    have ih := asc_base h2
    have eb : baseOf (c :: e :: r) = baseOf (e :: r) := by simp [baseOf]
    rw [eb]
    rcases List.mem_cons.mp hb with rfl | hb
    · exact Int.le_trans (Int.le_of_lt h2.1) (ih e (List.mem_cons_self ..))
    · exact ih b hb
theorem find_take {bs : List Int} {i : Nat} {t c : Int} (h : ∀ b ∈ bs.take i, ¬ t < b) (hc : bs[i]? = some c) (hi : t < c) : bs.find? (fun b => decide (t < b)) = some c := by
  have e : bs = bs.take i ++ c :: bs.drop (i + 1) := by
    obtain ⟨hi', rfl⟩ := List.getElem?_eq_some_iff.mp hc
    rw [List.getElem_cons_drop, List.take_append_drop]
  rw [e, List.find?_append, List.find?_eq_none.mpr (by simpa using h)]
  simp [hi]
theorem take_step {bs : List Int} {i : Nat} {t c : Int} (h : ∀ b ∈ bs.take i, ¬ t < b) (hc : bs[i]? = some c) (hi : ¬ t < c) : ∀ b ∈ bs.take (i + 1), ¬ t < b := by
  intro b hb
  rw [List.take_add_one, hc, List.mem_append] at hb
  rcases hb with hb | hb
  · exact h b hb
  · simp at hb
    subst hb
    exact hi
theorem dayAt_none {bs : List Int} {p t : Int} (h : ∀ b ∈ bs, ¬ t < b) : dayAt bs p t = baseOf bs + ((t - baseOf bs) / p + 1) * p := by
  unfold dayAt
  rw [List.find?_eq_none.mpr (by simpa using h)]
theorem dayAt_some {bs : List Int} {p t c : Int} (h : bs.find? (fun b => decide (t < b)) = some c) : dayAt bs p t = c := by
  unfold dayAt
  rw [h]
theorem map_int_at {bs : List Int} {i : Nat} {x : V} (h : (bs.map V.int)[i]? = some x) : ∃ c, bs[i]? = some c ∧ x = .int c := by
  rw [List.getElem?_map] at h
  cases hb : bs[i]? with
  | none => rw [hb] at h; cases h
  | some c => rw [hb] at h; exact ⟨c, rfl, (Option.some.inj h).symm⟩
theorem ok_Days_after (T : Tx K mg) : FnOk P w K mg base CX0 1 T.a_Days_after T.fd_Days_after P_Days_after (spAftD T) := by
  refine T.F_Days_after.ok sc_Days_after (fun vs H Q E h => ?_) (fun cdv A outer s H vs Q E hr h => ?_)
  · obtain ⟨F, a, t, bs, p, rfl, _⟩ := h
    rfl
  · obtain ⟨F, a, t, bs, p, rfl, ha, ⟨hasc, hle, hlen, hp1, hp2⟩, k⟩ := h
    have nd := sc_Days_after.nd
    cases ha with
    | days h hl ht hF =>
      rename_i dx l tx
      have kn : (∀ b ∈ bs, ¬ t < b) → Q (.int (baseOf bs + ((t - baseOf bs) / p + 1) * p)) H := fun hn => by
        rw [← dayAt_none hn]
        exact k
      refine ⟨_, (pss_cons (ps_if (pt_cmpR op_lt (kv (i := 1) v_Days_after_t) (kpe_fld K (kv (i := 0) v_Days_after_self)) (nomark _)) (pss_one (ps_for PassesOwn.never rfl (kpi_list K (kpe_fld K (kv (i := 0) v_Days_after_self))) (kgL (i := 2) nd l_Days_after_border) (pss_one (ps_if (pt_cmpR op_gt (kv (i := 2) v_Days_after_border) (kv (i := 1) v_Days_after_t) (nomark _)) (pss_one (ps_ret (kv (i := 2) v_Days_after_border))) pss_nil)))) pss_nil)
      (pss_one (ps_ret (pe_op kop_add (kpe_fld K (kv (i := 0) v_Days_after_self)) (pe_op op_mul (pe_op kop_add (pe_op op_fdiv (pe_op op_sub (kv (i := 1) v_Days_after_t) (kpe_fld K (kv (i := 0) v_Days_after_self))) (kpe_fld K (kv (i := 0) v_Days_after_self))) pe_int) (kpe_fld K (kv (i := 0) v_Days_after_self))))))), ?_⟩
      walk_at "ss"
      refine k_fldAt h T.cl_Days T.no_Days_bend (i := 3) (by decide +kernel) rfl ?_
      walk_at "ss"
      refine k_d (fun hb => ?_) (fun hb => ?_)
      · walk_at "ss"
        refine k_fldAt h T.cl_Days T.no_Days_borders (i := 5) (by decide +kernel) rfl ?_
        refine k_iL (SqL.of hl) ?_
        refine k_forList (bs.map V.int) (fun i σ H' => H' = H ∧ (∃ v, σ = [some (V.ref a), some (V.int t), v]) ∧ ∀ b ∈ bs.take i, ¬ t < b) ⟨rfl, ⟨none, rfl⟩, fun b hb => (by cases hb)⟩ ?_ ?_ ?_
        · rintro i σ _ _ ⟨rfl, _, _⟩
          exact SqL.of hl
        · rintro i x σ _ hx ⟨rfl, ⟨v, rfl⟩, hn⟩
          obtain ⟨c, hc, rfl⟩ := map_int_at hx
          walk_at "ss"
          refine k_d (fun h1 => ?_) (fun h1 => ?_)
          · walk_at "ss"
            have e := dayAt_some (p := p) (find_take hn hc h1)
            rw [← e]
            exact k
          · walk_at "ss"
            exact ⟨rfl, ⟨_, rfl⟩, take_step hn hc h1⟩
        · rintro σ _ ⟨rfl, ⟨v, rfl⟩, hn⟩
          rw [List.length_map, List.take_length] at hn
          walk_at "ss"
          refine k_fldAt h T.cl_Days T.no_Days_bend (i := 3) (by decide +kernel) rfl ?_
          walk_at "ss"
          refine k_fldAt h T.cl_Days T.no_Days_bend (i := 3) (by decide +kernel) rfl ?_
          walk_at "ss"
          refine k_fldAt h T.cl_Days T.no_Days_every (i := 4) (by decide +kernel) rfl ?_
          walk_at "ss"
          refine k_fldAt h T.cl_Days T.no_Days_every (i := 4) (by decide +kernel) rfl ?_
          refine k_I (.inr ⟨by omega, by omega⟩) ?_
          exact kn hn
      · walk_at "ss"
        refine k_fldAt h T.cl_Days T.no_Days_bend (i := 3) (by decide +kernel) rfl ?_
        walk_at "ss"
        refine k_fldAt h T.cl_Days T.no_Days_bend (i := 3) (by decide +kernel) rfl ?_
        walk_at "ss"
        refine k_fldAt h T.cl_Days T.no_Days_every (i := 4) (by decide +kernel) rfl ?_
        walk_at "ss"
        refine k_fldAt h T.cl_Days T.no_Days_every (i := 4) (by decide +kernel) rfl ?_
        refine k_I (.inr ⟨by omega, by omega⟩) ?_
        refine kn fun b hb' => ?_
        have := asc_base hasc b hb'
        omega
abbrev DispRA (w : World) (base : Heap) (T : Tx K mg) (d : Nat) : Prop := ∀ C sp, RA T d C sp → ∃ g fd ps, Cls K C ∧ Meth K C "_after" g ∧ FnOk P w K mg base CX0 (d + 1) g fd ps sp ∧ Binds K fd ps []
theorem k_meth {R : Addr → Sp → Prop} {m : Str} {E : XK} {ta : TE} {t : TA} {σ : L2.St} {H : Hp} {Q : VK} (h : ta σ H fun x H1 => ∃ a C dx fs sp, x = V.ref a ∧ H1 a = some (.ins C dx fs) ∧ R C sp ∧ fs.lookup m = none ∧ t σ H1 fun vs H2 => sp (x :: vs) H2 Q E) : tMethP R m E ta t σ H Q := h
/-- one method call on a rest, its forms at most d + 1 -/
theorem rest_after {T : Tx K mg} {F : Addr → Prop} {d : Nat} {H : Hp} {a : Addr} {p : Plan} (ha : RestAt T F H a p) (ok : p.Ok) (hd : p.forms ≤ d + 1) : ∃ C dx fs sp, H a = some (.ins C dx fs) ∧ RA T d C sp ∧ fs.lookup ("_after" : Str) = none ∧ ∀ (t : Int) (H' : Hp) (Q : VK) (E : XK), Same H H' → Q (.int (p.at t)) H' → sp [.ref a, .int t] H' Q E := by
  have g : ∃ C dx ns vs, (ns = nW1 ∨ ns = nD1 ∨ ns = nO1) ∧ H a = some (.ins C dx (FL (n4 ++ ns) vs)) := by
    obtain ⟨C, dx, ns, vs, tx, hC, hn, _, he⟩ := ha.four
    exact ⟨C, dx, ns, _, hn, he⟩
  obtain ⟨C, dx, ns, vs, hn, he⟩ := g
  have nm := no_meth (vs := vs) (m := "_after") (by decide +kernel) (by decide +kernel) hn
  refine ⟨C, dx, FL (n4 ++ ns) vs, ?_⟩
  cases ha with
  | win h ht =>
    obtain rfl : C = T.C_Window := (HO.ins.inj (Option.some.inj (he.symm.trans h))).1
    exact ⟨_, he, .win, nm, fun t H' Q E sm k => ⟨F, a, t, _, rfl, .win (sm _ _ h) ht, k⟩⟩
  | days h hl ht hF =>
    obtain rfl : C = T.C_Days := (HO.ins.inj (Option.some.inj (he.symm.trans h))).1
    exact ⟨_, he, .days, nm, fun t H' Q E sm k => ⟨F, a, t, _, _, rfl, .days (sm _ _ h) (sm _ _ hl) ht hF, ok, k⟩⟩
  | op h h1 h2 ht =>
    rename_i dx' a1 a2 tx o p q
    obtain rfl : C = cOp T o := (HO.ins.inj (Option.some.inj (he.symm.trans h))).1
    obtain ⟨o1, o2, _, _⟩ := ok
    have f1 := p.forms_pos
    have f2 := q.forms_pos
    have hd : 1 + p.forms + q.forms ≤ d + 1 := hd
    exact ⟨_, he, .op o (d - 1) (by omega), nm, fun t H' Q E sm k => ⟨F, a, t, p, q, rfl, .op (sm _ _ h) (h1.up sm) (h2.up sm) ht, o1, o2, by omega, by omega, k⟩⟩
theorem ok_Later_after (T : Tx K mg) (d : Nat) (dA : DispRA w base T d) : FnOk P w K mg base CX0 (d + 2) T.a_Later_after T.fd_Later_after P_Later_after (spAftO T .later d) := by
  refine T.F_Later_after.ok sc_Later_after (fun vs H Q E h => ?_) (fun cdv A outer s H vs Q E hr h => ?_)
  · obtain ⟨F, a, t, p, q, rfl, _⟩ := h
    rfl
  · obtain ⟨F, a, t, p, q, rfl, ha, op, oq, fp, fq, k⟩ := h
    cases ha with
    | op h h1 h2 ht =>
      rename_i dx a1 a2 tx
      obtain ⟨C1, dx1, fs1, sp1, e1, r1, l1, g1⟩ := rest_after h1 op fp
      obtain ⟨C2, dx2, fs2, sp2, e2, r2, l2, g2⟩ := rest_after h2 oq fq
      refine ⟨_, (pss_one (ps_ret (kcB b_max (by decide) (by decide) (kc_max2 rfl) g_Later_after_max T.n_max (pa_cons (kpe_methP dA (hr.mono (by omega)) pass0 (kpe_fld K (kv (i := 0) v_Later_after_self)) (pa_cons (kv (i := 1) v_Later_after_t) pa_nil)) (pa_cons (kpe_methP dA (hr.mono (by omega)) pass0 (kpe_fld K (kv (i := 0) v_Later_after_self)) (pa_cons (kv (i := 1) v_Later_after_t) pa_nil)) pa_nil))))), ?_⟩
      walk_at "ss"
      refine k_meth ?_
      walk_at "ss"
      refine k_fldAt h T.cl_Later T.no_Later_first (i := 4) (by decide +kernel) rfl ?_
      refine ⟨a1, C1, dx1, fs1, sp1, rfl, e1, r1, l1, ?_⟩
      walk_at "ss"
      refine g1 _ _ _ _ (Same.refl _) ?_
      walk_at "ss"
      refine k_meth ?_
      walk_at "ss"
      refine k_fldAt h T.cl_Later T.no_Later_second (i := 5) (by decide +kernel) rfl ?_
      refine ⟨a2, C2, dx2, fs2, sp2, rfl, e2, r2, l2, ?_⟩
      walk_at "ss"
      refine g2 _ _ _ _ (Same.refl _) ?_
      walk_at "ss"
      exact k
theorem ok_Sooner_after (T : Tx K mg) (d : Nat) (dA : DispRA w base T d) : FnOk P w K mg base CX0 (d + 2) T.a_Sooner_after T.fd_Sooner_after P_Sooner_after (spAftO T .sooner d) := by
  refine T.F_Sooner_after.ok sc_Sooner_after (fun vs H Q E h => ?_) (fun cdv A outer s H vs Q E hr h => ?_)
  · obtain ⟨F, a, t, p, q, rfl, _⟩ := h
    rfl
  · obtain ⟨F, a, t, p, q, rfl, ha, op, oq, fp, fq, k⟩ := h
    cases ha with
    | op h h1 h2 ht =>
      rename_i dx a1 a2 tx
      obtain ⟨C1, dx1, fs1, sp1, e1, r1, l1, g1⟩ := rest_after h1 op fp
      obtain ⟨C2, dx2, fs2, sp2, e2, r2, l2, g2⟩ := rest_after h2 oq fq
      refine ⟨_, (pss_one (ps_ret (kcB b_min (by decide) (by decide) (kc_min2 rfl) g_Sooner_after_min T.n_min (pa_cons (kpe_methP dA (hr.mono (by omega)) pass0 (kpe_fld K (kv (i := 0) v_Sooner_after_self)) (pa_cons (kv (i := 1) v_Sooner_after_t) pa_nil)) (pa_cons (kpe_methP dA (hr.mono (by omega)) pass0 (kpe_fld K (kv (i := 0) v_Sooner_after_self)) (pa_cons (kv (i := 1) v_Sooner_after_t) pa_nil)) pa_nil))))), ?_⟩
      walk_at "ss"
      refine k_meth ?_
      walk_at "ss"
      refine k_fldAt h T.cl_Sooner T.no_Sooner_first (i := 4) (by decide +kernel) rfl ?_
      refine ⟨a1, C1, dx1, fs1, sp1, rfl, e1, r1, l1, ?_⟩
      walk_at "ss"
      refine g1 _ _ _ _ (Same.refl _) ?_
      walk_at "ss"
      refine k_meth ?_
      walk_at "ss"
      refine k_fldAt h T.cl_Sooner T.no_Sooner_second (i := 5) (by decide +kernel) rfl ?_
      refine ⟨a2, C2, dx2, fs2, sp2, rfl, e2, r2, l2, ?_⟩
      walk_at "ss"
      refine g2 _ _ _ _ (Same.refl _) ?_
      walk_at "ss"
      exact k
theorem ok_Next_after (T : Tx K mg) (d : Nat) (dA : DispRA w base T d) : FnOk P w K mg base CX0 (d + 2) T.a_Next_after T.fd_Next_after P_Next_after (spAftO T .next d) := by
  refine T.F_Next_after.ok sc_Next_after (fun vs H Q E h => ?_) (fun cdv A outer s H vs Q E hr h => ?_)
  · obtain ⟨F, a, t, p, q, rfl, _⟩ := h
    rfl
  · obtain ⟨F, a, t, p, q, rfl, ha, op, oq, fp, fq, k⟩ := h
    cases ha with
    | op h h1 h2 ht =>
      rename_i dx a1 a2 tx
      obtain ⟨C1, dx1, fs1, sp1, e1, r1, l1, g1⟩ := rest_after h1 op fp
      obtain ⟨C2, dx2, fs2, sp2, e2, r2, l2, g2⟩ := rest_after h2 oq fq
      refine ⟨_, (pss_one (ps_ret (kpe_methP dA (hr.mono (by omega)) pass0 (kpe_fld K (kv (i := 0) v_Next_after_self)) (pa_cons (kpe_methP dA (hr.mono (by omega)) pass0 (kpe_fld K (kv (i := 0) v_Next_after_self)) (pa_cons (kv (i := 1) v_Next_after_t) pa_nil)) pa_nil)))), ?_⟩
      walk_at "ss"
      refine k_meth ?_
      walk_at "ss"
      refine k_fldAt h T.cl_Next T.no_Next_second (i := 5) (by decide +kernel) rfl ?_
      refine ⟨a2, C2, dx2, fs2, sp2, rfl, e2, r2, l2, ?_⟩
      walk_at "ss"
      refine k_meth ?_
      walk_at "ss"
      refine k_fldAt h T.cl_Next T.no_Next_first (i := 4) (by decide +kernel) rfl ?_
      refine ⟨a1, C1, dx1, fs1, sp1, rfl, e1, r1, l1, ?_⟩
      walk_at "ss"
      refine g1 _ _ _ _ (Same.refl _) ?_
      walk_at "ss"
      refine g2 _ _ _ _ (Same.refl _) ?_
      exact k
theorem disp_after (T : Tx K mg) : ∀ d, DispRA w base T d := by
  intro d
  induction d using Nat.strongRecOn with
  | _ d ih =>
    intro C sp hC
    cases hC with
    | win => exact ⟨_, _, _, T.cl_Window, T.me_Window_after, (ok_Window_after T).mono (by omega), T.b_Window_after⟩
    | days => exact ⟨_, _, _, T.cl_Days, T.me_Days_after, (ok_Days_after T).mono (by omega), T.b_Days_after⟩
    | op o d' h =>
      cases o with
      | later => exact ⟨_, _, _, T.cl_Later, T.me_Later_after, (ok_Later_after T d' (ih d' h)).mono (by omega), T.b_Later_after⟩
      | sooner => exact ⟨_, _, _, T.cl_Sooner, T.me_Sooner_after, (ok_Sooner_after T d' (ih d' h)).mono (by omega), T.b_Sooner_after⟩
      | next => exact ⟨_, _, _, T.cl_Next, T.me_Next_after, (ok_Next_after T d' (ih d' h)).mono (by omega), T.b_Next_after⟩
def spCall (T : Tx K mg) : Sp := fun vs H Q _ => ∃ F a t p, vs = [.ref a, .int t] ∧ RestAt T F H a p ∧ p.Ok ∧ Q (.int (p.at t)) H
theorem forms_le {p : Plan} (h : p.Ok) : p.forms ≤ 6 := by
  cases p with
  | win => exact (by decide : 1 ≤ 6)
  | days => exact (by decide : 1 ≤ 6)
  | op o a b => exact h.2.2.1
theorem ok_Rest_call (T : Tx K mg) : FnOk P w K mg base CX0 7 T.a_Rest_call T.fd_Rest_call P_Rest_call (spCall T) := by
  refine T.F_Rest_call.ok sc_Rest_call (fun vs H Q E h => ?_) (fun cdv A outer s H vs Q E hr h => ?_)
  · obtain ⟨F, a, t, p, rfl, _⟩ := h
    rfl
  · obtain ⟨F, a, t, p, rfl, ha, op, k⟩ := h
    obtain ⟨C1, dx1, fs1, sp1, e1, r1, l1, g1⟩ := rest_after ha op (forms_le op)
    refine ⟨_, (pss_one (ps_ret (kpe_methP (disp_after T 5) (hr.mono (by decide)) pass0 (kv (i := 0) v_Rest_call_self) (pa_cons (kv (i := 1) v_Rest_call_t) pa_nil)))), ?_⟩
    walk_at "ss"
    refine k_meth ?_
    walk_at "ss"
    refine ⟨a, C1, dx1, fs1, sp1, rfl, e1, r1, l1, ?_⟩
    walk_at "ss"
    refine g1 _ _ _ _ (Same.refl _) ?_
    exact k
theorem disp_call (T : Tx K mg) : ∀ C sp, OneSp T (spCall T) C sp → ∃ g fd ps, StX.CallO K C g ∧ FnOk P w K mg base CX0 7 g fd ps sp ∧ Binds K fd ps [] := by
  rintro C sp ⟨hC, rfl⟩
  refine ⟨_, _, _, ?_, ok_Rest_call T, T.b_Rest_call⟩
  cases hC with
  | win => exact T.co_Window
  | days => exact T.co_Days
  | op o => cases o <;> first | exact T.co_Later | exact T.co_Sooner | exact T.co_Next
theorem k_thing {R : Addr → Sp → Prop} {E : XK} {tf : TE} {t : TA} {σ : L2.St} {H : Hp} {Q : VK} (h : tf σ H fun y H1 => ∃ a C sp, y = V.ref a ∧ R C sp ∧ t σ H1 fun vs H2 => (∃ dx fs, H2 a = some (.ins C dx fs)) ∧ sp (V.ref a :: vs) H2 Q E) : tCallP R E tf t σ H Q := h
theorem rest_call {T : Tx K mg} {F : Addr → Prop} {H : Hp} {a : Addr} {p : Plan} (ha : RestAt T F H a p) (ok : p.Ok) : ∃ C, OneSp T (spCall T) C (spCall T) ∧ ∀ (t : Int) (H' : Hp) (Q : VK) (E : XK), Same H H' → Q (.int (p.at t)) H' → (∃ dx fs, H' a = some (.ins C dx fs)) ∧ spCall T [.ref a, .int t] H' Q E := by
  obtain ⟨C, dx, ns, vs, tx, hC, _, _, he⟩ := ha.four
  exact ⟨C, ⟨hC, rfl⟩, fun t H' Q E sm k => ⟨⟨_, _, sm _ _ he⟩, F, a, t, p, rfl, ha.up sm, ok, k⟩⟩
end

/-! ### names, rules -/
section
variable {w : World} {K : PySem.W.Frag} {mg : Str → Option Value} {base : Heap}
theorem k_iStr {σ : L2.St} {H : Hp} {te : TE} {R : It → Hp → Prop} (h : te σ H fun v H1 => ∃ x, v = .str x ∧ R (Its x) H1) : iStr te σ H R := h
def nameB (z : Str) : Prop := ∃ c r, z.cps.toList = c :: r ∧ z.length ≤ 8 ∧ c ∈ (("abcdefghijklmnopqrstuvwxyz" : Str)).cps.toList ∧ ∀ d ∈ z.cps.toList, d ∈ (("abcdefghijklmnopqrstuvwxyz" : Str)).cps.toList ∨ d ∈ (("0123456789" : Str)).cps.toList
def spName : Sp := fun vs H Q _ => ∃ z : Str, vs = [.str z] ∧ nameB z ∧ Q (.bl true) H
theorem str_len (z : Str) : z.length = z.cps.toList.length := by rw [Array.length_toList]; rfl
theorem ok_is_name (T : Tx K mg) : FnOk P w K mg base CX0 1 T.a_is_name T.fd_is_name P_is_name spName := by
  refine T.F_is_name.ok sc_is_name (fun vs H Q E h => ?_) (fun cdv A outer s H vs Q E hr h => ?_)
  · obtain ⟨z, rfl, _⟩ := h
    rfl
  · obtain ⟨z, rfl, ⟨c, r, hz, hl, hc, hall⟩, k⟩ := h
    have nd := sc_is_name.nd
    have hlen : z.length = r.length + 1 := by rw [str_len, hz]; rfl
    refine ⟨_, (pss_cons (ps_if (PW.pt (pw_or (pt_not (pt_val (kcB b_isinstance (by decide) (by decide) (kc_isi K) g_is_name_isinstance T.n_isinstance (pa_cons (kv (i := 0) v_is_name_value) (pa_cons (kty_str g_is_name_str T.n_str) pa_nil))))) (pw_or (pt_not (pt_chain op_le op_le pe_int (kcB b_len (by decide) (by decide) (kc_len K) g_is_name_len T.n_len (pa_cons (kv (i := 0) v_is_name_value) pa_nil)) pe_int)) (pw_or1 (pt_cmpR op_notIn_sign (pe_ix (kix K) (kv (i := 0) v_is_name_value) pe_int (fun _ _ => rfl)) (pe_glob g_is_name_LETTERS T.m_LETTERS T.r_LETTERS) (by rfl)))))) (pss_one (ps_ret pe_bl)) pss_nil)
      (pss_cons (ps_for PassesOwn.never rfl (pi_str (kv (i := 0) v_is_name_value)) (kgL (i := 1) nd l_is_name_sign) (pss_one (ps_if (PW.pt (pw_and (pt_cmpR op_notIn_sign (kv (i := 1) v_is_name_sign) (pe_glob g_is_name_LETTERS T.m_LETTERS T.r_LETTERS) (by rfl)) (pw_and1 (pt_cmpR op_notIn_sign (kv (i := 1) v_is_name_sign) (pe_glob g_is_name_DIGITS T.m_DIGITS T.r_DIGITS) (by rfl))))) (pss_one (ps_ret pe_bl)) pss_nil)))
      (pss_one (ps_ret pe_bl)))), ?_⟩
    walk_at "ss"
    refine k_lenS (small_size (by omega)) ?_
    walk_at "ss"
    refine k_dt (by omega) ?_
    walk_at "ss"
    refine k_nt (by omega) ?_
    walk_at "ss"
    refine k_ixS (small_size (by omega)) (c := c) (by rw [hz]; exact atI_nat (j := 0) rfl) ?_
    walk_at "ss"
    refine ⟨c, _, rfl, rfl, ?_⟩
    walk_at "ss"
    refine k_nt hc ?_
    walk_at "ss"
    refine k_iStr ?_
    walk_at "ss"
    refine ⟨z, rfl, ?_⟩
    refine k_forIt walk_str (fun i σ H' => H' = H ∧ ∃ v, σ = [some (.str z), v]) ⟨rfl, _, rfl⟩ (fun _ _ _ _ _ => True.intro) ?_ ?_
    · rintro i x σ H' H2 hi ⟨rfl, v, rfl⟩ ⟨rfl, d, hd, rfl⟩
      have hm : d ∈ z.cps.toList := List.mem_of_getElem? (by rw [← Array.getElem?_toList] at hd; exact hd)
      walk_at "ss"
      refine ⟨d, _, rfl, rfl, ?_⟩
      walk_at "ss"
      rcases hall d hm with h | h
      · refine k_nt h ?_
        walk_at "ss"
        exact ⟨rfl, _, rfl⟩
      · refine k_n (fun _ => ?_) (fun _ => ?_)
        · walk_at "ss"
          exact ⟨rfl, _, rfl⟩
        · walk_at "ss"
          refine ⟨d, _, rfl, rfl, ?_⟩
          walk_at "ss"
          refine k_nt h ?_
          walk_at "ss"
          exact ⟨rfl, _, rfl⟩
    · rintro σ H' ⟨rfl, v, rfl⟩
      walk_at "ss"
      exact k
end

/-! ### plans on the heap -/
def opS : Op → Str
  | .later => "later"
  | .sooner => "sooner"
  | .next => "next"
inductive PlanAt (H : Hp) : Addr → Plan → Prop where
  | win {a : Addr} {w : Int} (h : H a = some (.tup [.str "window", .int w])) : PlanAt H a (.win w)
  | days {a e : Addr} {bs : List Int} {p : Int} (h : H a = some (.tup [.str "days", .ref e, .int p])) (he : H e = some (.tup (bs.map V.int))) : PlanAt H a (.days bs p)
  | op {a a1 a2 : Addr} {o : Op} {p q : Plan} (h : H a = some (.tup [.str (opS o), .ref a1, .ref a2])) (h1 : PlanAt H a1 p) (h2 : PlanAt H a2 q) : PlanAt H a (.op o p q)
theorem PlanAt.up {H H' : Hp} (e : Same H H') : ∀ {a : Addr} {p : Plan}, PlanAt H a p → PlanAt H' a p := by
  intro a p h
  induction h with
  | win h => exact .win (e _ _ h)
  | days h he => exact .days (e _ _ h) (e _ _ he)
  | op h h1 h2 i1 i2 => exact .op (e _ _ h) i1 i2
theorem same_put {G G' : Hp} {L : Addr} {o : HO} (h : Same G G') (n : G L = none) : Same G (upd G' L o) := fun a u e => by
  rw [upd_ne (ne_of_none e n)]
  exact h _ _ e
theorem asc_snoc : ∀ {l c : Int} {bs : List Int}, Asc l bs → bs.getLast?.getD l < c → Asc l (bs ++ [c])
  | _, _, [], _, h => ⟨h, trivial⟩
  | l, c, [x], h, hc => ⟨h.1, hc, trivial⟩
  | l, c, x :: y :: r, h, hc => ⟨h.1, asc_snoc h.2 (by
      rw [List.getLast?_cons_cons] at hc
      cases hz : (y :: r).getLast? with
      | none => simp at hz
      | some z => rw [hz] at hc; exact hc)⟩
theorem k_bm {K : PySem.W.Frag} {T : String} {r : V → List V → Hp → VK → Prop} {to : TE} {t : TA} {σ : L2.St} {H : Hp} {Q : VK} (h : to σ H fun x H1 => tyV K T x H1 ∧ t σ H1 fun xs H2 => r x xs H2 Q) : tBM K T r to t σ H Q := h
theorem k_app {l : Addr} {xs : List V} {y : V} {H : Hp} {Q : VK} (h : H l = some (.lst xs)) (hz : xs.length < 1000) (k : Q .non (upd H l (.lst (xs ++ [y])))) : rAppend (.ref l) [y] H Q := ⟨l, xs, y, rfl, rfl, h, small_lt (by omega), k⟩
theorem lcmI_one (a : Int) (h : 0 < a) : lcmI a 1 = a := by
  obtain ⟨n, rfl⟩ := Int.eq_ofNat_of_zero_le (Int.le_of_lt h)
  simp [lcmI]
theorem lcmI_self (a : Int) (h : 0 < a) : lcmI a a = a := by
  obtain ⟨n, rfl⟩ := Int.eq_ofNat_of_zero_le (Int.le_of_lt h)
  simp [lcmI]
theorem lcmI_pos {a b : Int} (h : 0 < a) (h' : 0 < b) : 0 < lcmI a b := by
  have : 0 < Nat.lcm a.natAbs b.natAbs := Nat.lcm_pos (by omega) (by omega)
  unfold lcmI
  omega
theorem dvd_lcmI_left (a b : Int) : a ∣ lcmI a b := by
  unfold lcmI
  exact Int.natAbs_dvd.mp (Int.natCast_dvd_natCast.mpr (Nat.dvd_lcm_left _ _))
theorem dvd_lcmI_right (a b : Int) : b ∣ lcmI a b := by
  unfold lcmI
  exact Int.natAbs_dvd.mp (Int.natCast_dvd_natCast.mpr (Nat.dvd_lcm_right _ _))
theorem lcmI_dvd {a b c : Int} (h1 : a ∣ c) (h2 : b ∣ c) : lcmI a b ∣ c := by
  unfold lcmI
  refine Int.dvd_natAbs.mp (Int.natCast_dvd_natCast.mpr (Nat.lcm_dvd ?_ ?_))
  · exact Int.natAbs_dvd_natAbs.mpr h1
  · exact Int.natAbs_dvd_natAbs.mpr h2
section
variable {w : World} {K : PySem.W.Frag} {mg : Str → Option Value} {base : Heap}
theorem k_eqT {x : Str} {H : Hp} {Q : VK} (k : Q (.bl true) H) : rEq (.str x) (.str x) H Q := k_eq rfl (by rw [decide_eq_true rfl]; exact k)
theorem k_eqF {x y : Str} {H : Hp} {Q : VK} (h : x ≠ y) (k : Q (.bl false) H) : rEq (.str x) (.str y) H Q := k_eq rfl (by rw [decide_eq_false (fun e => h (V.str.inj e))]; exact k)
theorem ne1 : (("days" : Str)) ≠ "window" := by decide +kernel
theorem neOW (o : Op) : opS o ≠ "window" := by cases o <;> decide +kernel
theorem neOD (o : Op) : opS o ≠ "days" := by cases o <;> decide +kernel
theorem k_dget {σ : L2.St} {H : Hp} {Q : VK} {td ty : TE} (h : td σ H fun x H1 => ty σ H1 fun y H2 => ∃ a v, x = .ref a ∧ DGet H2 a y (some v) ∧ Q v H2) : tDGet td ty σ H Q := h
theorem k_truU {K : PySem.W.Frag} {ta : TE} {σ : L2.St} {H : Hp} {Q : Bool → Hp → Prop} (h : ta σ H fun x H' => ∃ k, TruV K x H' k ∧ Q k H') : tTruU K ta σ H Q := h
theorem k_setD {a : Addr} {i v : V} {H H' : Hp} {Q : Hp → Prop} (h : DPut H a i v H') (q : Q H') : rSetD (.ref a) i v H Q := ⟨a, H', rfl, h, q⟩
theorem g_none {G0 G : Hp} {t : Addr} (sm : Same G0 G) (n : G t = none) : G0 t = none := by
  cases hz : G0 t with
  | none => rfl
  | some o => exact absurd (sm _ _ hz) (by rw [n]; intro z; cases z)
end

theorem at_gt : ∀ {p : Plan}, p.Ok → ∀ t, t < p.at t
  | .win w, h, t => by show t < t + w; have := h.1; omega
  | .days bs p, ⟨_, _, _, hp, _⟩, t => by
    show t < dayAt bs p t
    cases hf : bs.find? (fun b => decide (t < b)) with
    | some c =>
      rw [dayAt_some hf]
      simpa using List.find?_some hf
    | none =>
      have := List.find?_eq_none.mp hf
      rw [dayAt_none (by simpa using this)]
      have := Int.lt_ediv_add_one_mul_self (t - baseOf bs) (b := p) (by omega)
      omega
  | .op o a b, ⟨ha, hb, _, _⟩, t => by
    have h1 := at_gt ha t
    have h2 := at_gt hb t
    have h3 := at_gt hb (a.at t)
    cases o
    · show t < mx _ _; unfold mx; split <;> omega
    · show t < mn _ _; unfold mn; split <;> omega
    · show t < b.at (a.at t); omega
theorem find_min : ∀ {l : Int} {bs : List Int} {t c d : Int}, Asc l bs → bs.find? (fun b => decide (t < b)) = some c → d ∈ bs → t < d → c ≤ d
  | _, [], _, _, _, _, h, _, _ => by cases h
  | l, b :: r, t, c, d, ⟨h1, h2⟩, h, hd, ht => by
    by_cases e : t < b
    · have : c = b := by simpa [List.find?_cons, e] using h.symm
      subst this
      rcases List.mem_cons.mp hd with rfl | hd
      · exact Int.le_refl _
      · exact Int.le_of_lt (asc_lt h2 d hd)
    · have h : r.find? (fun b => decide (t < b)) = some c := by simpa [List.find?_cons, e] using h
      rcases List.mem_cons.mp hd with rfl | hd
      · omega
      · exact find_min h2 h hd ht
theorem base_mem {bs : List Int} (h : bs ≠ []) : baseOf bs ∈ bs := by
  unfold baseOf
  rw [List.getLast?_eq_some_getLast h]
  exact List.getLast_mem h
theorem at_mono : ∀ {p : Plan}, p.Ok → ∀ {t u : Int}, t ≤ u → p.at t ≤ p.at u
  | .win w, h, t, u, e => by show t + w ≤ u + w; omega
  | .days bs p, ⟨ha, _, _, hp, _⟩, t, u, e => by
    show dayAt bs p t ≤ dayAt bs p u
    cases hu : bs.find? (fun b => decide (u < b)) with
    | some d =>
      rw [dayAt_some hu]
      have h1 : u < d := by simpa using List.find?_some hu
      have h2 := List.mem_of_find?_eq_some hu
      cases ht : bs.find? (fun b => decide (t < b)) with
      | some c =>
        rw [dayAt_some ht]
        exact find_min ha ht h2 (by omega)
      | none =>
        have := List.find?_eq_none.mp ht d h2
        simp at this
        omega
    | none =>
      have hn : ∀ b ∈ bs, ¬ u < b := by simpa using List.find?_eq_none.mp hu
      rw [dayAt_none hn]
      cases ht : bs.find? (fun b => decide (t < b)) with
      | some c =>
        rw [dayAt_some ht]
        have h2 := List.mem_of_find?_eq_some ht
        have h3 := asc_base ha c h2
        have h4 := hn _ (base_mem (List.ne_nil_of_mem h2))
        have h5 : 0 ≤ (u - baseOf bs) / p := Int.ediv_nonneg (by omega) (by omega)
        have h6 : 0 ≤ ((u - baseOf bs) / p + 1) * p := Int.mul_nonneg (by omega) (by omega)
        omega
      | none =>
        rw [dayAt_none (by simpa using List.find?_eq_none.mp ht)]
        have h5 : (t - baseOf bs) / p ≤ (u - baseOf bs) / p := Int.ediv_le_ediv (by omega) (by omega)
        have h6 : ((t - baseOf bs) / p + 1) * p ≤ ((u - baseOf bs) / p + 1) * p := Int.mul_le_mul_of_nonneg_right (by omega) (by omega)
        omega
  | .op o a b, ⟨ha, hb, _, _⟩, t, u, e => by
    have h1 := at_mono ha e
    have h2 := at_mono hb e
    have h3 := at_mono hb h1
    cases o
    · show mx _ _ ≤ mx _ _; unfold mx; split <;> split <;> omega
    · show mn _ _ ≤ mn _ _; unfold mn; split <;> split <;> omega
    · exact h3

section
variable {w : World} {K : PySem.W.Frag} {mg : Str → Option Value} {base : Heap}
def spMade (T : Tx K mg) (d : Nat) : Sp := fun vs H Q _ => ∃ (F : Addr → Prop) (a : Addr) (p : Plan), (∀ x, F x → H x ≠ none) ∧ vs = [.ref a] ∧ PlanAt H a p ∧ p.Ok ∧ p.forms ≤ d ∧ ∀ r H', Same H H' → RestAt T F H' r p → Q (.ref r) H'
theorem k_make {C : Addr} {sp : Sp} {dvs : List V} {E : XK} {t : TA} {σ : L2.St} {H : Hp} {Q : VK} (h : t σ H fun vs H1 => ∀ x dx, H1 x = none → H1 dx = none → dx ≠ x →
  sp (.ref x :: (vs ++ dvs)) (upd (upd H1 dx (.own x)) x (.ins C dx [])) (fun v H2 => v = .non ∧ Q (.ref x) H2) E) : tMake C sp dvs E t σ H Q := h
theorem same_made {H : Hp} {x dx C : Addr} (nx : H x = none) (ndx : H dx = none) (ne : dx ≠ x) : Same H (upd (upd H dx (.own x)) x (.ins C dx [])) := (same_new ndx).trans (same_new (by rw [upd_ne (Ne.symm ne)]; exact nx))
theorem up_nn {H H' : Hp} {x : Addr} (s : Same H H') (h : H x ≠ none) : H' x ≠ none := by
  cases hz : H x with
  | none => exact absurd hz h
  | some o => rw [s _ _ hz]; intro z; cases z
theorem ok_made0 (T : Tx K mg) (d : Nat) (ih : FnOk P w K mg base CX0 (d + 5) T.a_made T.fd_made P_made (spMade T d)) : FnOk P w K mg base CX0 (d + 6) T.a_made T.fd_made P_made (spMade T (d + 1)) := by
  refine T.F_made.ok sc_made (fun vs H Q E h => ?_) (fun cdv A outer s H vs Q E hr h => ?_)
  · obtain ⟨F, a, p, _, rfl, _⟩ := h
    rfl
  · obtain ⟨F, a, p, hFH, rfl, ha, op, hf, k⟩ := h
    have nd := sc_made.nd
    refine ⟨_, (pss_cons (ps_if (pt_cmpR op_eq (pe_ix (kix K) (kv (i := 0) v_made_law_form_here) pe_int (fun _ _ => rfl)) pe_str (nomark _)) (pss_one (ps_ret (pe_make T.mk_Window (ok_Window_init T) (hr.mono (by first | decide | omega)) g_made_Window T.m_Window T.b_Window_init .nil pass0 (pa_cons (pe_ix (kix K) (kv (i := 0) v_made_law_form_here) pe_int (fun _ _ => rfl)) pa_nil)))) pss_nil)
      (pss_cons (ps_if (pt_cmpR op_eq (pe_ix (kix K) (kv (i := 0) v_made_law_form_here) pe_int (fun _ _ => rfl)) pe_str (nomark _)) (pss_one (ps_ret (pe_make T.mk_Days (ok_Days_init T) (hr.mono (by first | decide | omega)) g_made_Days T.m_Days T.b_Days_init .nil pass0 (pa_cons (kcT b_list (by decide) (by decide) (kc_list K) g_made_list T.n_list (pa_cons (pe_ix (kix K) (kv (i := 0) v_made_law_form_here) pe_int (fun _ _ => rfl)) pa_nil)) (pa_cons (pe_ix (kix K) (kv (i := 0) v_made_law_form_here) pe_int (fun _ _ => rfl)) pa_nil))))) pss_nil)
      (pss_cons (ps_if (pt_cmpR op_eq (pe_ix (kix K) (kv (i := 0) v_made_law_form_here) pe_int (fun _ _ => rfl)) pe_str (nomark _)) (pss_one (ps_ret (pe_make T.mk_Later (ok_Later_init T) (hr.mono (by first | decide | omega)) g_made_Later T.m_Later T.b_Later_init .nil pass0 (pa_cons (pe_call ih (hr.mono (by first | decide | omega)) g_made_law_made T.m_made T.k_made T.b_made .nil pass0 (pa_cons (pe_ix (kix K) (kv (i := 0) v_made_law_form_here) pe_int (fun _ _ => rfl)) pa_nil)) (pa_cons (pe_call ih (hr.mono (by first | decide | omega)) g_made_law_made T.m_made T.k_made T.b_made .nil pass0 (pa_cons (pe_ix (kix K) (kv (i := 0) v_made_law_form_here) pe_int (fun _ _ => rfl)) pa_nil)) pa_nil))))) pss_nil)
      (pss_cons (ps_if (pt_cmpR op_eq (pe_ix (kix K) (kv (i := 0) v_made_law_form_here) pe_int (fun _ _ => rfl)) pe_str (nomark _)) (pss_one (ps_ret (pe_make T.mk_Sooner (ok_Sooner_init T) (hr.mono (by first | decide | omega)) g_made_Sooner T.m_Sooner T.b_Sooner_init .nil pass0 (pa_cons (pe_call ih (hr.mono (by first | decide | omega)) g_made_law_made T.m_made T.k_made T.b_made .nil pass0 (pa_cons (pe_ix (kix K) (kv (i := 0) v_made_law_form_here) pe_int (fun _ _ => rfl)) pa_nil)) (pa_cons (pe_call ih (hr.mono (by first | decide | omega)) g_made_law_made T.m_made T.k_made T.b_made .nil pass0 (pa_cons (pe_ix (kix K) (kv (i := 0) v_made_law_form_here) pe_int (fun _ _ => rfl)) pa_nil)) pa_nil))))) pss_nil)
      (pss_one (ps_ret (pe_make T.mk_Next (ok_Next_init T) (hr.mono (by first | decide | omega)) g_made_Next T.m_Next T.b_Next_init .nil pass0 (pa_cons (pe_call ih (hr.mono (by first | decide | omega)) g_made_law_made T.m_made T.k_made T.b_made .nil pass0 (pa_cons (pe_ix (kix K) (kv (i := 0) v_made_law_form_here) pe_int (fun _ _ => rfl)) pa_nil)) (pa_cons (pe_call ih (hr.mono (by first | decide | omega)) g_made_law_made T.m_made T.k_made T.b_made .nil pass0 (pa_cons (pe_ix (kix K) (kv (i := 0) v_made_law_form_here) pe_int (fun _ _ => rfl)) pa_nil)) pa_nil))))))))), ?_⟩
    cases ha with
    | win h =>
      rename_i w0
      walk_at "ss"
      refine k_eqT ?_
      walk_at "ss"
      refine k_make ?_
      walk_at "ss"
      intro x dx nx ndx ne
      exact ⟨F, x, dx, w0, rfl, op.1, op.2, upd_same, fun H' s r => ⟨rfl, k x H' (SameBut.made nx ndx ne s) r⟩⟩
    | days h he =>
      rename_i e bs p
      walk_at "ss"
      refine k_eqF ne1 ?_
      walk_at "ss"
      refine k_eqT ?_
      walk_at "ss"
      refine k_make ?_
      walk_at "ss"
      refine k_listT (SqT.of he) ?_
      intro l nl
      generalize el : upd H l _ = H1
      have sl := upd_sm el nl
      have hl := upd_at el
      clear el
      have h := sl _ _ h
      walk_at "ss"
      intro x dx nx ndx ne
      exact ⟨F, x, dx, l, bs, p, fun z hz => up_nn (same_made nx ndx ne) (up_nn sl (hFH z hz)), rfl, op, upd_same, same_made nx ndx ne _ _ hl, fun H' s r => ⟨rfl, k x H' (sl.trans (SameBut.made nx ndx ne s)) r⟩⟩
    | op h h1 h2 =>
      rename_i a1 a2 o p q
      have op' := op
      obtain ⟨op, oq, _, _⟩ := op
      have f1 : 1 + p.forms + q.forms ≤ d + 1 := hf
      walk_at "ss"
      refine k_eqF (neOW o) ?_
      walk_at "ss"
      refine k_eqF (neOD o) ?_
      walk_at "ss"
      cases o with
      | later =>
        refine k_eqT ?_
        walk_at "ss"
        refine k_make ?_
        walk_at "ss"
        refine ⟨F, a1, p, hFH, rfl, h1, op, by omega, fun r1 H1 s1 hr1 => ?_⟩
        have h := s1 _ _ h
        walk_at "ss"
        refine ⟨F, a2, q, fun z hz => up_nn s1 (hFH z hz), rfl, h2.up s1, oq, by omega, fun r2 H2 s2 hr2 => ?_⟩
        have s12 := s1.trans s2
        have hr1 := hr1.up s2
        walk_at "ss"
        intro x dx nx ndx ne
        have sm := same_made (C := T.C_Later) nx ndx ne
        exact ⟨F, x, dx, r1, r2, p, q, rfl, op', upd_same, hr1.up sm, hr2.up sm, fun H' s r => ⟨rfl, k x H' (s12.trans (SameBut.made nx ndx ne s)) r⟩⟩
      | sooner =>
        refine k_eqF (by decide +kernel) ?_
        walk_at "ss"
        refine k_eqT ?_
        walk_at "ss"
        refine k_make ?_
        walk_at "ss"
        refine ⟨F, a1, p, hFH, rfl, h1, op, by omega, fun r1 H1 s1 hr1 => ?_⟩
        have h := s1 _ _ h
        walk_at "ss"
        refine ⟨F, a2, q, fun z hz => up_nn s1 (hFH z hz), rfl, h2.up s1, oq, by omega, fun r2 H2 s2 hr2 => ?_⟩
        have s12 := s1.trans s2
        have hr1 := hr1.up s2
        walk_at "ss"
        intro x dx nx ndx ne
        have sm := same_made (C := T.C_Sooner) nx ndx ne
        exact ⟨F, x, dx, r1, r2, p, q, rfl, op', upd_same, hr1.up sm, hr2.up sm, fun H' s r => ⟨rfl, k x H' (s12.trans (SameBut.made nx ndx ne s)) r⟩⟩
      | next =>
        refine k_eqF (by decide +kernel) ?_
        walk_at "ss"
        refine k_eqF (by decide +kernel) ?_
        walk_at "ss"
        refine k_make ?_
        walk_at "ss"
        refine ⟨F, a1, p, hFH, rfl, h1, op, by omega, fun r1 H1 s1 hr1 => ?_⟩
        have h := s1 _ _ h
        walk_at "ss"
        refine ⟨F, a2, q, fun z hz => up_nn s1 (hFH z hz), rfl, h2.up s1, oq, by omega, fun r2 H2 s2 hr2 => ?_⟩
        have s12 := s1.trans s2
        have hr1 := hr1.up s2
        walk_at "ss"
        intro x dx nx ndx ne
        have sm := same_made (C := T.C_Next) nx ndx ne
        exact ⟨F, x, dx, r1, r2, p, q, rfl, op', upd_same, hr1.up sm, hr2.up sm, fun H' s r => ⟨rfl, k x H' (s12.trans (SameBut.made nx ndx ne s)) r⟩⟩
theorem okr_made (T : Tx K mg) : ∀ d, FnOk P w K mg base CX0 (d + 5) T.a_made T.fd_made P_made (spMade T d)
  | 0 => by
    have h0 : ∀ vs H Q E, spMade T 0 vs H Q E → False := fun vs H Q E h => by
      obtain ⟨F, a, p, _, _, _, _, hf, _⟩ := h
      have := p.forms_pos
      omega
    exact ⟨fun vs H Q E h => (h0 _ _ _ _ h).elim, fun A outer s H args us vs Q E _ _ _ _ h => (h0 _ _ _ _ h).elim⟩
  | d + 1 => ok_made0 T d (okr_made T d)
theorem ok_made (T : Tx K mg) : FnOk P w K mg base CX0 11 T.a_made T.fd_made P_made (spMade T 6) := okr_made T 6
end

section
variable {w : World} {K : PySem.W.Frag} {mg : Str → Option Value} {base : Heap}
/-! ### the box -/
structure BoxAt (H : Hp) (b C : Addr) : Prop where
  hb : ∃ at_ turn seed : Int, H b = some (.lst [.ref C, .int at_, .int turn, .int seed]) ∧ 0 ≤ at_ ∧ 0 ≤ turn ∧ 0 ≤ seed ∧ seed < 2147483647
  hC : ∃ ns : List Int, H C = some (.lst (ns.map V.int)) ∧ (∀ n ∈ ns, 0 ≤ n) ∧ ns.length ≤ 63
  ne : b ≠ C
theorem BoxAt.up {H H' : Hp} {b C : Addr} (B : BoxAt H b C) (e : Same H H') : BoxAt H' b C := by
  obtain ⟨⟨x, y, z, h1, h2⟩, ⟨ns, h3, h4⟩, ne⟩ := B
  exact ⟨⟨x, y, z, e _ _ h1, h2⟩, ⟨ns, e _ _ h3, h4⟩, ne⟩
def spBox (K : PySem.W.Frag) : Sp := fun vs H Q _ => ∃ (a : Addr) (ns : List Int), vs = [.ref a] ∧ SqL K H a (ns.map V.int) ∧ ∀ b C H', Same H H' → BoxAt H' b C → H b = none → H C = none → Q (.ref b) H'
theorem ok_box (T : Tx K mg) : FnOk P w K mg base CX0 1 T.a_box T.fd_box P_box (spBox K) := by
  refine T.F_box.ok sc_box (fun vs H Q E h => ?_) (fun cdv A outer s H vs Q E hr h => ?_)
  · obtain ⟨a, ns, rfl, _⟩ := h
    rfl
  · obtain ⟨a, ns, rfl, hl, k⟩ := h
    have nd := sc_box.nd
    refine ⟨_, (pss_cons (ps_setLc (i := 1) (own := [("_law_cell", 2)]) rfl nd rfl (locB_ok l_box_law_cells) (sw_true rfl (locB_ok l_box_law_cells) rfl (by decide +kernel)) (kpi_list K (pe_slice (ksl_list K) (kv (i := 0) v_box_law_script) po_none (po_some pe_int))) ok_cs_box_1 (fun _ _ _ _ _ => (kgL (i := 2) nd l_box_1_law_cell)) (fun _ _ _ _ _ => pts_nil) (fun _ _ _ _ _ => (pe_ifExp (pt_cmpR op_ge (kv (i := 2) v_box_1_law_cell) pe_int (nomark _)) (kcT b_int (by decide) (by decide) kc_int g_box_1_int T.n_int (pa_cons (kv (i := 2) v_box_1_law_cell) pa_nil)) (pe_op op_sub pe_int (pe_op op_mul pe_int (kcT b_int (by decide) (by decide) kc_int g_box_1_int T.n_int (pa_cons (kv (i := 2) v_box_1_law_cell) pa_nil)))))))
      (pss_one (ps_ret (pe_lst (pa_cons (kv (i := 1) v_box_law_cells) (pa_cons pe_int (pa_cons pe_int (pa_cons pe_int pa_nil)))))))), ?_⟩
    walk_at "ss"
    refine k_slL hl ?_
    intro p np
    have hlen := cutV_length (ns.map V.int) none (some 63)
    have hl63 : (cutV (ns.map V.int) none (some 63)).length ≤ 63 := by
      have e63 : HT.sIx (ns.map V.int).length (ns.map V.int).length (some 63) = min 63 (ns.map V.int).length := HT.sIx_nat _ _ 63
      unfold cutV
      rw [List.length_take, e63]
      omega
    obtain ⟨ms, hms⟩ := cut_ints (ns := ns) (lo := none) (hi := some 63)
    rw [hms] at hl63 ⊢
    rw [List.length_map] at hl63
    generalize e1 : upd H p _ = H1
    have s1 := upd_sm e1 np
    have hp := upd_at e1
    clear e1
    refine k_iL (SqL.of hp) ?_
    intro D nD
    refine k_lcList (ms.map V.int) (fun i H' => ∃ qs : List Int, H' D = some (.lst (qs.map V.int)) ∧ qs.length = i ∧ (∀ n ∈ qs, 0 ≤ n) ∧ Same H1 H') ⟨[], upd_same, rfl, fun z hz => (by cases hz), same_new nD⟩ ?_ ?_ ?_
    · rintro i H' _ ⟨qs, _, _, _, sm⟩
      exact SqL.of (sm _ _ hp)
    · rintro i x H' hx ⟨qs, hD, hlen, hpos, sm⟩
      obtain ⟨z, hz, rfl⟩ := map_int_at hx
      have hil := (List.getElem?_eq_some_iff.mp hz).1
      walk_at "ss"
      refine ⟨rfl, ?_⟩
      walk_at "ss"
      refine k_d (fun h => ?_) (fun h => ?_)
      · walk_at "ss"
        refine ⟨_, hD, small_lt (by rw [List.length_map]; omega), qs ++ [z], by rw [upd_same, List.map_append]; rfl, by simp [hlen], fun n hn => ?_, same_put sm nD⟩
        rcases List.mem_append.mp hn with hn | hn
        · exact hpos n hn
        · rw [List.mem_singleton.mp hn]
          exact h
      · walk_at "ss"
        refine ⟨_, hD, small_lt (by rw [List.length_map]; omega), qs ++ [1 - 2 * z], by rw [upd_same, List.map_append]; rfl, by simp [hlen], fun n hn => ?_, same_put sm nD⟩
        rcases List.mem_append.mp hn with hn | hn
        · exact hpos n hn
        · rw [List.mem_singleton.mp hn]
          omega
    · rintro H2 ⟨qs, hD, hlen, hpos, sm⟩
      walk_at "ss"
      intro b nb
      have s3 := same_new (o := .lst [V.ref D, .int 0, .int 0, .int 1]) nb
      exact k b D _ ((s1.trans sm).trans s3) ⟨⟨0, 0, 1, upd_same, by decide, by decide, by decide, by decide⟩, ⟨qs, s3 _ _ hD, hpos, by rw [hlen, List.length_map]; exact hl63⟩, Ne.symm (ne_of_none hD nb)⟩ (g_none (s1.trans sm) nb) (g_none s1 nD)
theorem ixN_nat' {n j : Nat} (hj : j < n) : ixN n (j : Int) = some j := by
  unfold ixN
  rw [if_pos (by omega), if_pos (by omega)]
  rfl
def spTake (K : PySem.W.Frag) : Sp := fun vs H Q _ => ∃ (b C : Addr) (n : Int), vs = [.ref b, .int n] ∧ BoxAt H b C ∧ 0 < n ∧ n < 2 ^ 30 ∧ ∀ (d : Int) (H' : Hp), 0 ≤ d → d < n → (∀ a, a ≠ b → a ≠ C → H' a = H a) → BoxAt H' b C → Q (.int d) H'
theorem ok_take (T : Tx K mg) : FnOk P w K mg base CX0 1 T.a_take T.fd_take P_take (spTake K) := by
  refine T.F_take.ok sc_take (fun vs H Q E h => ?_) (fun cdv A outer s H vs Q E hr h => ?_)
  · obtain ⟨b, C, n, rfl, _⟩ := h
    rfl
  · obtain ⟨b, C, n, rfl, ⟨⟨at_, turn, seed, hb, ha0, ht0, hs0, hs1⟩, ⟨ns, hC, hpos, hl63⟩, nbC⟩, hn0, hn1, k⟩ := h
    have nd := sc_take.nd
    refine ⟨_, (pss_cons (ks_setL (i := 2) nd l_take_law_cells (pe_ix (kix K) (kv (i := 0) v_take_law_box_here) pe_int (fun _ _ => rfl)))
      (pss_cons (ks_setL (i := 3) nd l_take_law_at (pe_ix (kix K) (kv (i := 0) v_take_law_box_here) pe_int (fun _ _ => rfl)))
      (pss_cons (ks_setL (i := 4) nd l_take_law_turn (pe_ix (kix K) (kv (i := 0) v_take_law_box_here) pe_int (fun _ _ => rfl)))
      (pss_cons (ps_asg (pe_op kop_add (kv (i := 4) v_take_law_turn) pe_int) (pg_sub (kv (i := 0) v_take_law_box_here) pe_int set_list))
      (kss_meet (ps_if (PW.pt (pw_and (pt_cmpR op_lt (kv (i := 3) v_take_law_at) (kcB b_len (by decide) (by decide) (kc_len K) g_take_len T.n_len (pa_cons (kv (i := 2) v_take_law_cells) pa_nil)) (nomark _)) (pw_and1 (pt_cmpR op_ge (pe_ix (kix K) (kv (i := 2) v_take_law_cells) (kv (i := 3) v_take_law_at) (fun _ _ => rfl)) (pe_op op_pow pe_int pe_int) (nomark _))))) (pss_cons (ks_setL (i := 5) nd l_take_law_cell (pe_ix (kix K) (kv (i := 2) v_take_law_cells) (kv (i := 3) v_take_law_at) (fun _ _ => rfl)))
      (pss_cons (ps_asg (pe_op op_fdiv (kv (i := 5) v_take_law_cell) (kv (i := 1) v_take_law_many)) (pg_sub (kv (i := 2) v_take_law_cells) (kv (i := 3) v_take_law_at) set_list))
      (kss_meet (ps_if (pt_cmpR op_lt (pe_ix (kix K) (kv (i := 2) v_take_law_cells) (kv (i := 3) v_take_law_at) (fun _ _ => rfl)) (pe_op op_pow pe_int pe_int) (nomark _)) (pss_one (ps_asg (pe_op kop_add (kv (i := 3) v_take_law_at) pe_int) (pg_sub (kv (i := 0) v_take_law_box_here) pe_int set_list))) pss_nil)
      (pss_one (ps_ret (pe_op op_mod (kcT b_int (by decide) (by decide) kc_int g_take_int T.n_int (pa_cons (kv (i := 5) v_take_law_cell) pa_nil)) (kv (i := 1) v_take_law_many))))))) pss_nil)
      (pss_cons (ks_setL (i := 5) nd l_take_law_cell (kv (i := 4) v_take_law_turn))
      (kss_meet (ps_if (pt_cmpR op_lt (kv (i := 3) v_take_law_at) (kcB b_len (by decide) (by decide) (kc_len K) g_take_len T.n_len (pa_cons (kv (i := 2) v_take_law_cells) pa_nil)) (nomark _)) (pss_one (ks_setL (i := 5) nd l_take_law_cell (pe_ix (kix K) (kv (i := 2) v_take_law_cells) (kv (i := 3) v_take_law_at) (fun _ _ => rfl)))) (pss_one (ps_if (kpt_truth K (kv (i := 2) v_take_law_cells)) (pss_one (ks_setL (i := 5) nd l_take_law_cell (pe_ix (kix K) (kv (i := 2) v_take_law_cells) (pe_op op_mod (kv (i := 4) v_take_law_turn) (kcB b_len (by decide) (by decide) (kc_len K) g_take_len T.n_len (pa_cons (kv (i := 2) v_take_law_cells) pa_nil))) (fun _ _ => rfl)))) pss_nil)))
      (pss_cons (ps_asg (pe_op op_mod (pe_op kop_add (pe_op kop_add (pe_op kop_add (pe_op op_mul (kcT b_int (by decide) (by decide) kc_int g_take_int T.n_int (pa_cons (pe_ix (kix K) (kv (i := 0) v_take_law_box_here) pe_int (fun _ _ => rfl)) pa_nil)) pe_int) (pe_op op_mod (kcT b_int (by decide) (by decide) kc_int g_take_int T.n_int (pa_cons (kv (i := 5) v_take_law_cell) pa_nil)) pe_int)) (kv (i := 4) v_take_law_turn)) pe_int) pe_int) (pg_sub (kv (i := 0) v_take_law_box_here) pe_int set_list))
      (kss_meet (ps_if (PW.pt (pw_and (pt_cmpR op_eq (pe_op op_mod (kv (i := 4) v_take_law_turn) pe_int) pe_int (nomark _)) (pw_and1 (pt_cmpR op_lt (kv (i := 3) v_take_law_at) (kcB b_len (by decide) (by decide) (kc_len K) g_take_len T.n_len (pa_cons (kv (i := 2) v_take_law_cells) pa_nil)) (nomark _))))) (pss_one (ps_asg (pe_op kop_add (kv (i := 3) v_take_law_at) pe_int) (pg_sub (kv (i := 0) v_take_law_box_here) pe_int set_list))) pss_nil)
      (pss_one (ps_ret (pe_op op_mod (pe_op op_fdiv (pe_op op_mod (pe_op op_mul (kcT b_int (by decide) (by decide) kc_int g_take_int T.n_int (pa_cons (pe_ix (kix K) (kv (i := 0) v_take_law_box_here) pe_int (fun _ _ => rfl)) pa_nil)) (kcT b_int (by decide) (by decide) kc_int g_take_int T.n_int (pa_cons (pe_ix (kix K) (kv (i := 0) v_take_law_box_here) pe_int (fun _ _ => rfl)) pa_nil))) pe_int) pe_int) (kv (i := 1) v_take_law_many))))))))))))), ?_⟩
    walk_at "ss"
    generalize e1 : upd H b _ = H1
    have hb1 : H1 b = some (.lst [.ref C, .int at_, .int (turn + 1), .int seed]) := upd_at e1
    have hC1 : H1 C = some (.lst (ns.map V.int)) := by rw [← e1, upd_ne (Ne.symm nbC)]; exact hC
    have f1 : ∀ a, a ≠ b → a ≠ C → H1 a = H a := fun a h1 h2 => by rw [← e1, upd_ne h1]
    clear e1
    have hat : ∀ {i : Int}, 0 ≤ i → i < (ns.length : Nat) → ∃ z, atI (ns.map V.int) i = some (.int z) ∧ 0 ≤ z ∧ ∃ j : Nat, i = j ∧ ns[j]? = some z := fun {i} h0 h1 => by
      obtain ⟨j, rfl⟩ := Int.eq_ofNat_of_zero_le h0
      have hj : j < ns.length := by omega
      exact ⟨ns[j], atI_nat (by rw [List.getElem?_map, List.getElem?_eq_getElem hj]; rfl), hpos _ (List.getElem_mem hj), j, rfl, List.getElem?_eq_getElem hj⟩
    have e18 : (10 : Int) ^ Int.toNat 18 = 1000000000000000000 := by decide
    refine k_meet (fun σ H' => σ = [some (.ref b), some (.int n), some (.ref C), some (.int at_), some (.int turn), none] ∧ H' = H1) ?_ ?_
    · walk_at "ss"
      refine k_d (fun h => ?_) (fun h => ?_)
      · rw [List.length_map] at h
        obtain ⟨z, hz, hz0, j, rfl, hj⟩ := hat ha0 h
        walk_at "ss"
        refine k_d (fun h2 => ?_) (fun h2 => ?_)
        · walk_at "ss"
          have hjl := (List.getElem?_eq_some_iff.mp hj).1
          refine k_setL (j := j) hC1 (by rw [List.length_map]; exact ixN_nat' hjl) ?_
          have hz2 : 0 ≤ z / n := Int.ediv_nonneg hz0 (by omega)
          generalize e2 : upd H1 C _ = H2
          have hC2 : H2 C = some (.lst ((ns.set j (z / n)).map V.int)) := by rw [upd_at e2, List.map_set]
          have hb2 : H2 b = some (.lst [.ref C, .int (j : Nat), .int (turn + 1), .int seed]) := by rw [← e2, upd_ne nbC]; exact hb1
          have f2 : ∀ a, a ≠ b → a ≠ C → H2 a = H a := fun a h1 h2 => by rw [← e2, upd_ne h2]; exact f1 a h1 h2
          clear e2
          have hz3 : atI ((ns.set j (z / n)).map V.int) ((j : Nat) : Int) = some (.int (z / n)) := atI_nat (by rw [List.getElem?_map, List.getElem?_set_self hjl]; rfl)
          have hC3 : ∃ ms : List Int, H2 C = some (.lst (ms.map V.int)) ∧ (∀ n ∈ ms, 0 ≤ n) ∧ ms.length ≤ 63 := by
            refine ⟨ns.set j (z / n), hC2, fun m hm => ?_, by rw [List.length_set]; exact hl63⟩
            rcases List.mem_or_eq_of_mem_set hm with hm | hm
            · exact hpos m hm
            · rw [hm]
              exact hz2
          have fin : ∀ H', BoxAt H' b C → (∀ a, a ≠ b → a ≠ C → H' a = H a) → Q (.int (z % n)) H' := fun H' B f => k _ H' (Int.emod_nonneg _ (by omega)) (Int.emod_lt_of_pos _ hn0) f B
          walk_at "ss"
          refine k_meet (fun σ H' => σ = [some (.ref b), some (.int n), some (.ref C), some (.int (j : Nat)), some (.int turn), some (.int z)] ∧ BoxAt H' b C ∧ ∀ a, a ≠ b → a ≠ C → H' a = H a) ?_ ?_
          · walk_at "ss"
            refine k_d (fun h3 => ?_) (fun h3 => ?_)
            · walk_at "ss"
              refine ⟨rfl, ⟨⟨_, _, _, upd_same, by omega, by omega, hs0, hs1⟩, ?_, nbC⟩, fun a h1 h2 => by rw [upd_ne h1]; exact f2 a h1 h2⟩
              obtain ⟨ms, h4, h5⟩ := hC3
              exact ⟨ms, by rw [upd_ne (Ne.symm nbC)]; exact h4, h5⟩
            · walk_at "ss"
              exact ⟨rfl, ⟨⟨_, _, _, hb2, by omega, by omega, hs0, hs1⟩, hC3, nbC⟩, f2⟩
          · rintro σ H3 ⟨rfl, B3, f3⟩
            walk_at "ss"
            exact fin H3 B3 f3
        · walk_at "ss"
          exact ⟨rfl, rfl⟩
      · walk_at "ss"
        exact ⟨rfl, rfl⟩
    · rintro σ H2 ⟨rfl, rfl⟩
      walk_at "ss"
      refine k_meet (fun σ H' => ∃ z : Int, σ = [some (.ref b), some (.int n), some (.ref C), some (.int at_), some (.int turn), some (.int z)] ∧ H' = H2) ?_ ?_
      · walk_at "ss"
        refine k_d (fun h => ?_) (fun h => ?_)
        · rw [List.length_map] at h
          obtain ⟨z, hz, _⟩ := hat ha0 h
          walk_at "ss"
          exact ⟨z, rfl, rfl⟩
        · walk_at "ss"
          refine k_truU ?_
          walk_at "ss"
          refine ⟨!(ns.map V.int).isEmpty, .inl ⟨_, SqL.of hC1, rfl⟩, ?_⟩
          cases hE : !(ns.map V.int).isEmpty with
          | false =>
            walk_at "ss"
            exact ⟨turn, rfl, rfl⟩
          | true =>
            have hne : 0 < ns.length := by
              cases ns with
              | nil => cases hE
              | cons x r => simp
            obtain ⟨z, hz, _⟩ := hat (i := turn % (ns.length : Nat)) (Int.emod_nonneg _ (by omega)) (Int.emod_lt_of_pos _ (by omega))
            have hnl : (0 : Int) < ((ns.map V.int).length : Nat) := by rw [List.length_map]; omega
            rw [← List.length_map (f := V.int)] at hz
            walk_at "ss"
            exact ⟨z, rfl, rfl⟩
      · rintro σ H3 ⟨z, rfl, rfl⟩
        walk_at "ss"
        generalize e4 : upd H3 b _ = H4
        have hb4 := upd_at e4
        have hC4 : H4 C = some (.lst (ns.map V.int)) := by rw [← e4, upd_ne (Ne.symm nbC)]; exact hC1
        have f4 : ∀ a, a ≠ b → a ≠ C → H4 a = H a := fun a h1 h2 => by rw [← e4, upd_ne h1]; exact f1 a h1 h2
        have hsd := Int.emod_nonneg (seed * 48271 + z % 1000003 + turn + 1) (show (2147483647 : Int) ≠ 0 by decide)
        have hsd2 := Int.emod_lt_of_pos (seed * 48271 + z % 1000003 + turn + 1) (show (0 : Int) < 2147483647 by decide)
        clear e4
        generalize (seed * 48271 + z % 1000003 + turn + 1) % 2147483647 = sd at hb4 hsd hsd2
        refine k_meet (fun σ H' => σ = [some (.ref b), some (.int n), some (.ref C), some (.int at_), some (.int turn), some (.int z)] ∧ (∃ at2 : Int, H' b = some (.lst [.ref C, .int at2, .int (turn + 1), .int sd]) ∧ 0 ≤ at2) ∧ H' C = some (.lst (ns.map V.int)) ∧ ∀ a, a ≠ b → a ≠ C → H' a = H a) ?_ ?_
        · walk_at "ss"
          refine k_d (fun h => ?_) (fun h => ?_)
          · walk_at "ss"
            refine k_d (fun h2 => ?_) (fun h2 => ?_)
            · walk_at "ss"
              exact ⟨rfl, ⟨_, upd_same, by omega⟩, by rw [upd_ne (Ne.symm nbC)]; exact hC4, fun a h1 h2 => by rw [upd_ne h1]; exact f4 a h1 h2⟩
            · walk_at "ss"
              exact ⟨rfl, ⟨_, hb4, ha0⟩, hC4, f4⟩
          · walk_at "ss"
            exact ⟨rfl, ⟨_, hb4, ha0⟩, hC4, f4⟩
        · rintro σ H5 ⟨rfl, ⟨at2, hb5, h25⟩, hC5, f5⟩
          walk_at "ss"
          exact k _ H5 (Int.emod_nonneg _ (by omega)) (Int.emod_lt_of_pos _ hn0) f5 ⟨⟨_, _, _, hb5, h25, by omega, hsd, hsd2⟩, ⟨ns, hC5, hpos, hl63⟩, nbC⟩
end

section
variable {w : World} {K : PySem.W.Frag} {mg : Str → Option Value} {base : Heap}
/-! ### forms -/
def Fb (b C : Addr) (H H' : Hp) : Prop := ∀ x o, x ≠ b → x ≠ C → H x = some o → H' x = some o
theorem Fb.of {b C : Addr} {H H' : Hp} (f : ∀ a, a ≠ b → a ≠ C → H' a = H a) : Fb b C H H' := fun x o h1 h2 h => by rw [f x h1 h2]; exact h
theorem Fb.same {b C : Addr} {H H' : Hp} (e : Same H H') : Fb b C H H' := fun x o _ _ h => e _ _ h
theorem Fb.trans {b C : Addr} {H H1 H2 : Hp} (x : Fb b C H H1) (y : Fb b C H1 H2) : Fb b C H H2 := fun a o h1 h2 h => y a o h1 h2 (x a o h1 h2 h)
theorem Fb.tup {b C : Addr} {H H' : Hp} (f : Fb b C H H') (B : BoxAt H b C) {a : Addr} {xs : List V} (h : H a = some (.tup xs)) : H' a = some (.tup xs) := by
  obtain ⟨⟨_, _, _, hb, _⟩, ⟨_, hC, _⟩, _⟩ := B
  exact f a _ (ne_of h hb (by intro z; cases z)) (ne_of h hC (by intro z; cases z)) h
theorem Fb.plan {b C : Addr} {H H' : Hp} (f : Fb b C H H') (B : BoxAt H b C) : ∀ {a : Addr} {p : Plan}, PlanAt H a p → PlanAt H' a p := by
  intro a p h
  induction h with
  | win h => exact .win (f.tup B h)
  | days h he => exact .days (f.tup B h) (f.tup B he)
  | op h h1 h2 i1 i2 => exact .op (f.tup B h) i1 i2
/-- new at a heap in which the box stands -/
theorem Fb.new {b C x : Addr} {H H' : Hp} (f : Fb b C H H') (B : BoxAt H b C) (B' : BoxAt H' b C) (n : H' x = none) : H x = none ∧ x ≠ b ∧ x ≠ C := by
  obtain ⟨⟨_, _, _, hb, _⟩, ⟨_, hC, _⟩, _⟩ := B'
  have h1 := Ne.symm (ne_of_none hb n)
  have h2 := Ne.symm (ne_of_none hC n)
  refine ⟨?_, h1, h2⟩
  cases hz : H x with
  | none => rfl
  | some o => rw [f x o h1 h2 hz] at n; cases n
theorem k_take {b C : Addr} {n : Int} {H : Hp} {Q : VK} {E : XK} (B : BoxAt H b C) (h0 : 0 < n) (h1 : n < 2 ^ 30) (k : ∀ (d : Int) (H' : Hp), 0 ≤ d → d < n → Fb b C H H' → BoxAt H' b C → Q (.int d) H') : spTake K [.ref b, .int n] H Q E :=
  ⟨b, C, n, rfl, B, h0, h1, fun d H' d0 d1 f B' => k d H' d0 d1 (.of f) B'⟩
def Leaf (p : Plan) : Prop := p.Ok ∧ p.forms = 1 ∧ p.period ≤ 9
theorem cut_last (bs : List Int) : cutV (bs.map V.int) (some (-1)) none = (match bs.getLast? with | none => [] | some c => [c]).map V.int := by
  rcases List.eq_nil_or_concat bs with rfl | ⟨l, c, rfl⟩
  · rfl
  · unfold cutV
    have e : HT.sIx (List.map V.int (l.concat c)).length 0 (some (-1)) = l.length := by
      show (if (-1 : Int) < 0 then ((-1 : Int) + ((List.map V.int (l.concat c)).length : Int)).toNat else min (Int.toNat (-1)) (List.map V.int (l.concat c)).length) = l.length
      rw [if_pos (by decide), List.length_map, List.length_concat]
      omega
    rw [e, HT.sIx_none, List.concat_eq_append, List.map_append, List.length_append, List.length_map, List.drop_left' (by rw [List.length_map])]
    simp
def spPlainF : Sp := fun vs H Q _ => ∃ (b C : Addr), vs = [.ref b] ∧ BoxAt H b C ∧ ∀ (a : Addr) (p : Plan) (H' : Hp), PlanAt H' a p → Leaf p → Fb b C H H' → BoxAt H' b C → Q (.ref a) H'
theorem ok_plain_form (T : Tx K mg) : FnOk P w K mg base CX0 2 T.a_plain_form T.fd_plain_form P_plain_form spPlainF := by
  refine T.F_plain_form.ok sc_plain_form (fun vs H Q E h => ?_) (fun cdv A outer s H vs Q E hr h => ?_)
  · obtain ⟨b, C, rfl, _⟩ := h
    rfl
  · obtain ⟨b, C, rfl, B, k⟩ := h
    have nd := sc_plain_form.nd
    refine ⟨_, (pss_cons (ps_if (pt_cmpR op_lt (pe_call (ok_take T) (hr.mono (by first | decide | omega)) g_plain_form_law_take T.m_take T.k_take T.b_take .nil pass0 (pa_cons (kv (i := 0) v_plain_form_law_box_here) (pa_cons pe_int pa_nil))) pe_int (nomark _)) (pss_one (ps_ret (pe_tup (pa_cons pe_str (pa_cons (pe_op kop_add pe_int (pe_call (ok_take T) (hr.mono (by first | decide | omega)) g_plain_form_law_take T.m_take T.k_take T.b_take .nil pass0 (pa_cons (kv (i := 0) v_plain_form_law_box_here) (pa_cons pe_int pa_nil)))) pa_nil))))) pss_nil)
      (pss_cons (ks_setL (i := 1) nd l_plain_form_law_borders (pe_lst pa_nil))
      (pss_cons (ps_for PassesOwn.never rfl (pi_range1 g_plain_form_range T.n_range (pa_cons (pe_call (ok_take T) (hr.mono (by first | decide | omega)) g_plain_form_law_take T.m_take T.k_take T.b_take .nil pass0 (pa_cons (kv (i := 0) v_plain_form_law_box_here) (pa_cons pe_int pa_nil))) pa_nil)) (kgL (i := 2) nd l_plain_form_law_k) (pss_one (ps_expr (pe_bm PySem.F.plainAttrs_list PySem.F.slot_list_append PySem.F.type_list_append mt_append (kv (i := 1) v_plain_form_law_borders) (pa_cons (pe_op kop_add (pe_op kop_add (kcB b_sum (by decide) (by decide) (kc_sum K rfl) g_plain_form_sum T.n_sum (pa_cons (pe_slice (ksl_list K) (kv (i := 1) v_plain_form_law_borders) (po_some (pe_un un_neg pe_int)) po_none) pa_nil)) pe_int) (pe_call (ok_take T) (hr.mono (by first | decide | omega)) g_plain_form_law_take T.m_take T.k_take T.b_take .nil pass0 (pa_cons (kv (i := 0) v_plain_form_law_box_here) (pa_cons pe_int pa_nil)))) pa_nil)))))
      (pss_one (ps_ret (pe_tup (pa_cons pe_str (pa_cons (kcT b_tuple (by decide) (by decide) (kc_tuple K) g_plain_form_tuple T.n_tuple (pa_cons (kv (i := 1) v_plain_form_law_borders) pa_nil)) (pa_cons (pe_op kop_add pe_int (pe_call (ok_take T) (hr.mono (by first | decide | omega)) g_plain_form_law_take T.m_take T.k_take T.b_take .nil pass0 (pa_cons (kv (i := 0) v_plain_form_law_box_here) (pa_cons pe_int pa_nil)))) pa_nil))))))))), ?_⟩
    walk_at "ss"
    refine k_take B (by omega) (by omega) fun d H1 d0 d1 f1 B1 => ?_
    walk_at "ss"
    refine k_d (fun h => ?_) (fun h => ?_)
    · walk_at "ss"
      refine k_take B1 (by omega) (by omega) fun d2 H2 d20 d21 f2 B2 => ?_
      walk_at "ss"
      intro t nt
      have s3 := same_new (o := .tup [V.str "window", .int (1 + d2)]) nt
      exact k t (.win (1 + d2)) _ (.win upd_same) ⟨⟨by omega, by omega⟩, rfl, by show (1 : Int) ≤ 9; decide⟩ ((f1.trans f2).trans (.same s3)) (B2.up s3)
    · walk_at "ss"
      intro L nL
      generalize e2 : upd H1 L _ = H2
      have s2 := upd_sm e2 nL
      have hL := upd_at e2
      clear e2
      have B2 := B1.up s2
      have f2 := f1.trans (.same s2)
      obtain ⟨nLH, nLb, nLC⟩ := f1.new B B1 nL
      walk_at "ss"
      refine k_take B2 (by omega) (by omega) fun m H3 m0 m1 f3 B3 => ?_
      have hL3 := f3 _ _ nLb nLC hL
      have f3 := f2.trans f3
      walk_at "ss"
      refine k_r1 ⟨by omega, by omega⟩ ?_
      refine k_forRange (fun i σ H' => ∃ (v2 : Option V) (bs : List Int), σ = [some (.ref b), some (.ref L), v2] ∧ H' L = some (.lst (bs.map V.int)) ∧ Fb b C H H' ∧ BoxAt H' b C ∧ bs.length = i ∧ Asc 0 bs ∧ ∀ c ∈ bs, c ≤ 9 * (i : Int)) ⟨none, [], rfl, hL3, f3, B3, rfl, trivial, fun c hc => (by cases hc)⟩ ?_ ?_
      · rintro i σ H4 hi ⟨v2, bs, rfl, hL4, f4, B4, hlen, hasc, hle⟩
        walk_at "ss"
        refine k_bm ?_
        walk_at "ss"
        refine ⟨.inl ⟨rfl, _, SqL.of hL4⟩, ?_⟩
        walk_at "ss"
        refine k_slL (SqL.of hL4) ?_
        intro p np
        rw [cut_last]
        generalize e5 : upd H4 p _ = H5
        have s5 := upd_sm e5 np
        have hp5 := upd_at e5
        clear e5
        have B5 := B4.up s5
        have hsum : (match bs.getLast? with | none => [] | some c => [c]).sum = baseOf bs := by
          unfold baseOf
          cases bs.getLast? with
          | none => rfl
          | some c => simp
        have hL5 := s5 _ _ hL4
        walk_at "ss"
        refine ⟨p, _, rfl, SqL.of hp5, ?_⟩
        rw [hsum]
        walk_at "ss"
        refine k_take B5 (by omega) (by omega) fun d2 H6 d20 d21 f6 B6 => ?_
        have hL6 := f6 _ _ nLb nLC hL5
        have f46 := (f4.trans (.same s5)).trans f6
        walk_at "ss"
        refine k_app hL6 (by rw [List.length_map]; omega) ?_
        have hb0 : 0 ≤ baseOf bs ∧ baseOf bs ≤ 9 * (i : Int) := by
          by_cases e : bs = []
          · rw [e]
            exact ⟨by decide, by show (0 : Int) ≤ 9 * (i : Int); omega⟩
          · have hm := base_mem e
            exact ⟨Int.le_of_lt (asc_lt hasc _ hm), hle _ hm⟩
        refine ⟨_, bs ++ [baseOf bs + 1 + d2], rfl, by rw [upd_same, List.map_append]; rfl, fun x o h1 h2 h => by rw [upd_ne (ne_of_none h nLH)]; exact f46 x o h1 h2 h, ?_, by simp [hlen], asc_snoc hasc (by unfold baseOf; omega), fun c hc => ?_⟩
        · obtain ⟨⟨x, y, z, h1, h2⟩, ⟨ns, h3, h4⟩, ne⟩ := B6
          exact ⟨⟨x, y, z, by rw [upd_ne (Ne.symm nLb)]; exact h1, h2⟩, ⟨ns, by rw [upd_ne (Ne.symm nLC)]; exact h3, h4⟩, ne⟩
        · rcases List.mem_append.mp hc with hc | hc
          · have := hle c hc
            omega
          · rw [List.mem_singleton.mp hc]
            omega
      · rintro σ H4 ⟨v2, bs, rfl, hL4, f4, B4, hlen, hasc, hle⟩
        walk_at "ss"
        refine k_tupleL (SqL.of hL4) ?_
        intro e ne
        generalize e5 : upd H4 e _ = H5
        have s5 := upd_sm e5 ne
        have he5 := upd_at e5
        clear e5
        have B5 := B4.up s5
        walk_at "ss"
        refine k_take B5 (by omega) (by omega) fun d2 H6 d20 d21 f6 B6 => ?_
        have he6 := f6.tup B5 he5
        walk_at "ss"
        intro t nt
        have s7 := same_new (o := .tup [V.str "days", .ref e, .int (1 + d2)]) nt
        refine k t (.days bs (1 + d2)) _ (.days upd_same (s7 _ _ he6)) ⟨⟨hasc, fun c hc => ?_, by omega, by omega, by omega⟩, rfl, by show 1 + d2 ≤ 9; omega⟩ (((f4.trans (.same s5)).trans f6).trans (.same s7)) (B6.up s7)
        have := hle c hc
        omega
end

section
variable {w : World} {K : PySem.W.Frag} {mg : Str → Option Value} {base : Heap}
def rSumT (K : PySem.W.Frag) : List V → Hp → VK → Prop := fun vs H Q => ∃ (a : Addr) (ns : List Int), vs = [V.ref a] ∧ SqT K H a (ns.map V.int) ∧ Q (.int ns.sum) H
theorem cr_sumT {X : Cx} (hc : X.calm = true) : CallR X (.builtin "sum") (rSumT X.K) := by
  intro pins s σ H vs us Q I r h
  obtain ⟨a, ns, rfl, hs, q⟩ := h
  obtain ⟨its, rv, ht, _⟩ := I.tuple hs
  rw [Vals.ref1 r]
  have hi := rv.ints
  obtain ⟨xs, e⟩ := hi.allInts.items
  have hn : numsOf (intItems xs).toList = ns := by rw [← e]; exact hi.numsOf
  rw [nums_intItems] at hn
  rw [e] at ht
  refine PySem.W.ktm_sumG (I.ok.hd hc) ht fun h' tk t' hk => ?_
  have hq : Q (.int (preSum (numAt xs) xs.size)) H := by
    rw [preSum_eq, List.take_of_length_le (by simp), hn]
    exact q
  exact ⟨.int _, H, I.kept hk, ⟨_, rfl⟩, hq⟩
theorem kc_sumT {X : Cx} (K : PySem.W.Frag) (hc : X.calm = true) (hK : X.K = K := by rfl) : CallR X (.builtin "sum") (rSumT K) := by subst hK; exact cr_sumT hc
theorem ksl_tupA (K : PySem.W.Frag) {X : Cx} (hK : X.K = K := by rfl) : SlR X (rSlA K) := by subst hK; exact sl_tupA
abbrev lastL (bs : List Int) : List Int := match bs.getLast? with | none => [] | some c => [c]
theorem last_sum (bs : List Int) : (lastL bs).sum = baseOf bs := by
  unfold lastL baseOf
  cases bs.getLast? with
  | none => rfl
  | some c => simp
theorem k_slLast {K : PySem.W.Frag} {e : Addr} {bs : List Int} {H : Hp} {Q : VK} (he : H e = some (.tup (bs.map V.int))) (k : ∀ p H', Same H H' → H' p = some (.tup ((lastL bs).map V.int)) → Q (.ref p) H') : rSlA K (.ref e) (some (-1)) none H Q := by
  refine ⟨e, _, rfl, SqT.of he, fun hw => ?_, fun _ p np => ?_⟩
  · have h0 : HT.sIx (bs.map V.int).length 0 (some (-1)) = 0 := hw.1
    have hb : lastL bs = bs := by
      rcases List.eq_nil_or_concat bs with rfl | ⟨l, c, rfl⟩
      · rfl
      · have h1 : (if (-1 : Int) < 0 then ((-1 : Int) + (((l.concat c).map V.int).length : Int)).toNat else min (Int.toNat (-1)) ((l.concat c).map V.int).length) = 0 := h0
        rw [if_pos (by decide), List.length_map, List.length_concat] at h1
        have : l = [] := List.length_eq_zero_iff.mp (by omega)
        rw [this]
        rfl
    exact k e H (Same.refl _) (by rw [hb]; exact he)
  · rw [cut_last]
    exact k p _ (same_new np) upd_same
theorem at_mem' {α : Type} {xs : List α} {d : Int} (h0 : 0 ≤ d) (h1 : d < (xs.length : Nat)) : ∃ v, atI xs d = some v ∧ v ∈ xs := by
  obtain ⟨j, rfl⟩ := Int.eq_ofNat_of_zero_le h0
  have hj : j < xs.length := by omega
  exact ⟨xs[j], atI_nat (List.getElem?_eq_getElem hj), List.getElem_mem hj⟩
theorem lcmI_le' {a b : Int} (h : 0 < a) (h' : 0 < b) : lcmI a b ≤ a * b := by
  obtain ⟨n, rfl⟩ := Int.eq_ofNat_of_zero_le (Int.le_of_lt h)
  obtain ⟨m, rfl⟩ := Int.eq_ofNat_of_zero_le (Int.le_of_lt h')
  unfold lcmI
  rw [Int.natAbs_natCast, Int.natAbs_natCast, ← Int.natCast_mul]
  exact Int.ofNat_le.mpr (Nat.le_of_dvd (Nat.mul_pos (by omega) (by omega)) (Nat.lcm_dvd_mul n m))
theorem leaf_op {o : Op} {p q : Plan} (hp : Leaf p) (hq : Leaf q) : (Plan.op o p q).Ok ∧ (Plan.op o p q).forms ≤ 3 := by
  obtain ⟨p1, p2, p3⟩ := hp
  obtain ⟨q1, q2, q3⟩ := hq
  have f : (Plan.op o p q).forms = 1 + p.forms + q.forms := rfl
  have hl := lcmI_le' (period_pos p1).1 (period_pos q1).1
  have a1 := (period_pos p1).1
  have a2 := (period_pos q1).1
  have hm : p.period * q.period ≤ 9 * 9 := Int.mul_le_mul p3 q3 (by omega) (by omega)
  exact ⟨⟨p1, q1, by omega, by show lcmI p.period q.period ≤ 2000; omega⟩, by omega⟩
def spForm : Sp := fun vs H Q _ => ∃ (b C : Addr), vs = [.ref b] ∧ BoxAt H b C ∧ ∀ (a : Addr) (p : Plan) (H' : Hp), PlanAt H' a p → p.Ok → p.forms ≤ 3 → Fb b C H H' → BoxAt H' b C → Q (.ref a) H'
theorem ok_form (T : Tx K mg) : FnOk P w K mg base CX0 3 T.a_form T.fd_form P_form spForm := by
  refine T.F_form.ok sc_form (fun vs H Q E h => ?_) (fun cdv A outer s H vs Q E hr h => ?_)
  · obtain ⟨b, C, rfl, _⟩ := h
    rfl
  · obtain ⟨b, C, rfl, B, k⟩ := h
    have nd := sc_form.nd
    refine ⟨_, (pss_cons (ks_setL (i := 1) nd l_form_law_word (pe_ix (kix K) (pe_tup (pa_cons pe_str (pa_cons pe_str (pa_cons pe_str (pa_cons pe_str (pa_cons pe_str (pa_cons pe_str pa_nil))))))) (pe_call (ok_take T) (hr.mono (by first | decide | omega)) g_form_law_take T.m_take T.k_take T.b_take .nil pass0 (pa_cons (kv (i := 0) v_form_law_box_here) (pa_cons pe_int pa_nil))) (fun _ _ => rfl)))
      (pss_cons (ks_setL (i := 2) nd l_form_law_first (pe_call (ok_plain_form T) (hr.mono (by first | decide | omega)) g_form_law_plain_form T.m_plain_form T.k_plain_form T.b_plain_form .nil pass0 (pa_cons (kv (i := 0) v_form_law_box_here) pa_nil)))
      (pss_cons (ps_if (pt_cmpR op_eq (kv (i := 1) v_form_law_word) pe_str (nomark _)) (pss_one (ps_ret (kv (i := 2) v_form_law_first))) pss_nil)
      (pss_one (ps_ret (pe_tup (pa_cons (kv (i := 1) v_form_law_word) (pa_cons (kv (i := 2) v_form_law_first) (pa_cons (pe_call (ok_plain_form T) (hr.mono (by first | decide | omega)) g_form_law_plain_form T.m_plain_form T.k_plain_form T.b_plain_form .nil pass0 (pa_cons (kv (i := 0) v_form_law_box_here) pa_nil)) pa_nil))))))))), ?_⟩
    walk_at "ss"
    intro t nt
    generalize e1 : upd H t _ = H1
    have s1 := upd_sm e1 nt
    have ht := upd_at e1
    clear e1
    have B1 := B.up s1
    walk_at "ss"
    refine k_take B1 (by omega) (by omega) fun d H2 d0 d1 f2 B2 => ?_
    have ht2 := f2.tup B1 ht
    obtain ⟨v, hv, hm⟩ := at_mem' (xs := [V.str "plain", V.str "plain", V.str "plain", V.str "later", V.str "sooner", V.str "next"]) d0 (by simpa using d1)
    obtain ⟨wd, rfl, hwd⟩ : ∃ z : Str, v = .str z ∧ (z = "plain" ∨ ∃ o, z = opS o) := by
      simp only [List.mem_cons, List.not_mem_nil, or_false] at hm
      rcases hm with rfl | rfl | rfl | rfl | rfl | rfl
      · exact ⟨_, rfl, .inl rfl⟩
      · exact ⟨_, rfl, .inl rfl⟩
      · exact ⟨_, rfl, .inl rfl⟩
      · exact ⟨_, rfl, .inr ⟨.later, rfl⟩⟩
      · exact ⟨_, rfl, .inr ⟨.sooner, rfl⟩⟩
      · exact ⟨_, rfl, .inr ⟨.next, rfl⟩⟩
    walk_at "ss"
    refine ⟨b, C, rfl, B2, fun a p H3 ha hp f3 B3 => ?_⟩
    have f03 := ((Fb.same s1).trans f2).trans f3
    walk_at "ss"
    rcases hwd with rfl | ⟨o, rfl⟩
    · refine k_eqT ?_
      walk_at "ss"
      have := hp.2.1
      exact k a p H3 ha hp.1 (by omega) f03 B3
    · refine k_eqF (by cases o <;> decide +kernel) ?_
      walk_at "ss"
      refine ⟨b, C, rfl, B3, fun a2 p2 H4 ha2 hp2 f4 B4 => ?_⟩
      have ha4 := f4.plan B3 ha
      walk_at "ss"
      intro t2 nt2
      have s5 := same_new (o := .tup [V.str (opS o), .ref a, .ref a2]) nt2
      obtain ⟨q1, q2⟩ := leaf_op (o := o) hp hp2
      exact k t2 (.op o p p2) _ (.op upd_same (ha4.up s5) (ha2.up s5)) q1 q2 ((f03.trans f4).trans (.same s5)) (B4.up s5)
def spAfter (d : Nat) : Sp := fun vs H Q _ => ∃ a p t, vs = [.ref a, .int t] ∧ PlanAt H a p ∧ p.Ok ∧ p.forms ≤ d ∧ ∀ H', Same H H' → Q (.int (p.at t)) H'
theorem ok_after0 (T : Tx K mg) (d : Nat) (ih : FnOk P w K mg base CX0 (d + 1) T.a_after T.fd_after P_after (spAfter d)) : FnOk P w K mg base CX0 (d + 2) T.a_after T.fd_after P_after (spAfter (d + 1)) := by
  refine T.F_after.ok sc_after (fun vs H Q E h => ?_) (fun cdv A outer s H vs Q E hr h => ?_)
  · obtain ⟨a, p, t, rfl, _⟩ := h
    rfl
  · obtain ⟨a, p, t, rfl, ha, op, hf, k⟩ := h
    have nd := sc_after.nd
    refine ⟨_, (pss_cons (ps_if (pt_cmpR op_eq (pe_ix (kix K) (kv (i := 0) v_after_law_form_here) pe_int (fun _ _ => rfl)) pe_str (nomark _)) (pss_one (ps_ret (pe_op kop_add (kv (i := 1) v_after_law_t) (pe_ix (kix K) (kv (i := 0) v_after_law_form_here) pe_int (fun _ _ => rfl))))) pss_nil)
      (pss_cons (ps_if (pt_cmpR op_eq (pe_ix (kix K) (kv (i := 0) v_after_law_form_here) pe_int (fun _ _ => rfl)) pe_str (nomark _)) (pss_cons (ps_for PassesOwn.never rfl (kpi_tup K (pe_ix (kix K) (kv (i := 0) v_after_law_form_here) pe_int (fun _ _ => rfl))) (kgL (i := 2) nd l_after_law_border) (pss_one (ps_if (pt_cmpR op_gt (kv (i := 2) v_after_law_border) (kv (i := 1) v_after_law_t) (nomark _)) (pss_one (ps_ret (kv (i := 2) v_after_law_border))) pss_nil)))
      (pss_cons (ks_setL (i := 3) nd l_after_law_start (kcB b_sum (by decide) (by decide) (kc_sumT K rfl) g_after_sum T.n_sum (pa_cons (pe_slice (ksl_tupA K) (pe_ix (kix K) (kv (i := 0) v_after_law_form_here) pe_int (fun _ _ => rfl)) (po_some (pe_un un_neg pe_int)) po_none) pa_nil)))
      (pss_one (ps_ret (pe_op kop_add (kv (i := 3) v_after_law_start) (pe_op op_mul (pe_op kop_add (pe_op op_fdiv (pe_op op_sub (kv (i := 1) v_after_law_t) (kv (i := 3) v_after_law_start)) (pe_ix (kix K) (kv (i := 0) v_after_law_form_here) pe_int (fun _ _ => rfl))) pe_int) (pe_ix (kix K) (kv (i := 0) v_after_law_form_here) pe_int (fun _ _ => rfl)))))))) pss_nil)
      (pss_cons (ks_setL (i := 4) nd l_after_law_one (pe_call ih (hr.mono (by first | decide | omega)) g_after_law_after T.m_after T.k_after T.b_after .nil pass0 (pa_cons (pe_ix (kix K) (kv (i := 0) v_after_law_form_here) pe_int (fun _ _ => rfl)) (pa_cons (kv (i := 1) v_after_law_t) pa_nil))))
      (pss_cons (ps_if (pt_cmpR op_eq (pe_ix (kix K) (kv (i := 0) v_after_law_form_here) pe_int (fun _ _ => rfl)) pe_str (nomark _)) (pss_one (ps_ret (pe_call ih (hr.mono (by first | decide | omega)) g_after_law_after T.m_after T.k_after T.b_after .nil pass0 (pa_cons (pe_ix (kix K) (kv (i := 0) v_after_law_form_here) pe_int (fun _ _ => rfl)) (pa_cons (kv (i := 4) v_after_law_one) pa_nil))))) pss_nil)
      (pss_cons (ps_if (pt_cmpR op_eq (pe_ix (kix K) (kv (i := 0) v_after_law_form_here) pe_int (fun _ _ => rfl)) pe_str (nomark _)) (pss_one (ps_ret (kcB b_max (by decide) (by decide) (kc_max2 rfl) g_after_max T.n_max (pa_cons (kv (i := 4) v_after_law_one) (pa_cons (pe_call ih (hr.mono (by first | decide | omega)) g_after_law_after T.m_after T.k_after T.b_after .nil pass0 (pa_cons (pe_ix (kix K) (kv (i := 0) v_after_law_form_here) pe_int (fun _ _ => rfl)) (pa_cons (kv (i := 1) v_after_law_t) pa_nil))) pa_nil))))) pss_nil)
      (pss_one (ps_ret (kcB b_min (by decide) (by decide) (kc_min2 rfl) g_after_min T.n_min (pa_cons (kv (i := 4) v_after_law_one) (pa_cons (pe_call ih (hr.mono (by first | decide | omega)) g_after_law_after T.m_after T.k_after T.b_after .nil pass0 (pa_cons (pe_ix (kix K) (kv (i := 0) v_after_law_form_here) pe_int (fun _ _ => rfl)) (pa_cons (kv (i := 1) v_after_law_t) pa_nil))) pa_nil)))))))))), ?_⟩
    cases ha with
    | win h =>
      walk_at "ss"
      refine k_eqT ?_
      walk_at "ss"
      exact k _ (Same.refl _)
    | days h he =>
      rename_i e bs p
      obtain ⟨hasc, hle, hlen, hp1, hp2⟩ := op
      walk_at "ss"
      refine k_eqF ne1 ?_
      walk_at "ss"
      refine k_eqT ?_
      walk_at "ss"
      refine k_iT (SqT.of he) ?_
      refine k_forTup (bs.map V.int) (fun i σ H' => H' = H ∧ (∃ v, σ = [some (V.ref a), some (V.int t), v, none, none]) ∧ ∀ b ∈ bs.take i, ¬ t < b) ⟨rfl, ⟨none, rfl⟩, fun b hb => (by cases hb)⟩ ?_ ?_ ?_
      · rintro i σ _ _ ⟨rfl, _, _⟩
        exact SqT.of he
      · rintro i x σ _ hx ⟨rfl, ⟨v, rfl⟩, hn⟩
        obtain ⟨c, hc, rfl⟩ := map_int_at hx
        walk_at "ss"
        refine k_d (fun h1 => ?_) (fun h1 => ?_)
        · walk_at "ss"
          have e := dayAt_some (p := p) (find_take hn hc h1)
          have q := k _ (Same.refl _)
          rw [show (Plan.days bs p).at t = dayAt bs p t from rfl, e] at q
          exact q
        · walk_at "ss"
          exact ⟨rfl, ⟨_, rfl⟩, take_step hn hc h1⟩
      · rintro σ _ ⟨rfl, ⟨v, rfl⟩, hn⟩
        rw [List.length_map, List.take_length] at hn
        walk_at "ss"
        refine k_slLast he fun p1 H1 s1 hp1' => ?_
        have h := s1 _ _ h
        walk_at "ss"
        refine ⟨p1, lastL bs, rfl, SqT.of hp1', ?_⟩
        rw [last_sum]
        walk_at "ss"
        have e := dayAt_none (p := p) hn
        have q := k _ s1
        rw [show (Plan.days bs p).at t = dayAt bs p t from rfl, e] at q
        exact q
    | op h h1 h2 =>
      rename_i a1 a2 o p q
      obtain ⟨op, oq, _, _⟩ := op
      have f1 : 1 + p.forms + q.forms ≤ d + 1 := hf
      walk_at "ss"
      refine k_eqF (neOW o) ?_
      walk_at "ss"
      refine k_eqF (neOD o) ?_
      walk_at "ss"
      refine ⟨a1, p, t, rfl, h1, op, by omega, fun H1 s1 => ?_⟩
      have h := s1 _ _ h
      have h2 := h2.up s1
      walk_at "ss"
      cases o with
      | next =>
        refine k_eqT ?_
        walk_at "ss"
        exact ⟨a2, q, _, rfl, h2, oq, by omega, fun H2 s2 => k H2 (s1.trans s2)⟩
      | later =>
        refine k_eqF (by decide +kernel) ?_
        walk_at "ss"
        refine k_eqT ?_
        walk_at "ss"
        refine ⟨a2, q, t, rfl, h2, oq, by omega, fun H2 s2 => ?_⟩
        walk_at "ss"
        exact k H2 (s1.trans s2)
      | sooner =>
        refine k_eqF (by decide +kernel) ?_
        walk_at "ss"
        refine k_eqF (by decide +kernel) ?_
        walk_at "ss"
        refine ⟨a2, q, t, rfl, h2, oq, by omega, fun H2 s2 => ?_⟩
        walk_at "ss"
        exact k H2 (s1.trans s2)
theorem okr_after (T : Tx K mg) : ∀ d, FnOk P w K mg base CX0 (d + 1) T.a_after T.fd_after P_after (spAfter d)
  | 0 => by
    have h0 : ∀ vs H Q E, spAfter 0 vs H Q E → False := fun vs H Q E h => by
      obtain ⟨a, p, t, _, _, _, hf, _⟩ := h
      have := p.forms_pos
      omega
    exact ⟨fun vs H Q E h => (h0 _ _ _ _ h).elim, fun A outer s H args us vs Q E _ _ _ _ h => (h0 _ _ _ _ h).elim⟩
  | d + 1 => ok_after0 T d (okr_after T d)
theorem ok_after (T : Tx K mg) : FnOk P w K mg base CX0 4 T.a_after T.fd_after P_after (spAfter 3) := okr_after T 3
end

/-! ### nets, plain: rows newest first -/
structure Rw where
  n : Str
  el : Option Str
  er : Int
  de : Int
def inN (R : List Rw) (x : Str) : Prop := ∃ r ∈ R, r.n = x
def WF : List Rw → Prop
  | [] => True
  | r :: R => WF R ∧ (∀ x ∈ R, x.n ≠ r.n) ∧ (0 ≤ r.er ∧ r.er ≤ 100) ∧ (0 ≤ r.de ∧ r.de ≤ 100) ∧ (match r.el with | none => R = [] ∧ r.de = 0 | some e => inN R e)
def up : List Rw → Str → List Str
  | [], n => [n]
  | r :: R, n => if r.n = n then (match r.el with | none => [n] | some e => n :: up R e) else up R n
def delOf (R : List Rw) (x : Str) : Int := match R.find? (fun r => decide (r.n = x)) with | none => 0 | some r => r.de
def errOf (R : List Rw) (x : Str) : Int := match R.find? (fun r => decide (r.n = x)) with | none => 0 | some r => r.er
def sumD (R : List Rw) (l : List Str) : Int := (l.map (delOf R)).sum
def minus (a b : List Str) : List Str := a.filter fun z => decide (z ∉ b)
def far (R : List Rw) (x y : Str) : Int := sumD R (minus (up R x) (up R y)) + sumD R (minus (up R y) (up R x))
def base1 (R : List Rw) (x o : Str) : Int := if o = x then -1 else 2 * errOf R x + far R x o
structure IsMin (v : Int) (l : List Int) : Prop where
  mem : v ∈ l
  le : ∀ y ∈ l, v ≤ y
theorem IsMin.uniq {v u : Int} {l : List Int} (a : IsMin v l) (b : IsMin u l) : v = u := Int.le_antisymm (a.le _ b.mem) (b.le _ a.mem)
theorem up_other {r : Rw} {R : List Rw} {x : Str} (h : r.n ≠ x) : up (r :: R) x = up R x := by
  show (if r.n = x then _ else up R x) = _
  rw [if_neg h]
theorem up_first {r : Rw} {R : List Rw} {e : Str} (h : r.el = some e) : up (r :: R) r.n = r.n :: up R e := by
  show (if r.n = r.n then (match r.el with | none => [r.n] | some e => r.n :: up R e) else up R r.n) = _
  rw [if_pos rfl, h]
theorem up_top {r : Rw} {R : List Rw} (h : r.el = none) : up (r :: R) r.n = [r.n] := by
  show (if r.n = r.n then (match r.el with | none => [r.n] | some e => r.n :: up R e) else up R r.n) = _
  rw [if_pos rfl, h]
theorem ne_of_in {r : Rw} {R : List Rw} {x : Str} (hw : WF (r :: R)) (h : inN R x) : r.n ≠ x := by
  obtain ⟨y, hy, rfl⟩ := h
  exact Ne.symm (hw.2.1 y hy)
theorem up_self (R : List Rw) (x : Str) : x ∈ up R x := by
  induction R with
  | nil => exact List.mem_singleton.mpr rfl
  | cons r R ih =>
    by_cases e : r.n = x
    · subst e
      cases h : r.el with
      | none => rw [up_top h]; exact List.mem_singleton.mpr rfl
      | some e => rw [up_first h]; exact List.mem_cons_self
    · rw [up_other e]
      exact ih
/-- the cases of a place in rows that are right -/
theorem in_cases {r : Rw} {R : List Rw} {x : Str} (hw : WF (r :: R)) (h : inN (r :: R) x) : (x = r.n ∧ ((r.el = none ∧ R = []) ∨ ∃ e, r.el = some e ∧ inN R e)) ∨ (inN R x ∧ r.n ≠ x) := by
  obtain ⟨y, hy, rfl⟩ := h
  rcases List.mem_cons.mp hy with rfl | hy
  · refine .inl ⟨rfl, ?_⟩
    have h5 := hw.2.2.2.2
    cases he : y.el with
    | none => rw [he] at h5; exact .inl ⟨rfl, h5.1⟩
    | some e => rw [he] at h5; exact .inr ⟨e, rfl, h5⟩
  · exact .inr ⟨⟨y, hy, rfl⟩, Ne.symm (hw.2.1 y hy)⟩
theorem up_in : ∀ {R : List Rw} {x : Str}, WF R → inN R x → ∀ z ∈ up R x, inN R z
  | [], x, _, h, _, _ => by obtain ⟨_, h, _⟩ := h; cases h
  | r :: R, x, hw, h, z, hz => by
    rcases in_cases hw h with ⟨rfl, ⟨he, rfl⟩ | ⟨e, he, hi⟩⟩ | ⟨hi, hne⟩
    · rw [up_top he] at hz
      rw [List.mem_singleton.mp hz]
      exact h
    · rw [up_first he] at hz
      rcases List.mem_cons.mp hz with rfl | hz
      · exact h
      · obtain ⟨y, hy, e2⟩ := up_in hw.1 hi z hz
        exact ⟨y, List.mem_cons_of_mem _ hy, e2⟩
    · rw [up_other hne] at hz
      obtain ⟨y, hy, e2⟩ := up_in hw.1 hi z hz
      exact ⟨y, List.mem_cons_of_mem _ hy, e2⟩
theorem up_nodup : ∀ {R : List Rw} {x : Str}, WF R → inN R x → (up R x).Nodup
  | [], x, _, h => by obtain ⟨_, h, _⟩ := h; cases h
  | r :: R, x, hw, h => by
    rcases in_cases hw h with ⟨rfl, ⟨he, rfl⟩ | ⟨e, he, hi⟩⟩ | ⟨hi, hne⟩
    · rw [up_top he]
      simp
    · rw [up_first he, List.nodup_cons]
      exact ⟨fun hm => ne_of_in hw (up_in hw.1 hi _ hm) rfl, up_nodup hw.1 hi⟩
    · rw [up_other hne]
      exact up_nodup hw.1 hi
theorem up_trans : ∀ {R : List Rw} {x y : Str}, WF R → inN R x → y ∈ up R x → ∀ z ∈ up R y, z ∈ up R x
  | [], x, _, _, h, _, _, _ => by obtain ⟨_, h, _⟩ := h; cases h
  | r :: R, x, y, hw, h, hy, z, hz => by
    rcases in_cases hw h with ⟨rfl, ⟨he, rfl⟩ | ⟨e, he, hi⟩⟩ | ⟨hi, hne⟩
    · rw [up_top he] at hy
      rw [List.mem_singleton.mp hy] at hz
      exact hz
    · rw [up_first he] at hy
      rcases List.mem_cons.mp hy with rfl | hy
      · exact hz
      · rw [up_other (ne_of_in hw (up_in hw.1 hi _ hy))] at hz
        rw [up_first he]
        exact List.mem_cons_of_mem _ (up_trans hw.1 hi hy z hz)
    · rw [up_other hne] at hy ⊢
      rw [up_other (ne_of_in hw (up_in hw.1 hi _ hy))] at hz
      exact up_trans hw.1 hi hy z hz
theorem up_chain : ∀ {R : List Rw} {x y z : Str}, WF R → inN R x → y ∈ up R x → z ∈ up R x → z ∈ up R y ∨ y ∈ up R z
  | [], x, _, _, _, h, _, _ => by obtain ⟨_, h, _⟩ := h; cases h
  | r :: R, x, y, z, hw, h, hy, hz => by
    rcases in_cases hw h with ⟨rfl, ⟨he, rfl⟩ | ⟨e, he, hi⟩⟩ | ⟨hi, hne⟩
    · rw [up_top he] at hy hz
      rw [List.mem_singleton.mp hy, List.mem_singleton.mp hz]
      exact .inl (up_self _ _)
    · have hy0 := hy
      have hz0 := hz
      rw [up_first he] at hy hz
      rcases List.mem_cons.mp hy with rfl | hy
      · exact .inl hz0
      · rcases List.mem_cons.mp hz with rfl | hz
        · exact .inr hy0
        · rw [up_other (ne_of_in hw (up_in hw.1 hi _ hy)), up_other (ne_of_in hw (up_in hw.1 hi _ hz))]
          exact up_chain hw.1 hi hy hz
    · rw [up_other hne] at hy hz
      rw [up_other (ne_of_in hw (up_in hw.1 hi _ hy)), up_other (ne_of_in hw (up_in hw.1 hi _ hz))]
      exact up_chain hw.1 hi hy hz
theorem del_nn : ∀ {R : List Rw} {x : Str}, WF R → 0 ≤ delOf R x ∧ delOf R x ≤ 100 := by
  intro R x hw
  have hall : ∀ {R : List Rw}, WF R → ∀ r ∈ R, 0 ≤ r.de ∧ r.de ≤ 100 := by
    intro R
    induction R with
    | nil => exact fun _ r h => by cases h
    | cons y R ih =>
      intro hw r hr
      rcases List.mem_cons.mp hr with rfl | hr
      · exact hw.2.2.2.1
      · exact ih hw.1 r hr
  unfold delOf
  cases h : R.find? (fun r => decide (r.n = x)) with
  | none => exact ⟨by show (0 : Int) ≤ 0; decide, by show (0 : Int) ≤ 100; decide⟩
  | some r => exact hall hw r (List.mem_of_find?_eq_some h)
theorem err_nn : ∀ {R : List Rw} {x : Str}, WF R → 0 ≤ errOf R x ∧ errOf R x ≤ 100 := by
  intro R x hw
  have hall : ∀ {R : List Rw}, WF R → ∀ r ∈ R, 0 ≤ r.er ∧ r.er ≤ 100 := by
    intro R
    induction R with
    | nil => exact fun _ r h => by cases h
    | cons y R ih =>
      intro hw r hr
      rcases List.mem_cons.mp hr with rfl | hr
      · exact hw.2.2.1
      · exact ih hw.1 r hr
  unfold errOf
  cases h : R.find? (fun r => decide (r.n = x)) with
  | none => exact ⟨by show (0 : Int) ≤ 0; decide, by show (0 : Int) ≤ 100; decide⟩
  | some r => exact hall hw r (List.mem_of_find?_eq_some h)
theorem perm_sum {a b : List Int} (h : a.Perm b) : a.sum = b.sum := by
  induction h with
  | nil => rfl
  | cons x _ ih => rw [List.sum_cons, List.sum_cons, ih]
  | swap x y l => rw [List.sum_cons, List.sum_cons, List.sum_cons, List.sum_cons]; omega
  | trans _ _ ih1 ih2 => exact ih1.trans ih2
theorem sum_le_of {R : List Rw} (hw : WF R) : ∀ (a b : List Str), a.Nodup → (∀ z ∈ a, z ∈ b) → sumD R a ≤ sumD R b
  | [], b, _, _ => by
    have : ∀ b : List Str, 0 ≤ sumD R b := fun b => by
      induction b with
      | nil => exact Int.le_refl _
      | cons x b ih =>
        have h1 := (del_nn (x := x) hw).1
        show 0 ≤ ((x :: b).map (delOf R)).sum
        rw [List.map_cons, List.sum_cons]
        unfold sumD at ih
        omega
    exact this b
  | x :: a, b, hn, h => by
    have hx := h x List.mem_cons_self
    have ih := sum_le_of hw a (b.erase x) (List.nodup_cons.mp hn).2 fun y hy => (List.mem_erase_of_ne (fun e : y = x => (List.nodup_cons.mp hn).1 (e ▸ hy))).mpr (h y (List.mem_cons_of_mem _ hy))
    have hp := (List.perm_cons_erase hx).map (delOf R)
    have hs : sumD R b = delOf R x + sumD R (b.erase x) := by
      unfold sumD
      rw [perm_sum hp, List.map_cons, List.sum_cons]
    rw [hs]
    show ((x :: a).map (delOf R)).sum ≤ _
    rw [List.map_cons, List.sum_cons]
    unfold sumD at ih ⊢
    omega
theorem sum_app {R : List Rw} (a b : List Str) : sumD R (a ++ b) = sumD R a + sumD R b := by
  unfold sumD
  rw [List.map_append, List.sum_append]
theorem mem_minus {a b : List Str} {z : Str} : z ∈ minus a b ↔ z ∈ a ∧ z ∉ b := by
  unfold minus
  rw [List.mem_filter, decide_eq_true_iff]
theorem nodup_minus {a b : List Str} (h : a.Nodup) : (minus a b).Nodup := List.Nodup.sublist List.filter_sublist h
theorem far_comm (R : List Rw) (x y : Str) : far R x y = far R y x := Int.add_comm _ _
theorem far_self (R : List Rw) (x : Str) : far R x x = 0 := by
  have : minus (up R x) (up R x) = [] := by
    rw [List.eq_nil_iff_forall_not_mem]
    intro z hz
    exact (mem_minus.mp hz).2 (mem_minus.mp hz).1
  unfold far
  rw [this]
  rfl
theorem far_nn {R : List Rw} (hw : WF R) (x y : Str) : 0 ≤ far R x y := by
  have h1 := sum_le_of hw [] (minus (up R x) (up R y)) List.nodup_nil (fun z hz => by cases hz)
  have h2 := sum_le_of hw [] (minus (up R y) (up R x)) List.nodup_nil (fun z hz => by cases hz)
  have h0 : sumD R [] = 0 := rfl
  unfold far
  omega
theorem far_tri {R : List Rw} (hw : WF R) {s u c : Str} (hs : inN R s) (hc : inN R c) : far R s c ≤ far R s u + far R u c := by
  have h1 := sum_le_of hw (minus (up R s) (up R c)) (minus (up R s) (up R u) ++ minus (up R u) (up R c)) (nodup_minus (up_nodup hw hs)) (fun z hz => by
    obtain ⟨a, b⟩ := mem_minus.mp hz
    by_cases e : z ∈ up R u
    · exact List.mem_append_right _ (mem_minus.mpr ⟨e, b⟩)
    · exact List.mem_append_left _ (mem_minus.mpr ⟨a, e⟩))
  have h2 := sum_le_of hw (minus (up R c) (up R s)) (minus (up R u) (up R s) ++ minus (up R c) (up R u)) (nodup_minus (up_nodup hw hc)) (fun z hz => by
    obtain ⟨a, b⟩ := mem_minus.mp hz
    by_cases e : z ∈ up R u
    · exact List.mem_append_left _ (mem_minus.mpr ⟨e, b⟩)
    · exact List.mem_append_right _ (mem_minus.mpr ⟨a, e⟩))
  rw [sum_app] at h1 h2
  unfold far
  omega
theorem far_mid {R : List Rw} (hw : WF R) {s u b : Str} (hs : inN R s) (hb : inN R b) (hu : u ∈ up R b) (hn : u ∉ up R s) : far R s u ≤ far R s b := by
  have hui := up_in hw hb u hu
  have h1 := sum_le_of hw (minus (up R s) (up R u)) (minus (up R s) (up R b)) (nodup_minus (up_nodup hw hs)) (fun z hz => by
    obtain ⟨a1, a2⟩ := mem_minus.mp hz
    refine mem_minus.mpr ⟨a1, fun hzb => ?_⟩
    rcases up_chain hw hb hu hzb with h | h
    · exact a2 h
    · exact hn (up_trans hw hs a1 u h))
  have h2 := sum_le_of hw (minus (up R u) (up R s)) (minus (up R b) (up R s)) (nodup_minus (up_nodup hw hui)) (fun z hz => by
    obtain ⟨a1, a2⟩ := mem_minus.mp hz
    exact mem_minus.mpr ⟨up_trans hw hb hu z a1, a2⟩)
  unfold far
  omega
/-- the ways of a net, put together -/
theorem kap_tri {R : List Rw} (hw : WF R) {a b c : Str} {kab kbc kac : Int} (ha : inN R a) (hb : inN R b) (hc : inN R c) (h1 : IsMin kab ((up R a).map fun s => base1 R s b)) (h2 : IsMin kbc ((up R b).map fun s => base1 R s c)) (h3 : IsMin kac ((up R a).map fun s => base1 R s c)) :
    kac ≤ kbc ∨ kac ≤ kab + 2 * errOf R b + kbc + 2 := by
  obtain ⟨s, hs, es⟩ := List.mem_map.mp h1.mem
  obtain ⟨u, hu, eu⟩ := List.mem_map.mp h2.mem
  have le3 : ∀ z ∈ up R a, kac ≤ base1 R z c := fun z hz => h3.le _ (List.mem_map.mpr ⟨z, hz, rfl⟩)
  have hsi := up_in hw ha s hs
  by_cases e : u ∈ up R a
  · left
    have := le3 u e
    omega
  · right
    have hnb : b ≠ s := fun q => e (up_trans hw ha hs u (by rw [← q]; exact hu))
    have hns : u ∉ up R s := fun q => e (up_trans hw ha hs u q)
    have hk := le3 s hs
    have es2 : kab = 2 * errOf R s + far R s b := by rw [← es]; unfold base1; rw [if_neg hnb]
    have m := far_mid hw hsi hb hu hns
    have eb := (err_nn (x := b) hw).1
    have es0 := (err_nn (x := s) hw).1
    have hle : base1 R s c ≤ 2 * errOf R s + far R s c := by
      unfold base1
      split
      · have := far_nn hw s c
        omega
      · exact Int.le_refl _
    by_cases ec : c = u
    · have ek : kbc = -1 := by rw [← eu]; unfold base1; rw [if_pos ec]
      rw [ec] at hle hk
      omega
    · have ek : kbc = 2 * errOf R u + far R u c := by rw [← eu]; unfold base1; rw [if_neg ec]
      have eu0 := (err_nn (x := u) hw).1
      have t := far_tri hw (u := u) hsi hc
      omega
theorem kap_low {R : List Rw} (hw : WF R) {a b : Str} {k : Int} (h : IsMin k ((up R a).map fun s => base1 R s b)) : -1 ≤ k := by
  obtain ⟨s, _, rfl⟩ := List.mem_map.mp h.mem
  unfold base1
  split
  · omega
  · have := far_nn hw s b
    have := (err_nn (x := s) hw).1
    omega
/-! leading -/
def leadV (R : List Rw) (p : Plan) (k : Int) (a b : Str × Int) : Prop := b.2 - errOf R b.1 > p.at (a.2 + errOf R a.1) + k
theorem lead_irr {R : List Rw} (hw : WF R) {p : Plan} (op : p.Ok) {a : Str × Int} {k : Int} (h : IsMin k ((up R a.1).map fun s => base1 R s a.1)) : ¬ leadV R p k a a := by
  intro q
  have h1 := kap_low hw h
  have h2 := (err_nn (x := a.1) hw).1
  have h3 := at_gt op (a.2 + errOf R a.1)
  unfold leadV at q
  omega
theorem lead_trans {R : List Rw} (hw : WF R) {p : Plan} (op : p.Ok) {a b c : Str × Int} {kab kbc kac : Int} (ha : inN R a.1) (hb : inN R b.1) (hc : inN R c.1) (h1 : IsMin kab ((up R a.1).map fun s => base1 R s b.1)) (h2 : IsMin kbc ((up R b.1).map fun s => base1 R s c.1))
    (h3 : IsMin kac ((up R a.1).map fun s => base1 R s c.1)) (l1 : leadV R p kab a b) (l2 : leadV R p kbc b c) : leadV R p kac a c := by
  unfold leadV at *
  have k1 := kap_low hw h1
  have e1 := (err_nn (x := b.1) hw).1
  have g1 := at_gt op (a.2 + errOf R a.1)
  have g2 := at_gt op (b.2 + errOf R b.1)
  have m1 : p.at (a.2 + errOf R a.1) ≤ p.at (b.2 + errOf R b.1) := at_mono op (by omega)
  rcases kap_tri hw ha hb hc h1 h2 h3 with q | q <;> omega

section
abbrev Tab := List (Str × Int)
def kd (ms : Tab) : List (Key × V) := ms.map fun z => (.inr z.1, .int z.2)
def getS (ms : Tab) (n : Str) : Option Int := (ms.find? fun z => decide (z.1 = n)).map (·.2)
def putS (ms : Tab) (n : Str) (v : Int) : Tab := if (getS ms n).isSome = true then ms.map (fun z => if z.1 = n then (z.1, v) else z) else ms ++ [(n, v)]
theorem val_kd (n : Str) : ∀ ms : Tab, valV (kd ms) (.inr n) = (getS ms n).map V.int
  | [] => rfl
  | z :: ms => by
    have ih := val_kd n ms
    by_cases e : z.1 = n
    · have : (Sum.inr z.1 : Key) = .inr n := by rw [e]
      rw [show kd (z :: ms) = (.inr z.1, .int z.2) :: kd ms from rfl, valV_pos (p := ((.inr z.1 : Key), V.int z.2)) this]
      simp [getS, List.find?_cons, e]
    · have : ¬ (Sum.inr z.1 : Key) = .inr n := fun q => e (Sum.inr.inj q)
      rw [show kd (z :: ms) = (.inr z.1, .int z.2) :: kd ms from rfl, valV_neg (p := ((.inr z.1 : Key), V.int z.2)) this, ih]
      simp [getS, List.find?_cons, e]
theorem put_kd (ms : Tab) (n : Str) (v : Int) : putK (kd ms) (.inr n) (.int v) = kd (putS ms n v) := by
  unfold putK putS
  rw [valV_any, val_kd]
  cases h : getS ms n with
  | none =>
    rw [if_neg (by simp), if_neg (by simp)]
    simp [kd]
  | some i =>
    rw [if_pos (show (Option.map V.int (some i)).isSome = true from rfl), if_pos (show (some i).isSome = true from rfl)]
    unfold kd
    rw [List.map_map, List.map_map]
    congr 1
    funext z
    show (if (Sum.inr z.1 : Key) = .inr n then ((Sum.inr z.1 : Key), V.int v) else (.inr z.1, .int z.2)) = _
    by_cases e : z.1 = n
    · rw [if_pos (by rw [e])]
      show _ = (Sum.inr (if z.1 = n then (z.1, v) else z).1, V.int (if z.1 = n then (z.1, v) else z).2)
      rw [if_pos e]
    · rw [if_neg (fun q => e (Sum.inr.inj q))]
      show _ = (Sum.inr (if z.1 = n then (z.1, v) else z).1, V.int (if z.1 = n then (z.1, v) else z).2)
      rw [if_neg e]
theorem get_put {ms : Tab} {n x : Str} {v : Int} : getS (putS ms n v) x = if x = n then some v else getS ms x := by
  have h := valV_put (kd ms) (.inr n) (.inr x) (.int v)
  rw [put_kd, val_kd, val_kd] at h
  by_cases e : x = n
  · rw [if_pos e]
    rw [if_pos (by rw [e])] at h
    cases hh : getS (putS ms n v) x with
    | none => rw [hh] at h; cases h
    | some i => rw [hh] at h; exact congrArg some (V.int.inj (Option.some.inj h))
  · rw [if_neg e]
    rw [if_neg (fun q => e (Sum.inr.inj q))] at h
    cases hh : getS (putS ms n v) x with
    | none =>
      cases h2 : getS ms x with
      | none => rfl
      | some i => rw [hh, h2] at h; cases h
    | some i =>
      cases h2 : getS ms x with
      | none => rw [hh, h2] at h; cases h
      | some j => rw [hh, h2] at h; exact congrArg some (V.int.inj (Option.some.inj h))
theorem keys_putS {ms : Tab} {n : Str} {v : Int} (h : (getS ms n).isSome = true) : (putS ms n v).map (·.1) = ms.map (·.1) := by
  unfold putS
  rw [if_pos h, List.map_map]
  congr 1
  funext z
  show (if z.1 = n then (z.1, v) else z).1 = z.1
  split <;> rfl
theorem some_keys {ms : Tab} {n : Str} : (getS ms n).isSome = true ↔ n ∈ ms.map (·.1) := by
  unfold getS
  rw [Option.isSome_map, List.find?_isSome]
  simp
theorem same_keys {ms ws : Tab} (h : ms.map (·.1) = ws.map (·.1)) {n : Str} (hn : (getS ws n).isSome = true) : ∃ v, getS ms n = some v := by
  rw [some_keys, ← h, ← some_keys] at hn
  exact Option.isSome_iff_exists.mp hn
theorem putS_new {ms : Tab} {n : Str} {v : Int} (h : n ∉ ms.map (·.1)) : putS ms n v = ms ++ [(n, v)] := by
  unfold putS
  rw [if_neg (fun e => h (some_keys.mp e))]
theorem getS_mem {ms : Tab} {n : Str} {v : Int} (h : getS ms n = some v) : ∃ z ∈ ms, z.1 = n ∧ z.2 = v := by
  unfold getS at h
  obtain ⟨z, hz, e⟩ := Option.map_eq_some_iff.mp h
  exact ⟨z, List.mem_of_find?_eq_some hz, by have := List.find?_some hz; simpa using this, e⟩
abbrev RfT := List (Str × Addr)
def kdR (l : RfT) : List (Key × V) := l.map fun z => (.inr z.1, .ref z.2)
def getA (l : RfT) (n : Str) : Option Addr := (l.find? fun z => decide (z.1 = n)).map (·.2)
theorem val_kdR (n : Str) : ∀ l : RfT, valV (kdR l) (.inr n) = (getA l n).map V.ref
  | [] => rfl
  | z :: l => by
    have ih := val_kdR n l
    by_cases e : z.1 = n
    · have : (Sum.inr z.1 : Key) = .inr n := by rw [e]
      rw [show kdR (z :: l) = (.inr z.1, .ref z.2) :: kdR l from rfl, valV_pos (p := ((.inr z.1 : Key), V.ref z.2)) this]
      simp [getA, List.find?_cons, e]
    · have : ¬ (Sum.inr z.1 : Key) = .inr n := fun q => e (Sum.inr.inj q)
      rw [show kdR (z :: l) = (.inr z.1, .ref z.2) :: kdR l from rfl, valV_neg (p := ((.inr z.1 : Key), V.ref z.2)) this, ih]
      simp [getA, List.find?_cons, e]
theorem getA_none {l : RfT} {n : Str} (h : n ∉ l.map (·.1)) : getA l n = none := by
  unfold getA
  rw [List.find?_eq_none.mpr (fun x hx => by simpa using fun e => h (List.mem_map.mpr ⟨x, hx, e⟩))]
  rfl
theorem put_kdR {l : RfT} {n : Str} {a : Addr} (h : n ∉ l.map (·.1)) : putK (kdR l) (.inr n) (.ref a) = kdR (l ++ [(n, a)]) := by
  unfold putK
  rw [valV_any, val_kdR, getA_none h, if_neg (by simp)]
  simp [kdR]
theorem getA_mem {l : RfT} {n : Str} {a : Addr} (h : getA l n = some a) : (n, a) ∈ l := by
  unfold getA at h
  obtain ⟨z, hz, rfl⟩ := Option.map_eq_some_iff.mp h
  have h1 := List.find?_some hz
  have : z.1 = n := by simpa using h1
  rw [← this]
  exact List.mem_of_find?_eq_some hz
theorem getA_of {l : RfT} {n : Str} (h : n ∈ l.map (·.1)) : ∃ a, getA l n = some a ∧ (n, a) ∈ l := by
  cases hh : getA l n with
  | none =>
    exfalso
    obtain ⟨z, hz, e⟩ := List.mem_map.mp h
    unfold getA at hh
    rw [Option.map_eq_none_iff, List.find?_eq_none] at hh
    exact hh z hz (by simpa using e)
  | some a => exact ⟨a, rfl, getA_mem hh⟩
theorem getA_uniq {l : RfT} {n : Str} {a : Addr} (hn : (l.map (·.1)).Nodup) (h : (n, a) ∈ l) : getA l n = some a := by
  induction l with
  | nil => cases h
  | cons z l ih =>
    rw [List.map_cons, List.nodup_cons] at hn
    unfold getA
    rw [List.find?_cons]
    by_cases e : z.1 = n
    · rw [decide_eq_true e]
      rcases List.mem_cons.mp h with h | h
      · rw [← h]
        rfl
      · exact absurd (List.mem_map.mpr ⟨_, h, e.symm⟩) hn.1
    · rw [decide_eq_false e]
      rcases List.mem_cons.mp h with h | h
      · exact absurd (by rw [← h]) e
      · exact ih hn.2 h
theorem getM {H : Hp} {m : Addr} {kvs : List (Key × V)} {z : Str} {v : V} (h : H m = some (.dK kvs)) (e : valV kvs (.inr z) = some v) : DGet H m (.str z) (some v) := by
  have g := DGet.k (k := Sum.inr z) h
  rw [e] at g
  exact g
theorem getT {H : Hp} {m : Addr} {ms : Tab} {n : Str} {v : Int} (h : H m = some (.dK (kd ms))) (e : getS ms n = some v) : DGet H m (.str n) (some (.int v)) := getM h (by rw [val_kd, e]; rfl)
theorem getR {H : Hp} {m : Addr} {l : RfT} {n : Str} {a : Addr} (h : H m = some (.dK (kdR l))) (e : getA l n = some a) : DGet H m (.str n) (some (.ref a)) := getM h (by rw [val_kdR, e]; rfl)
end
section
variable {w : World} {K : PySem.W.Frag} {mg : Str → Option Value} {base : Heap}
abbrev One1 (C0 : Addr) (sp0 : Sp) : Addr → Sp → Prop := fun C sp => C = C0 ∧ sp = sp0
theorem disp1 {C0 g0 : Addr} {fd0 : FuncData} {ps0 : List Str} {sp0 : Sp} {k : Nat} {m : Str} (cl : Cls K C0) (me : Meth K C0 m g0) (Fn : FnOk P w K mg base CX0 k g0 fd0 ps0 sp0) (b : Binds K fd0 ps0 []) :
    ∀ C sp, One1 C0 sp0 C sp → ∃ g fd ps, Cls K C ∧ Meth K C m g ∧ FnOk P w K mg base CX0 k g fd ps sp ∧ Binds K fd ps [] := by
  rintro C sp ⟨rfl, rfl⟩
  exact ⟨_, _, _, cl, me, Fn, b⟩
def rInF (y x : V) (H : Hp) (Q : VK) : Prop := ∃ a o, x = .ref a ∧ DGet H a y o ∧ Q (.bl o.isSome) H
def rNinF (y x : V) (H : Hp) (Q : VK) : Prop := ∃ a o, x = .ref a ∧ DGet H a y o ∧ Q (.bl (!o.isSome)) H
theorem k_din {σ : L2.St} {H : Hp} {Q : VK} {ty td : TE} (h : ty σ H fun y H1 => td σ H1 fun x H2 => rInF y x H2 Q) : tDIn ty td σ H Q := h
theorem k_dnotin {σ : L2.St} {H : Hp} {Q : VK} {ty td : TE} (h : ty σ H fun y H1 => td σ H1 fun x H2 => rNinF y x H2 Q) : tDNotIn ty td σ H Q := h
theorem k_inN {y : V} {a : Addr} {H : Hp} {Q : VK} (g : DGet H a y none) (k : Q (.bl false) H) : rInF y (.ref a) H Q := ⟨a, none, rfl, g, k⟩
theorem k_inY {y v : V} {a : Addr} {H : Hp} {Q : VK} (g : DGet H a y (some v)) (k : Q (.bl true) H) : rInF y (.ref a) H Q := ⟨a, some v, rfl, g, k⟩
theorem k_ninN {y : V} {a : Addr} {H : Hp} {Q : VK} (g : DGet H a y none) (k : Q (.bl true) H) : rNinF y (.ref a) H Q := ⟨a, none, rfl, g, k⟩
theorem k_ninY {y v : V} {a : Addr} {H : Hp} {Q : VK} (g : DGet H a y (some v)) (k : Q (.bl false) H) : rNinF y (.ref a) H Q := ⟨a, some v, rfl, g, k⟩
theorem getN {H : Hp} {m : Addr} {l : RfT} {n : Str} (h : H m = some (.dK (kdR l))) (e : getA l n = none) : DGet H m (.str n) none := by
  have g := DGet.k (k := Sum.inr n) h
  rw [val_kdR, e] at g
  exact g
theorem k_dnew {σ : L2.St} {H : Hp} {Q : VK} (h : ∀ p, H p = none → Q (.ref p) (upd H p (.dK []))) : tDNewK σ H Q := h
abbrev RL := List (Addr × Rw)
def elV : Option Str → V
  | none => .non
  | some e => .str e
def RowsT (H : Hp) (l : RL) : Prop := ∀ z ∈ l, H z.1 = some (.tup [.str z.2.n, elV z.2.el, .int z.2.er, .int z.2.de])
theorem RowsT.up {H H' : Hp} {l : RL} (h : RowsT H l) (e : ∀ a xs, H a = some (.tup xs) → H' a = some (.tup xs)) : RowsT H' l := fun z hz => e _ _ (h z hz)
abbrev tabR (l : RL) : RfT := l.map fun z => (z.2.n, z.1)
abbrev revR (l : RL) : List Rw := (l.map (·.2)).reverse
theorem tabR_keys (l : RL) : (tabR l).map (·.1) = l.map (·.2.n) := by
  rw [List.map_map]
  rfl
structure RowOk (kn : RL) (r : Rw) : Prop where
  nm : nameB r.n
  new : r.n ∉ kn.map (·.2.n)
  er : 0 ≤ r.er ∧ r.er ≤ 100
  de : 0 ≤ r.de ∧ r.de ≤ 100
  el : (kn = [] ∧ r.el = none ∧ r.de = 0) ∨ (kn ≠ [] ∧ ∃ e, r.el = some e ∧ e ∈ kn.map (·.2.n) ∧ nameB e)
def spIsRow : Sp := fun vs H Q _ => ∃ (a dk : Addr) (r : Rw) (kn : RL), vs = [.ref a, .ref dk] ∧ H a = some (.tup [.str r.n, elV r.el, .int r.er, .int r.de]) ∧ H dk = some (.dK (kdR (tabR kn))) ∧ RowOk kn r ∧ ∀ H', Same H H' → Q (.bl true) H'
theorem ok_isrow (T : Tx K mg) : FnOk P w K mg base CX0 2 T.a_isrow T.fd_isrow P_isrow spIsRow := by
  refine T.F_isrow.ok sc_isrow (fun vs H Q E h => ?_) (fun cdv A outer s H vs Q E hr h => ?_)
  · obtain ⟨a, dk, r, kn, rfl, _⟩ := h
    rfl
  · obtain ⟨a, dk, r, kn, rfl, ha, hd, R, k⟩ := h
    have nd := sc_isrow.nd
    refine ⟨_, (pss_cons (ps_if (PW.pt (pw_or (pt_not (pt_val (kcB b_isinstance (by decide) (by decide) (kc_isi K) g_isrow_isinstance T.n_isinstance (pa_cons (kv (i := 0) v_isrow_row) (pa_cons (kty_tuple g_isrow_tuple T.n_tuple) pa_nil))))) (pw_or1 (pt_cmpR op_ne (kcB b_len (by decide) (by decide) (kc_len K) g_isrow_len T.n_len (pa_cons (kv (i := 0) v_isrow_row) pa_nil)) pe_int (nomark _))))) (pss_one (ps_ret pe_bl)) pss_nil)
      (pss_cons (ps_asg (kv (i := 0) v_isrow_row) (kpg_tup K 4 rfl (pgs_cons (kgL (i := 2) nd l_isrow_name) (pgs_cons (kgL (i := 3) nd l_isrow_elder) (pgs_cons (kgL (i := 4) nd l_isrow_error) (pgs_cons (kgL (i := 5) nd l_isrow_delay) pgs_nil))))))
      (pss_cons (ps_if (PW.pt (pw_or (pt_not (pt_val (pe_call (ok_is_name T) (hr.mono (by first | decide | omega)) g_isrow_is_name T.m_is_name T.k_is_name T.b_is_name .nil pass0 (pa_cons (kv (i := 2) v_isrow_name) pa_nil)))) (pw_or1 (pt_cmp (pc_din (hu_of hr) (kv (i := 2) v_isrow_name) (kv (i := 1) v_isrow_ahead)))))) (pss_one (ps_ret pe_bl)) pss_nil)
      (pss_cons (ps_if (PW.pt (pw_or (pt_not (pt_val (pe_call (ok_is_number T) (hr.mono (by first | decide | omega)) g_isrow_is_number T.m_is_number T.k_is_number T.b_is_number .nil pass0 (pa_cons (kv (i := 4) v_isrow_error) (pa_cons pe_int (pa_cons (pe_glob g_isrow_MOST_ERROR T.m_MOST_ERROR T.r_MOST_ERROR) pa_nil)))))) (pw_or1 (pt_not (pt_val (pe_call (ok_is_number T) (hr.mono (by first | decide | omega)) g_isrow_is_number T.m_is_number T.k_is_number T.b_is_number .nil pass0 (pa_cons (kv (i := 5) v_isrow_delay) (pa_cons pe_int (pa_cons (pe_glob g_isrow_MOST_ERROR T.m_MOST_ERROR T.r_MOST_ERROR) pa_nil))))))))) (pss_one (ps_ret pe_bl)) pss_nil)
      (pss_cons (ps_if (pt_not (kpt_truth K (kv (i := 1) v_isrow_ahead))) (pss_one (ps_ret (pe_and (pe_cmpR op_isN (kv (i := 3) v_isrow_elder) pe_non (nomark _)) (pe_one (pe_cmpR op_eq (kv (i := 5) v_isrow_delay) pe_int (nomark _)))))) pss_nil)
      (pss_one (ps_ret (pe_and (pe_call (ok_is_name T) (hr.mono (by first | decide | omega)) g_isrow_is_name T.m_is_name T.k_is_name T.b_is_name .nil pass0 (pa_cons (kv (i := 3) v_isrow_elder) pa_nil)) (pe_one (pe_cmp (pc_din (hu_of hr) (kv (i := 3) v_isrow_elder) (kv (i := 1) v_isrow_ahead)))))))))))), ?_⟩
    walk_at "ss"
    refine k_nt rfl ?_
    walk_at "ss"
    refine ⟨r.n, rfl, R.nm, ?_⟩
    walk_at "ss"
    refine k_din ?_
    walk_at "ss"
    have hno : getA (tabR kn) r.n = none := getA_none (by rw [tabR_keys]; exact R.new)
    refine k_inN (getN hd hno) ?_
    walk_at "ss"
    refine ⟨r.er, 0, 100, rfl, R.er.1, R.er.2, ?_⟩
    walk_at "ss"
    refine ⟨r.de, 0, 100, rfl, R.de.1, R.de.2, ?_⟩
    walk_at "ss"
    refine k_truU ?_
    walk_at "ss"
    refine ⟨!(kdR (tabR kn)).isEmpty, .inr (.inr ⟨_, hd, rfl⟩), ?_⟩
    rcases R.el with ⟨hkn, hel, hde⟩ | ⟨hkn, e, hel, hem, hen⟩
    · subst hkn
      rw [show (!(kdR (tabR ([] : RL))).isEmpty) = false from rfl, hel, hde]
      walk_at "ss"
      refine ⟨rfl, ?_⟩
      walk_at "ss"
      refine k_dt (show elV none = V.non from rfl) ?_
      walk_at "ss"
      exact k H (Same.refl _)
    · rw [show (!(kdR (tabR kn)).isEmpty) = true by cases kn with | nil => exact absurd rfl hkn | cons z l => rfl, hel]
      walk_at "ss"
      refine ⟨e, rfl, hen, ?_⟩
      walk_at "ss"
      refine k_din ?_
      walk_at "ss"
      obtain ⟨x, hx, _⟩ := getA_of (l := tabR kn) (n := e) (by rw [tabR_keys]; exact hem)
      refine k_inY (getR hd hx) ?_
      exact k H (Same.refl _)
end

section
/-! ### rows, one by one -/
theorem rev_take {l : RL} {i : Nat} {z : Addr × Rw} (h : l[i]? = some z) : revR (l.take (i + 1)) = z.2 :: revR (l.take i) := by
  unfold revR
  rw [List.take_add_one, h]
  simp
theorem wf_take {l : RL} (h : WF (revR l)) (i : Nat) : WF (revR (l.take i)) := by
  have key : ∀ (n : Nat) (R : List Rw), WF R → WF (R.drop n) := by
    intro n
    induction n with
    | zero => exact fun R h => h
    | succ n ih =>
      intro R h
      cases R with
      | nil => exact h
      | cons r R => exact ih R h.1
  have e : revR (l.take i) = (revR l).drop (l.length - i) := by
    unfold revR
    rw [List.map_take, List.reverse_take, List.length_map]
  rw [e]
  exact key _ _ h
theorem inN_rev {l : RL} {x : Str} : inN (revR l) x ↔ x ∈ l.map (·.2.n) := by
  unfold inN revR
  constructor
  · rintro ⟨r, hr, rfl⟩
    obtain ⟨z, hz, rfl⟩ := List.mem_map.mp (List.mem_reverse.mp hr)
    exact List.mem_map.mpr ⟨z, hz, rfl⟩
  · intro h
    obtain ⟨z, hz, rfl⟩ := List.mem_map.mp h
    exact ⟨z.2, List.mem_reverse.mpr (List.mem_map.mpr ⟨z, hz, rfl⟩), rfl⟩
theorem nodup_rev {l : RL} (h : WF (revR l)) : (l.map (·.2.n)).Nodup := by
  have key : ∀ R : List Rw, WF R → (R.map (·.n)).Nodup := by
    intro R
    induction R with
    | nil => exact fun _ => List.nodup_nil
    | cons r R ih =>
      intro h
      rw [List.map_cons, List.nodup_cons]
      refine ⟨fun hm => ?_, ih h.1⟩
      obtain ⟨x, hx, e⟩ := List.mem_map.mp hm
      exact h.2.1 x hx e
  have h2 := key _ h
  unfold revR at h2
  rw [List.map_reverse, (List.reverse_perm _).nodup_iff, List.map_map] at h2
  exact h2
theorem del_first {r : Rw} {R : List Rw} : delOf (r :: R) r.n = r.de := by
  unfold delOf
  rw [List.find?_cons, decide_eq_true rfl]
theorem del_other {r : Rw} {R : List Rw} {x : Str} (h : r.n ≠ x) : delOf (r :: R) x = delOf R x := by
  unfold delOf
  rw [List.find?_cons, decide_eq_false h]
theorem sumD_other {r : Rw} {R : List Rw} {l : List Str} (h : ∀ z ∈ l, r.n ≠ z) : sumD (r :: R) l = sumD R l := by
  unfold sumD
  congr 1
  exact List.map_congr_left fun z hz => del_other (h z hz)
theorem far_old {r : Rw} {R : List Rw} {x y : Str} (hw : WF (r :: R)) (hx : inN R x) (hy : inN R y) : far (r :: R) x y = far R x y := by
  unfold far
  rw [up_other (ne_of_in hw hx), up_other (ne_of_in hw hy), sumD_other, sumD_other]
  · intro z hz
    exact ne_of_in hw (up_in hw.1 hy z (mem_minus.mp hz).1)
  · intro z hz
    exact ne_of_in hw (up_in hw.1 hx z (mem_minus.mp hz).1)
theorem far_new {r : Rw} {R : List Rw} {e o : Str} (hw : WF (r :: R)) (he : r.el = some e) (hi : inN R e) (ho : inN R o) : far (r :: R) r.n o = far R e o + r.de := by
  have hro := ne_of_in hw ho
  unfold far
  rw [up_first he, up_other hro]
  have n1 : ∀ z ∈ up R o, r.n ≠ z := fun z hz => ne_of_in hw (up_in hw.1 ho z hz)
  have e1 : minus (r.n :: up R e) (up R o) = r.n :: minus (up R e) (up R o) := by
    unfold minus
    rw [List.filter_cons, if_pos (by rw [decide_eq_true_iff]; exact fun h => n1 _ h rfl)]
  have e2 : minus (up R o) (r.n :: up R e) = minus (up R o) (up R e) := by
    unfold minus
    refine List.filter_congr fun z hz => ?_
    have : z ≠ r.n := fun q => n1 z hz q.symm
    simp [this]
  rw [e1, e2]
  have s1 : sumD (r :: R) (r.n :: minus (up R e) (up R o)) = r.de + sumD R (minus (up R e) (up R o)) := by
    have h1 := sumD_other (r := r) (R := R) (l := minus (up R e) (up R o)) (fun z hz => ne_of_in hw (up_in hw.1 hi z (mem_minus.mp hz).1))
    unfold sumD at *
    rw [List.map_cons, List.sum_cons, del_first, h1]
  have s2 := sumD_other (r := r) (R := R) (l := minus (up R o) (up R e)) (fun z hz => n1 z (mem_minus.mp hz).1)
  rw [s1, s2]
  omega
theorem wf_at {l : RL} {i : Nat} {z : Addr × Rw} (hw : WF (revR l)) (h : l[i]? = some z) : WF (z.2 :: revR (l.take i)) := by
  have := wf_take hw (i + 1)
  rw [rev_take h] at this
  exact this
theorem up_full {l : RL} {i : Nat} {z : Addr × Rw} (hw : WF (revR l)) (h : l[i]? = some z) : (z.2.el = none → up (revR l) z.2.n = [z.2.n]) ∧ (∀ e, z.2.el = some e → up (revR l) z.2.n = z.2.n :: up (revR l) e) := by
  have key : ∀ (n : Nat), i + 1 + n ≤ l.length → (z.2.el = none → up (revR (l.take (i + 1 + n))) z.2.n = [z.2.n]) ∧ (∀ e, z.2.el = some e → up (revR (l.take (i + 1 + n))) z.2.n = z.2.n :: up (revR (l.take (i + 1 + n))) e) := by
    intro n
    induction n with
    | zero =>
      intro _
      rw [Nat.add_zero, rev_take h]
      refine ⟨fun he => up_top he, fun e he => ?_⟩
      have hz := wf_at hw h
      have h5 := hz.2.2.2.2
      rw [he] at h5
      rw [up_first he, up_other (ne_of_in hz h5)]
    | succ n ih =>
      intro hle
      obtain ⟨y, hy⟩ : ∃ y, l[i + 1 + n]? = some y := ⟨l[i + 1 + n], List.getElem?_eq_getElem (by omega)⟩
      have hwy := wf_at hw hy
      have hin : inN (revR (l.take (i + 1 + n))) z.2.n := inN_rev.mpr (List.mem_map.mpr ⟨z, List.mem_of_getElem? (i := i) (by rw [List.getElem?_take, if_pos (by omega)]; exact h), rfl⟩)
      have ih' := ih (by omega)
      rw [show i + 1 + (n + 1) = (i + 1 + n) + 1 from rfl, rev_take hy]
      refine ⟨fun he => ?_, fun e he => ?_⟩
      · rw [up_other (ne_of_in hwy hin)]
        exact ih'.1 he
      · have hz := wf_at hw h
        have h5 := hz.2.2.2.2
        rw [he] at h5
        have hin2 : inN (revR (l.take (i + 1 + n))) e := by
          have h5 : inN (revR (l.take i)) e := h5
          rw [inN_rev] at h5 ⊢
          obtain ⟨x, hx, ex⟩ := List.mem_map.mp h5
          refine List.mem_map.mpr ⟨x, ?_, ex⟩
          obtain ⟨j, hj⟩ := List.mem_iff_getElem?.mp hx
          rw [List.getElem?_take] at hj
          split at hj
          · exact List.mem_of_getElem? (i := j) (by rw [List.getElem?_take, if_pos (by omega)]; exact hj)
          · cases hj
        rw [up_other (ne_of_in hwy hin), up_other (ne_of_in hwy hin2)]
        exact ih'.2 e he
  have hil := (List.getElem?_eq_some_iff.mp h).1
  have := key (l.length - (i + 1)) (by omega)
  rw [show i + 1 + (l.length - (i + 1)) = l.length by omega, List.take_length] at this
  exact this
theorem err_at {l : RL} {i : Nat} {z : Addr × Rw} (hw : WF (revR l)) (h : l[i]? = some z) : errOf (revR l) z.2.n = z.2.er := by
  have key : ∀ R : List Rw, WF R → ∀ r ∈ R, errOf R r.n = r.er := by
    intro R
    induction R with
    | nil => exact fun _ r h => by cases h
    | cons y R ih =>
      intro hw r hr
      unfold errOf
      rw [List.find?_cons]
      rcases List.mem_cons.mp hr with rfl | hr
      · rw [decide_eq_true rfl]
      · rw [decide_eq_false (fun e : y.n = r.n => hw.2.1 r hr e.symm)]
        exact ih hw.1 r hr
  exact key _ hw _ (List.mem_reverse.mpr (List.mem_map.mpr ⟨z, List.mem_of_getElem? h, rfl⟩))
theorem el_at {l : RL} {i : Nat} {z : Addr × Rw} (hw : WF (revR l)) (h : l[i]? = some z) : (z.2.el = none ∧ i = 0) ∨ ∃ e, z.2.el = some e ∧ e ∈ (l.take i).map (·.2.n) := by
  have hz := (wf_at hw h).2.2.2.2
  cases he : z.2.el with
  | none =>
    rw [he] at hz
    refine .inl ⟨rfl, ?_⟩
    have h1 := congrArg List.length hz.1
    unfold revR at h1
    rw [List.length_reverse, List.length_map, List.length_take] at h1
    have hil := (List.getElem?_eq_some_iff.mp h).1
    have h1 : min i l.length = 0 := h1
    omega
  | some e =>
    rw [he] at hz
    exact .inr ⟨e, rfl, inN_rev.mp hz⟩
end

section
variable {w : World} {K : PySem.W.Frag} {mg : Str → Option Value} {base : Heap}
theorem k_lock {t : TS} {D : Ends} {σ : L2.St} {H : Hp} {d : Addr} {u : HO} (h : H d = some u) (m : Mut (some u))
    (k : ∀ od, t ⟨fun σ' H' => H' d = some (.frz od u) ∧ D.nx σ' (upd H' d u), fun v H' => H' d = some (.frz od u) ∧ D.rt v (upd H' d u), fun σ' H' => H' d = some (.frz od u) ∧ D.bk σ' (upd H' d u), fun σ' H' => H' d = some (.frz od u) ∧ D.ct σ' (upd H' d u)⟩ σ (upd H d (.frz od u))) : tLock t D σ H := ⟨d, u, h, m, k⟩
theorem k_items {td : TE} {σ : L2.St} {H : Hp} {R : It → Hp → Prop} (h : td σ H fun x H1 => ∃ d o kvs, x = .ref d ∧ H1 d = some (.frz o (.dK kvs)) ∧ R (Iti d o kvs) H1) : iItems td σ H R := h
theorem k_keys {td : TE} {σ : L2.St} {H : Hp} {R : It → Hp → Prop} (h : td σ H fun x H1 => ∃ d o, x = .ref d ∧ ((∃ kvs, H1 d = some (.frz o (.dK kvs)) ∧ R (Itk d o kvs) H1) ∨ (∃ kvs, H1 d = some (.frz o (.dT kvs)) ∧ R (Itkt d o kvs) H1))) : iKeys td σ H R := h
theorem lock_same {H H' : Hp} {d : Addr} {u : HO} {od : Obj} (h : H d = some u) (e : Same (upd H d (.frz od u)) H') : Same H (upd H' d u) := fun a o q => by
  by_cases x : a = d
  · subst x
    rw [h] at q
    cases q
    exact upd_same
  · rw [upd_ne x]
    exact e _ _ (by rw [upd_ne x]; exact q)
theorem putS_le (t : Tab) (n : Str) (v : Int) : (putS t n v).length ≤ t.length + 1 := by
  unfold putS
  split
  · rw [List.length_map]; omega
  · rw [List.length_append]; exact Nat.le_refl _
/-- a table of tables, all its own -/
structure DOwn (H0 H : Hp) (D : Addr) (L : RfT) : Prop where
  sm : Same H0 H
  hD : H D = some (.dK (kdR L))
  nD : H0 D = none
  nL : ∀ z ∈ L, H0 z.2 = none
  nd : (L.map (·.2)).Nodup
  ne : ∀ z ∈ L, z.2 ≠ D
theorem DOwn.put {H0 H : Hp} {D a : Addr} {L : RfT} {o : HO} (M : DOwn H0 H D L) (n : H0 a = none) (ne : a ≠ D) : DOwn H0 (upd H a o) D L :=
  ⟨same_put M.sm n, by rw [upd_ne (Ne.symm ne)]; exact M.hD, M.nD, M.nL, M.nd, M.ne⟩
theorem DOwn.new {H0 H : Hp} {D a : Addr} {L : RfT} {o : HO} (M : DOwn H0 H D L) (n : H a = none) : DOwn H0 (upd H a o) D L :=
  M.put (g_none M.sm n) fun e => by rw [e, M.hD] at n; cases n
def DTab (H : Hp) (L : RfT) (f : Str → Str → Int) (ks : List Str) : Prop := ∀ z ∈ L, ∃ t : Tab, H z.2 = some (.dK (kd t)) ∧ t.length ≤ L.length ∧ ∀ y ∈ ks, getS t y = some (f z.1 y)
theorem DTab.up {H H' : Hp} {L : RfT} {f : Str → Str → Int} {ks : List Str} (h : DTab H L f ks) (e : Same H H') : DTab H' L f ks := fun z hz => by
  obtain ⟨t, h1, h2⟩ := h z hz
  exact ⟨t, e _ _ h1, h2⟩
def spAllD : Sp := fun vs H Q _ => ∃ (dk : Addr) (kn : RL), vs = [.ref dk] ∧ H dk = some (.dK (kdR (tabR kn))) ∧ RowsT H kn ∧ WF (revR kn) ∧ kn.length ≤ 1000 ∧
  ∀ (D : Addr) (L : RfT) (H' : Hp), Same H H' → H D = none → L.map (·.1) = kn.map (·.2.n) → H' D = some (.dK (kdR L)) → DTab H' L (far (revR kn)) (kn.map (·.2.n)) → Q (.ref D) H'
theorem ok_alldists (T : Tx K mg) : FnOk P w K mg base CX0 1 T.a_alldists T.fd_alldists P_alldists spAllD := by
  refine T.F_alldists.ok sc_alldists (fun vs H Q E h => ?_) (fun cdv A outer s H vs Q E hr h => ?_)
  · obtain ⟨dk, kn, rfl, _⟩ := h
    rfl
  · obtain ⟨dk, kn, rfl, hdk, hrt, hwf, hlk, k⟩ := h
    have nd := sc_alldists.nd
    refine ⟨_, (pss_cons (ks_setL (i := 1) nd l_alldists_dists pe_dnewK)
      (pss_cons (ps_lock (ps_for PassesOwn.never rfl (pi_items (kv (i := 0) v_alldists_rows)) (kpg_tup K 2 rfl (pgs_cons (kgL (i := 2) nd l_alldists_name) (pgs_cons (kgL (i := 3) nd l_alldists_row) pgs_nil))) (pss_cons (ks_setL (i := 4) nd l_alldists_line pe_dnewK)
      (pss_cons (ps_for PassesOwn.never rfl (kpi_list K (kcT b_list (by decide) (by decide) (call_listD rfl) g_alldists_list T.n_list (pa_cons (kv (i := 1) v_alldists_dists) pa_nil))) (kgL (i := 5) nd l_alldists_other) (pss_cons (ks_setL (i := 6) nd l_alldists_far (pe_op kop_add (pe_dget (hu_of hr) (pe_dget (hu_of hr) (kv (i := 1) v_alldists_dists) (pe_ix (kix K) (kv (i := 3) v_alldists_row) pe_int (fun _ _ => rfl)) (fun _ _ => rfl)) (kv (i := 5) v_alldists_other) (fun _ _ => rfl)) (pe_ix (kix K) (kv (i := 3) v_alldists_row) pe_int (fun _ _ => rfl))))
      (pss_cons (ps_asg (kv (i := 6) v_alldists_far) (pg_sub (kv (i := 4) v_alldists_line) (kv (i := 5) v_alldists_other) (set_dict (hu_of hr))))
      (pss_cons (ks_setL (i := 7) nd l_alldists_back (pe_dget (hu_of hr) (kv (i := 1) v_alldists_dists) (kv (i := 5) v_alldists_other) (fun _ _ => rfl)))
      (pss_one (ps_asg (kv (i := 6) v_alldists_far) (pg_sub (kv (i := 7) v_alldists_back) (kv (i := 2) v_alldists_name) (set_dict (hu_of hr)))))))))
      (pss_cons (ps_asg pe_int (pg_sub (kv (i := 4) v_alldists_line) (kv (i := 2) v_alldists_name) (set_dict (hu_of hr))))
      (pss_one (ps_asg (kv (i := 4) v_alldists_line) (pg_sub (kv (i := 1) v_alldists_dists) (kv (i := 2) v_alldists_name) (set_dict (hu_of hr))))))))))
      (pss_one (ps_ret (kv (i := 1) v_alldists_dists))))), ?_⟩
    walk_at "ss"
    refine k_dnew fun D nD => ?_
    walk_at "ss"
    have s1 := same_new (o := .dK []) nD
    have hDdk : D ≠ dk := fun e => by rw [e, hdk] at nD; cases nD
    refine k_lock (u := .dK (kdR (tabR kn))) (s1 _ _ hdk) True.intro fun od => ?_
    generalize eH : upd (upd H D _) dk _ = HL
    have hdL : HL dk = some (.frz od (.dK (kdR (tabR kn)))) := upd_at eH
    obtain ⟨H0, eH0⟩ : ∃ H0, H0 = upd H dk (.frz od (.dK (kdR (tabR kn)))) := ⟨_, rfl⟩
    have hd0 : H0 dk = some (.frz od (.dK (kdR (tabR kn)))) := by rw [eH0]; exact upd_same
    have hr0 : RowsT H0 kn := hrt.up fun a xs h => by rw [eH0, upd_ne (ne_of h hdk (by intro z; cases z))]; exact h
    have M0 : DOwn H0 HL D [] := by
      refine ⟨fun a o h => ?_, by rw [← eH, upd_ne hDdk]; exact upd_same, by rw [eH0, upd_ne hDdk]; exact nD, (fun z hz => by cases hz), List.nodup_nil, (fun z hz => by cases hz)⟩
      rw [eH0] at h
      rw [← eH]
      by_cases e : a = dk
      · rw [e, upd_same] at h ⊢
        exact h
      · rw [upd_ne e] at h ⊢
        exact s1 _ _ h
    walk_at "ss"
    refine k_items ?_
    walk_at "ss"
    refine ⟨dk, od, _, rfl, hdL, ?_⟩
    refine k_forIt walk_items (fun i σ H' => ∃ (v2 v3 v4 v5 v6 v7 : Option V) (L : RfT), σ = [some (.ref dk), some (.ref D), v2, v3, v4, v5, v6, v7] ∧ DOwn H0 H' D L ∧ L.map (·.1) = (kn.take i).map (·.2.n) ∧ DTab H' L (far (revR (kn.take i))) (L.map (·.1))) ⟨none, none, none, none, none, none, [], rfl, M0, rfl, fun z hz => (by cases hz)⟩ ?_ ?_ ?_
    · rintro i σ H' _ ⟨v2, v3, v4, v5, v6, v7, L, rfl, M, _, _⟩
      exact M.sm _ _ hd0
    · rintro i x σ H1 H2 hi ⟨v2, v3, v4, v5, v6, v7, L, rfl, M, hL, hT⟩ ⟨tt, key, v, rfl, ntt, rfl, hx, hy⟩
      obtain ⟨z, hz, rfl, rfl⟩ : ∃ z, kn[i]? = some z ∧ key = .str z.2.n ∧ v = .ref z.1 := by
        unfold kdR at hx hy
        dsimp only at hx hy
        rw [List.map_map, List.getElem?_map] at hx hy
        cases hh : kn[i]? with
        | none => rw [hh] at hx; cases hx
        | some z => rw [hh] at hx hy; cases hx; cases hy; exact ⟨z, rfl, rfl, rfl⟩
      obtain ⟨a, r⟩ := z
      have hil := (List.getElem?_eq_some_iff.mp hz).1
      have M1 := M.new (o := .tup [.str r.n, .ref a]) ntt
      have hT1 := hT.up (same_new (o := .tup [.str r.n, .ref a]) ntt)
      have htt : upd H1 tt (.tup [.str r.n, .ref a]) tt = some (.tup [.str r.n, .ref a]) := upd_same
      have e2 : H1 = H1 := rfl
      generalize upd H1 tt (.tup [.str r.n, .ref a]) = H2 at M1 hT1 htt
      have hrow : H2 a = some (.tup [.str r.n, elV r.el, .int r.er, .int r.de]) := M1.sm _ _ (hr0 _ (List.mem_of_getElem? hz))
      have hwr := wf_at hwf hz
      have hrt' := rev_take hz
      obtain ⟨R, eR⟩ : ∃ R, R = revR (kn.take i) := ⟨_, rfl⟩
      rw [← eR] at hrt' hT1 hwr
      have hkl : L.length = i := by
        have := congrArg List.length hL
        rw [List.length_map, List.length_map, List.length_take] at this
        omega
      have hin : ∀ y, y ∈ L.map (·.1) ↔ inN R y := fun y => by rw [hL, eR, inN_rev]
      have hnn : r.n ∉ L.map (·.1) := fun h => ne_of_in hwr ((hin _).mp h) rfl
      have hnk : (L.map (·.1)).Nodup := by rw [hL]; exact nodup_rev (wf_take hwf i)
      walk_at "ss"
      refine k_dnew fun Ln nLn => ?_
      have nLD : Ln ≠ D := fun e => by rw [e, M1.hD] at nLn; cases nLn
      have nL0 : H0 Ln = none := g_none M1.sm nLn
      have nLL : ∀ z ∈ L, z.2 ≠ Ln := fun z hz e => by
        obtain ⟨t, ht, _⟩ := hT1 z hz
        rw [e, nLn] at ht
        cases ht
      have M3 := M1.new (o := .dK []) nLn
      have hT3 := hT1.up (same_new (o := .dK []) nLn)
      have hrow3 := same_new (o := .dK []) nLn _ _ hrow
      have hLn3 : upd H2 Ln (.dK []) Ln = some (.dK (kd [])) := upd_same
      generalize upd H2 Ln (.dK []) = H3 at M3 hT3 hrow3 hLn3
      walk_at "ss"
      refine ⟨D, _, rfl, .inl M3.hD, fun q nq => ?_⟩
      have M4 := M3.new (o := .lst ((kdR L).map fun kv => kV kv.1)) nq
      have hT4 := hT3.up (same_new (o := .lst ((kdR L).map fun kv => kV kv.1)) nq)
      have hrow4 := same_new (o := .lst ((kdR L).map fun kv => kV kv.1)) nq _ _ hrow3
      have hLn4 := same_new (o := .lst ((kdR L).map fun kv => kV kv.1)) nq _ _ hLn3
      have hq4 : upd H3 q (.lst ((kdR L).map fun kv => kV kv.1)) q = some (.lst (L.map fun z => .str z.1)) := by
        rw [upd_same]
        unfold kdR
        rw [List.map_map]
        rfl
      generalize upd H3 q (.lst ((kdR L).map fun kv => kV kv.1)) = H4 at M4 hT4 hrow4 hLn4 hq4
      walk_at "ss"
      refine k_iL (SqL.of hq4) ?_
      refine k_forList (L.map fun z => .str z.1) (fun j σ H' => ∃ (v5 v6 v7 : Option V) (tl : Tab), σ = [some (.ref dk), some (.ref D), some (.str r.n), some (.ref a), some (.ref Ln), v5, v6, v7] ∧ DOwn H0 H' D L ∧ H' q = some (.lst (L.map fun z => .str z.1)) ∧ H' a = some (.tup [.str r.n, elV r.el, .int r.er, .int r.de]) ∧ H' Ln = some (.dK (kd tl)) ∧ tl.length ≤ j ∧ (∀ y ∈ (L.take j).map (·.1), getS tl y = some (far (r :: R) r.n y)) ∧
          ∀ (m : Nat) (z : Str × Addr), L[m]? = some z → ∃ t : Tab, H' z.2 = some (.dK (kd t)) ∧ t.length ≤ L.length + (if m < j then 1 else 0) ∧ (∀ y ∈ L.map (·.1), getS t y = some (far (r :: R) z.1 y)) ∧ (m < j → getS t r.n = some (far (r :: R) z.1 r.n))) ⟨v5, v6, v7, [], rfl, M4, hq4, hrow4, hLn4, Nat.zero_le _, fun y hy => (by cases hy), fun m z hm => ?_⟩ ?_ ?_ ?_
      · obtain ⟨t, h1, h2, h3⟩ := hT4 z (List.mem_of_getElem? hm)
        refine ⟨t, h1, h2, fun y hy => ?_, fun h => absurd h (Nat.not_lt_zero _)⟩
        rw [far_old hwr ((hin _).mp (List.mem_map.mpr ⟨z, List.mem_of_getElem? hm, rfl⟩)) ((hin _).mp hy)]
        exact h3 y hy
      · rintro j σ H' _ ⟨v5, v6, v7, tl, _, _, hq, _⟩
        exact SqL.of hq
      · rintro j x σ H5 hj ⟨v5, v6, v7, tl, rfl, M5, hq5, hrow5, hLn5, htl, hyl, htab⟩
        obtain ⟨o, ho, rfl⟩ : ∃ o, L[j]? = some o ∧ x = .str o.1 := by
          rw [List.getElem?_map] at hj
          cases hh : L[j]? with
          | none => rw [hh] at hj; cases hj
          | some z => rw [hh] at hj; cases hj; exact ⟨z, rfl, rfl⟩
        have hjl := (List.getElem?_eq_some_iff.mp ho).1
        have hoL := List.mem_of_getElem? ho
        have hok : o.1 ∈ L.map (·.1) := List.mem_map.mpr ⟨o, hoL, rfl⟩
        obtain ⟨e, he, hem⟩ : ∃ e, r.el = some e ∧ e ∈ L.map (·.1) := by
          rcases el_at hwf hz with ⟨_, h0⟩ | ⟨e, he, hm⟩
          · omega
          · exact ⟨e, he, by rw [hL]; exact hm⟩
        rw [he] at hrow5
        obtain ⟨ae, hae, haeL⟩ := getA_of hem
        obtain ⟨m, hm⟩ := List.mem_iff_getElem?.mp haeL
        obtain ⟨te, hte, _, hte2, _⟩ := htab m _ hm
        have hfe : far (r :: R) e o.1 + r.de = far (r :: R) r.n o.1 := by
          rw [far_new hwr he ((hin _).mp hem) ((hin _).mp hok), far_old hwr ((hin _).mp hem) ((hin _).mp hok)]
        walk_at "ss"
        refine k_dget ?_
        walk_at "ss"
        refine k_dget ?_
        walk_at "ss"
        refine ⟨D, .ref ae, rfl, getR M5.hD hae, ?_⟩
        walk_at "ss"
        refine ⟨ae, .int (far (r :: R) e o.1), rfl, getT hte (hte2 _ hok), ?_⟩
        walk_at "ss"
        rw [hfe]
        refine k_setD (DPut.k (k := Sum.inr o.1) hLn5 (small_lt (by unfold kd; rw [List.length_map]; omega))) ?_
        rw [put_kd]
        have M6 := M5.put (o := .dK (kd (putS tl o.1 (far (r :: R) r.n o.1)))) nL0 nLD
        have hq6 : upd H5 Ln (.dK (kd (putS tl o.1 (far (r :: R) r.n o.1)))) q = _ := (upd_ne (ne_of hq5 hLn5 (by intro z; cases z))).trans hq5
        have hrow6 : upd H5 Ln (.dK (kd (putS tl o.1 (far (r :: R) r.n o.1)))) a = _ := (upd_ne (ne_of hrow5 hLn5 (by intro z; cases z))).trans hrow5
        have hLn6 : upd H5 Ln (.dK (kd (putS tl o.1 (far (r :: R) r.n o.1)))) Ln = _ := upd_same
        have htab6 : ∀ (m : Nat) (z : Str × Addr), L[m]? = some z → ∃ t : Tab, upd H5 Ln (.dK (kd (putS tl o.1 (far (r :: R) r.n o.1)))) z.2 = some (.dK (kd t)) ∧ t.length ≤ L.length + (if m < j then 1 else 0) ∧ (∀ y ∈ L.map (·.1), getS t y = some (far (r :: R) z.1 y)) ∧ (m < j → getS t r.n = some (far (r :: R) z.1 r.n)) := fun m z hm => by
          obtain ⟨t, h1, h2⟩ := htab m z hm
          exact ⟨t, by rw [upd_ne (nLL z (List.mem_of_getElem? hm))]; exact h1, h2⟩
        generalize upd H5 Ln (.dK (kd (putS tl o.1 (far (r :: R) r.n o.1)))) = H6 at M6 hq6 hrow6 hLn6 htab6
        walk_at "ss"
        refine k_dget ?_
        walk_at "ss"
        refine ⟨D, .ref o.2, rfl, getR M6.hD (getA_uniq hnk hoL), ?_⟩
        walk_at "ss"
        obtain ⟨t, ht, htl2, hty, _⟩ := htab6 j o ho
        rw [if_neg (Nat.lt_irrefl _)] at htl2
        refine k_setD (DPut.k (k := Sum.inr r.n) ht (small_lt (by unfold kd; rw [List.length_map]; omega))) ?_
        rw [put_kd]
        refine ⟨_, _, _, putS tl o.1 (far (r :: R) r.n o.1), rfl, M6.put (M6.nL o hoL) (M6.ne o hoL), (upd_ne (ne_of hq6 ht (by intro z; cases z))).trans hq6, (upd_ne (ne_of hrow6 ht (by intro z; cases z))).trans (hrow6.trans (by rw [he])), (upd_ne (Ne.symm (nLL o hoL))).trans hLn6, Nat.le_trans (putS_le _ _ _) (by omega), fun y hy => ?_, fun m z hm => ?_⟩
        · rw [get_put]
          split
          · rename_i e; rw [e]
          · rename_i hne
            refine hyl y ?_
            rw [List.take_add_one, ho, List.map_append] at hy
            rcases List.mem_append.mp hy with hy | hy
            · exact hy
            · exact absurd (List.mem_singleton.mp hy) hne
        · by_cases e : m = j
          · subst e
            rw [ho] at hm
            cases hm
            refine ⟨putS t r.n (far (r :: R) r.n o.1), upd_same, Nat.le_trans (putS_le _ _ _) (by rw [if_pos (by omega)]; omega), fun y hy => ?_, fun _ => ?_⟩
            · rw [get_put, if_neg (fun e : y = r.n => hnn (e ▸ hy))]
              exact hty y hy
            · rw [get_put, if_pos rfl, far_comm]
          · obtain ⟨t2, h1, h2, h3, h4⟩ := htab6 m z hm
            have hne : z.2 ≠ o.2 := fun e2 => e ((List.getElem?_inj (by rw [List.length_map]; exact (List.getElem?_eq_some_iff.mp hm).1) M6.nd).mp (by rw [List.getElem?_map, List.getElem?_map, hm, ho]; exact congrArg some e2))
            refine ⟨t2, (upd_ne hne).trans h1, Nat.le_trans h2 ?_, h3, fun h => h4 (by omega)⟩
            split <;> split <;> omega
      · rintro σ H5 ⟨v5, v6, v7, tl, rfl, M5, hq5, hrow5, hLn5, htl, hyl, htab⟩
        rw [List.length_map] at htl htab hyl
        rw [List.take_length] at hyl
        walk_at "ss"
        refine k_setD (DPut.k (k := Sum.inr r.n) hLn5 (small_lt (by unfold kd; rw [List.length_map]; omega))) ?_
        rw [put_kd]
        have M6 := M5.put (o := .dK (kd (putS tl r.n 0))) nL0 nLD
        have hLn6 : upd H5 Ln (.dK (kd (putS tl r.n 0))) Ln = _ := upd_same
        have htab6 : ∀ z ∈ L, ∃ t : Tab, upd H5 Ln (.dK (kd (putS tl r.n 0))) z.2 = some (.dK (kd t)) ∧ t.length ≤ L.length + 1 ∧ (∀ y ∈ L.map (·.1), getS t y = some (far (r :: R) z.1 y)) ∧ getS t r.n = some (far (r :: R) z.1 r.n) := fun z hz => by
          obtain ⟨m, hm⟩ := List.mem_iff_getElem?.mp hz
          have hml := (List.getElem?_eq_some_iff.mp hm).1
          obtain ⟨t, h1, h2, h3, h4⟩ := htab m z hm
          rw [if_pos hml] at h2
          exact ⟨t, by rw [upd_ne (nLL z hz)]; exact h1, h2, h3, h4 hml⟩
        generalize upd H5 Ln (.dK (kd (putS tl r.n 0))) = H6 at M6 hLn6 htab6
        walk_at "ss"
        refine k_setD (DPut.k (k := Sum.inr r.n) M6.hD (small_lt (by unfold kdR; rw [List.length_map]; omega))) ?_
        rw [put_kdR hnn]
        have hks : (L ++ [(r.n, Ln)]).map (·.1) = L.map (·.1) ++ [r.n] := by rw [List.map_append]; rfl
        refine ⟨_, _, _, _, _, _, L ++ [(r.n, Ln)], rfl, ⟨same_put M6.sm M6.nD, upd_same, M6.nD, fun z hz => ?_, ?_, fun z hz => ?_⟩, ?_, ?_⟩
        · rcases List.mem_append.mp hz with hz | hz
          · exact M6.nL z hz
          · rw [List.mem_singleton.mp hz]; exact nL0
        · rw [List.map_append, List.nodup_append]
          refine ⟨M6.nd, by simp, fun x hx y hy => ?_⟩
          obtain ⟨z, hz, rfl⟩ := List.mem_map.mp hx
          rw [List.mem_singleton.mp hy]
          exact nLL z hz
        · rcases List.mem_append.mp hz with hz | hz
          · exact M6.ne z hz
          · rw [List.mem_singleton.mp hz]; exact nLD
        · rw [hks, hL, List.take_add_one, hz, List.map_append]
          rfl
        · rw [hks, hrt']
          intro z hz
          rw [List.length_append]
          rcases List.mem_append.mp hz with hz | hz
          · obtain ⟨t, h1, h2, h3, h4⟩ := htab6 z hz
            refine ⟨t, (upd_ne (M6.ne z hz)).trans h1, h2, fun y hy => ?_⟩
            rcases List.mem_append.mp hy with hy | hy
            · exact h3 y hy
            · rw [List.mem_singleton.mp hy]; exact h4
          · rw [List.mem_singleton.mp hz]
            refine ⟨putS tl r.n 0, (upd_ne nLD).trans hLn6, Nat.le_trans (putS_le _ _ _) (by simp; omega), fun y hy => ?_⟩
            rw [get_put]
            rcases List.mem_append.mp hy with hy | hy
            · rw [if_neg (fun e : y = r.n => hnn (e ▸ hy))]
              exact hyl y hy
            · rw [List.mem_singleton.mp hy, if_pos rfl, far_self]
    · rintro σ H1 ⟨v2, v3, v4, v5, v6, v7, L, rfl, M, hL, hT⟩
      have e1 : (kdR (tabR kn)).length = kn.length := by unfold kdR; rw [List.length_map, List.length_map]
      rw [e1, List.take_length] at hL hT
      refine ⟨M.sm _ _ hd0, ?_⟩
      have sE : Same H (upd H1 dk (.dK (kdR (tabR kn)))) := by
        refine lock_same (od := od) hdk ?_
        rw [← eH0]
        exact M.sm
      have hne : ∀ z ∈ L, z.2 ≠ dk := fun z hz e => by
        have := M.nL z hz
        rw [e, hd0] at this
        cases this
      generalize eH1 : upd H1 dk (.dK (kdR (tabR kn))) = H2
      rw [eH1] at sE
      walk_at "ss"
      refine k D L H2 sE nD hL (by rw [← eH1, upd_ne hDdk]; exact M.hD) fun z hz => ?_
      obtain ⟨t, h1, h2, h3⟩ := hT z hz
      exact ⟨t, by rw [← eH1, upd_ne (hne z hz)]; exact h1, h2, by rw [← hL]; exact h3⟩
end

section
variable {w : World} {K : PySem.W.Frag} {mg : Str → Option Value} {base : Heap}
theorem k_eqS {x y : Str} {H : Hp} {Q : VK} (k : Q (.bl (decide (x = y))) H) : rEq (.str x) (.str y) H Q := by
  by_cases e : x = y
  · subst e
    rw [decide_eq_true rfl] at k
    exact k_eqT k
  · rw [decide_eq_false e] at k
    exact k_eqF e k
theorem if_meet {c : Bool} {ta tb : TE} {σ : L2.St} {H : Hp} {Q : VK} (v : V) (k : Q v H) (ha : c = true → ∀ Q' : VK, Q' v H → ta σ H Q') (hb : c = false → ∀ Q' : VK, Q' v H → tb σ H Q') : if c = true then ta σ H Q else tb σ H Q := by
  cases c with
  | true => rw [if_pos rfl]; exact ha rfl Q k
  | false => rw [if_neg (by decide)]; exact hb rfl Q k
def KCell (R : List Rw) (H : Hp) (x : Str) (q : Str × Addr) : Prop := ∃ (k : Int) (s : Str), H q.2 = some (.tup [.int k, .str s]) ∧ IsMin k ((up R x).map fun s => base1 R s q.1)
theorem KCell.put {R : List Rw} {H : Hp} {x : Str} {q : Str × Addr} {a : Addr} {o : HO} (h : KCell R H x q) (n : H a = none ∨ ∃ kvs, H a = some (.dK kvs)) : KCell R (upd H a o) x q := by
  obtain ⟨k, s, h1, h2⟩ := h
  refine ⟨k, s, ?_, h2⟩
  rcases n with n | ⟨kvs, n⟩
  · rw [upd_ne (ne_of_none h1 n)]; exact h1
  · rw [upd_ne (ne_of h1 n (by intro z; cases z))]; exact h1
def KTab (R : List Rw) (H : Hp) (M : RfT) (ks : List Str) : Prop := ∀ z ∈ M, ∃ L2 : RfT, H z.2 = some (.dK (kdR L2)) ∧ L2.map (·.1) = ks ∧ ∀ q ∈ L2, KCell R H z.1 q
theorem KTab.put {R : List Rw} {H : Hp} {M : RfT} {ks : List Str} {a : Addr} {o : HO} (h : KTab R H M ks) (n : H a = none ∨ ∃ kvs, H a = some (.dK kvs)) (ne : ∀ z ∈ M, z.2 ≠ a) : KTab R (upd H a o) M ks := fun z hz => by
  obtain ⟨L2, h1, h2, h3⟩ := h z hz
  exact ⟨L2, by rw [upd_ne (ne z hz)]; exact h1, h2, fun q hq => (h3 q hq).put n⟩
theorem KTab.new {R : List Rw} {H : Hp} {M : RfT} {ks : List Str} {a : Addr} {o : HO} (h : KTab R H M ks) (n : H a = none) : KTab R (upd H a o) M ks := h.put (.inl n) fun z hz e => by
  obtain ⟨L2, h1, _⟩ := h z hz
  rw [e, n] at h1
  cases h1
def spAllK : Sp := fun vs H Q _ => ∃ (dk D : Addr) (kn : RL) (L : RfT), vs = [.ref dk, .ref D] ∧ H dk = some (.dK (kdR (tabR kn))) ∧ RowsT H kn ∧ WF (revR kn) ∧ kn.length ≤ 1000 ∧ D ≠ dk ∧ L.map (·.1) = kn.map (·.2.n) ∧ H D = some (.dK (kdR L)) ∧ DTab H L (far (revR kn)) (kn.map (·.2.n)) ∧ (∀ z ∈ L, z.2 ≠ dk) ∧
  ∀ (B : Addr) (M : RfT) (H' : Hp), Same H H' → H B = none → M.map (·.1) = kn.map (·.2.n) → H' B = some (.dK (kdR M)) → KTab (revR kn) H' M (kn.map (·.2.n)) → Q (.ref B) H'
theorem ok_allkappas (T : Tx K mg) : FnOk P w K mg base CX0 1 T.a_allkappas T.fd_allkappas P_allkappas spAllK := by
  refine T.F_allkappas.ok sc_allkappas (fun vs H Q E h => ?_) (fun cdv A outer s H vs Q E hr h => ?_)
  · obtain ⟨dk, D, kn, L, rfl, _⟩ := h
    rfl
  · obtain ⟨dk, D, kn, L, rfl, hdk, hrt, hwf, hlk, hDk, hLk, hD, hT, hLd, k⟩ := h
    have nd := sc_allkappas.nd
    refine ⟨_, (pss_cons (ks_setL (i := 2) nd l_allkappas_kappas pe_dnewK)
      (pss_cons (ps_lock (ps_for PassesOwn.never rfl (pi_items (kv (i := 0) v_allkappas_rows)) (kpg_tup K 2 rfl (pgs_cons (kgL (i := 3) nd l_allkappas_name) (pgs_cons (kgL (i := 4) nd l_allkappas_row) pgs_nil))) (pss_cons (ks_setL (i := 5) nd l_allkappas_line pe_dnewK)
      (pss_cons (ps_for PassesOwn.never rfl (pi_keys (kv (i := 0) v_allkappas_rows)) (kgL (i := 6) nd l_allkappas_other) (pss_cons (ks_setL (i := 7) nd l_allkappas_best (pe_tup (pa_cons (pe_ifExp (pt_cmpR op_eq (kv (i := 6) v_allkappas_other) (kv (i := 3) v_allkappas_name) (nomark _)) (pe_un un_neg pe_int) (pe_op kop_add (pe_op op_mul pe_int (pe_ix (kix K) (kv (i := 4) v_allkappas_row) pe_int (fun _ _ => rfl))) (pe_dget (hu_of hr) (pe_dget (hu_of hr) (kv (i := 1) v_allkappas_dists) (kv (i := 3) v_allkappas_name) (fun _ _ => rfl)) (kv (i := 6) v_allkappas_other) (fun _ _ => rfl)))) (pa_cons (kv (i := 3) v_allkappas_name) pa_nil))))
      (kss_meet (ps_if (pt_cmpR op_notN (pe_ix (kix K) (kv (i := 4) v_allkappas_row) pe_int (fun _ _ => rfl)) pe_non (nomark _)) (pss_cons (ks_setL (i := 8) nd l_allkappas_above (pe_dget (hu_of hr) (pe_dget (hu_of hr) (kv (i := 2) v_allkappas_kappas) (pe_ix (kix K) (kv (i := 4) v_allkappas_row) pe_int (fun _ _ => rfl)) (fun _ _ => rfl)) (kv (i := 6) v_allkappas_other) (fun _ _ => rfl)))
      (pss_one (ps_if (pt_cmpR op_lt (pe_ix (kix K) (kv (i := 8) v_allkappas_above) pe_int (fun _ _ => rfl)) (pe_ix (kix K) (kv (i := 7) v_allkappas_best) pe_int (fun _ _ => rfl)) (nomark _)) (pss_one (ks_setL (i := 7) nd l_allkappas_best (kv (i := 8) v_allkappas_above))) pss_nil))) pss_nil)
      (pss_one (ps_asg (kv (i := 7) v_allkappas_best) (pg_sub (kv (i := 5) v_allkappas_line) (kv (i := 6) v_allkappas_other) (set_dict (hu_of hr))))))))
      (pss_one (ps_asg (kv (i := 5) v_allkappas_line) (pg_sub (kv (i := 2) v_allkappas_kappas) (kv (i := 3) v_allkappas_name) (set_dict (hu_of hr)))))))))
      (pss_one (ps_ret (kv (i := 2) v_allkappas_kappas))))), ?_⟩
    walk_at "ss"
    refine k_dnew fun B nB => ?_
    walk_at "ss"
    have s1 := same_new (o := .dK []) nB
    have hBdk : B ≠ dk := fun e => by rw [e, hdk] at nB; cases nB
    refine k_lock (u := .dK (kdR (tabR kn))) (s1 _ _ hdk) True.intro fun od => ?_
    generalize eH : upd (upd H B _) dk _ = HL
    have hdL : HL dk = some (.frz od (.dK (kdR (tabR kn)))) := upd_at eH
    obtain ⟨H0, eH0⟩ : ∃ H0, H0 = upd H dk (.frz od (.dK (kdR (tabR kn)))) := ⟨_, rfl⟩
    have hd0 : H0 dk = some (.frz od (.dK (kdR (tabR kn)))) := by rw [eH0]; exact upd_same
    have hr0 : RowsT H0 kn := hrt.up fun a xs h => by rw [eH0, upd_ne (ne_of h hdk (by intro z; cases z))]; exact h
    have hD0 : H0 D = some (.dK (kdR L)) := by rw [eH0, upd_ne hDk]; exact hD
    have hT0 : DTab H0 L (far (revR kn)) (kn.map (·.2.n)) := fun z hz => by
      obtain ⟨t, h1, h2⟩ := hT z hz
      exact ⟨t, by rw [eH0, upd_ne (hLd z hz)]; exact h1, h2⟩
    have nB0 : H0 B = none := by rw [eH0, upd_ne hBdk]; exact nB
    have sm0 : Same H0 HL := by
      intro a o h
      rw [eH0] at h
      rw [← eH]
      by_cases e : a = dk
      · rw [e, upd_same] at h ⊢
        exact h
      · rw [upd_ne e] at h ⊢
        exact s1 _ _ h
    have hBL : HL B = some (.dK (kdR [])) := by rw [← eH, upd_ne hBdk]; exact upd_same
    obtain ⟨R, eR⟩ : ∃ R, R = revR kn := ⟨_, rfl⟩
    have hin : ∀ y, y ∈ kn.map (·.2.n) ↔ inN R y := fun y => by rw [eR, inN_rev]
    have hnk : (kn.map (·.2.n)).Nodup := nodup_rev hwf
    walk_at "ss"
    refine k_items ?_
    walk_at "ss"
    refine ⟨dk, od, _, rfl, hdL, ?_⟩
    refine k_forIt walk_items (fun i σ H' => ∃ (v3 v4 v5 v6 v7 v8 : Option V) (M : RfT), σ = [some (.ref dk), some (.ref D), some (.ref B), v3, v4, v5, v6, v7, v8] ∧ Same H0 H' ∧ H' B = some (.dK (kdR M)) ∧ M.map (·.1) = (kn.take i).map (·.2.n) ∧ KTab (revR kn) H' M (kn.map (·.2.n)) ∧ ∀ z ∈ M, z.2 ≠ B) ⟨none, none, none, none, none, none, [], rfl, sm0, hBL, rfl, (fun z hz => by cases hz), fun z hz => by cases hz⟩ ?_ ?_ ?_
    · rintro i σ H' _ ⟨v3, v4, v5, v6, v7, v8, M, rfl, sm, _⟩
      exact sm _ _ hd0
    · rintro i x σ H1 H2 hi ⟨v3, v4, v5, v6, v7, v8, M, rfl, sm, hB, hM, hKT, hMB⟩ ⟨tt, key, v, rfl, ntt, rfl, hx, hy⟩
      obtain ⟨z, hz, rfl, rfl⟩ : ∃ z, kn[i]? = some z ∧ key = .str z.2.n ∧ v = .ref z.1 := by
        unfold kdR at hx hy
        dsimp only at hx hy
        rw [List.map_map, List.getElem?_map] at hx hy
        cases hh : kn[i]? with
        | none => rw [hh] at hx; cases hx
        | some z => rw [hh] at hx hy; cases hx; cases hy; exact ⟨z, rfl, rfl, rfl⟩
      obtain ⟨a, r⟩ := z
      have hil := (List.getElem?_eq_some_iff.mp hz).1
      have sm1 := sm.trans (same_new (o := .tup [.str r.n, .ref a]) ntt)
      have hB1 := same_new (o := .tup [.str r.n, .ref a]) ntt _ _ hB
      have hK1 := hKT.new (o := .tup [.str r.n, .ref a]) ntt
      have htt : upd H1 tt (.tup [.str r.n, .ref a]) tt = some (.tup [.str r.n, .ref a]) := upd_same
      generalize upd H1 tt (.tup [.str r.n, .ref a]) = H2 at sm1 hB1 hK1 htt
      have hrow : H2 a = some (.tup [.str r.n, elV r.el, .int r.er, .int r.de]) := sm1 _ _ (hr0 _ (List.mem_of_getElem? hz))
      have hnn : r.n ∉ M.map (·.1) := fun h => by
        rw [hM] at h
        exact ne_of_in (wf_at hwf hz) (inN_rev.mpr h) rfl
      have her : errOf (revR kn) r.n = r.er := err_at hwf hz
      have hmem : r.n ∈ kn.map (·.2.n) := List.mem_map.mpr ⟨_, List.mem_of_getElem? hz, rfl⟩
      walk_at "ss"
      refine k_dnew fun Ln nLn => ?_
      have nLB : Ln ≠ B := fun e => by rw [e, hB1] at nLn; cases nLn
      have nL0 : H0 Ln = none := g_none sm1 nLn
      have nLL : ∀ z ∈ M, z.2 ≠ Ln := fun z hz e => by
        obtain ⟨t, ht, _⟩ := hK1 z hz
        rw [e, nLn] at ht
        cases ht
      have sm3 := sm1.trans (same_new (o := .dK []) nLn)
      have hB3 := same_new (o := .dK []) nLn _ _ hB1
      have hK3 := hK1.new (o := .dK []) nLn
      have hrow3 := same_new (o := .dK []) nLn _ _ hrow
      have hLn3 : upd H2 Ln (.dK []) Ln = some (.dK (kdR [])) := upd_same
      generalize upd H2 Ln (.dK []) = H3 at sm3 hB3 hK3 hrow3 hLn3
      walk_at "ss"
      refine k_keys ?_
      walk_at "ss"
      refine ⟨dk, od, rfl, .inl ⟨_, sm3 _ _ hd0, ?_⟩⟩
      refine k_forIt walk_keys (fun j σ H' => ∃ (v6 v7 v8 : Option V) (L2 : RfT), σ = [some (.ref dk), some (.ref D), some (.ref B), some (.str r.n), some (.ref a), some (.ref Ln), v6, v7, v8] ∧ Same H0 H' ∧ H' B = some (.dK (kdR M)) ∧ KTab (revR kn) H' M (kn.map (·.2.n)) ∧ H' a = some (.tup [.str r.n, elV r.el, .int r.er, .int r.de]) ∧ H' Ln = some (.dK (kdR L2)) ∧ L2.map (·.1) = (kn.take j).map (·.2.n) ∧ ∀ q ∈ L2, KCell (revR kn) H' r.n q) ⟨v6, v7, v8, [], rfl, sm3, hB3, hK3, hrow3, hLn3, rfl, fun q hq => by cases hq⟩ ?_ ?_ ?_
      · rintro j σ H' _ ⟨v6, v7, v8, L2, _, sm, _⟩
        exact sm _ _ hd0
      · rintro j x σ _ H4 hj ⟨v6, v7, v8, L2, rfl, sm4, hB4, hK4, hrow4, hLn4, hL2, hC4⟩ ⟨rfl, key, vv, hkv, rfl⟩
        obtain ⟨o, ho, rfl⟩ : ∃ o, kn[j]? = some o ∧ key = .inr o.2.n := by
          unfold kdR at hkv
          rw [List.map_map, List.getElem?_map] at hkv
          cases hh : kn[j]? with
          | none => rw [hh] at hkv; cases hkv
          | some z => rw [hh] at hkv; cases hkv; exact ⟨z, rfl, rfl⟩
        have homem : o.2.n ∈ kn.map (·.2.n) := List.mem_map.mpr ⟨_, List.mem_of_getElem? ho, rfl⟩
        walk_at "ss"
        refine k_eqS ?_
        refine ⟨_, rfl, ?_⟩
        refine if_meet (.int (base1 (revR kn) r.n o.2.n)) ?_ (fun hc Q' k' => ?_) (fun hc Q' k' => ?_)
        · walk_at "ss"
          intro bt nbt
          have sm5 := sm4.trans (same_new (o := .tup [.int (base1 (revR kn) r.n o.2.n), .str r.n]) nbt)
          have hB5 := same_new (o := .tup [.int (base1 (revR kn) r.n o.2.n), .str r.n]) nbt _ _ hB4
          have hK5 := hK4.new (o := .tup [.int (base1 (revR kn) r.n o.2.n), .str r.n]) nbt
          have hrow5 := same_new (o := .tup [.int (base1 (revR kn) r.n o.2.n), .str r.n]) nbt _ _ hrow4
          have hLn5 := same_new (o := .tup [.int (base1 (revR kn) r.n o.2.n), .str r.n]) nbt _ _ hLn4
          have hC5 : ∀ q ∈ L2, KCell (revR kn) _ r.n q := fun q hq => (hC4 q hq).put (o := .tup [.int (base1 (revR kn) r.n o.2.n), .str r.n]) (.inl nbt)
          have hbt : upd H4 bt (.tup [.int (base1 (revR kn) r.n o.2.n), .str r.n]) bt = _ := upd_same
          generalize upd H4 bt (.tup [.int (base1 (revR kn) r.n o.2.n), .str r.n]) = H5 at sm5 hB5 hK5 hrow5 hLn5 hC5 hbt
          have hno2 : o.2.n ∉ L2.map (·.1) := fun h => by
            rw [hL2] at h
            exact ne_of_in (wf_at hwf ho) (inN_rev.mpr h) rfl
          have hl2 : L2.length ≤ 1000 := by
            have := congrArg List.length hL2
            rw [List.length_map, List.length_map, List.length_take] at this
            omega
          have hup := up_full hwf hz
          walk_at "ss"
          refine k_meet (fun σ H' => ∃ (q : Addr) (v8 : Option V), σ = [some (.ref dk), some (.ref D), some (.ref B), some (.str r.n), some (.ref a), some (.ref Ln), some (.str o.2.n), some (.ref q), v8] ∧ H' = H5 ∧ KCell (revR kn) H5 r.n (o.2.n, q)) ?_ ?_
          · rcases el_at hwf hz with ⟨hel, _⟩ | ⟨e, hel, hem⟩
            · have hup1 := hup.1 hel
              dsimp only at hel hup1
              rw [hel] at hrow5
              walk_at "ss"
              refine ⟨rfl, ?_⟩
              walk_at "ss"
              refine k_nt (show elV none = V.non from rfl) ?_
              walk_at "ss"
              exact ⟨bt, _, rfl, rfl, _, _, hbt, by rw [hup1]; exact ⟨List.mem_singleton.mpr rfl, fun y hy => by rw [List.mem_singleton.mp hy]; exact Int.le_refl _⟩⟩
            · have hup2 := hup.2 e hel
              dsimp only at hel hup2
              rw [hel] at hrow5
              obtain ⟨ae, hae, haeL⟩ := getA_of (l := M) (n := e) (by rw [hM]; exact hem)
              obtain ⟨Le, hLe, hLek, hLeC⟩ := hK5 _ haeL
              obtain ⟨qe, hqe, hqeL⟩ := getA_of (l := Le) (n := o.2.n) (by rw [hLek]; exact homem)
              obtain ⟨ke, se, hqt, hmin⟩ := hLeC _ hqeL
              dsimp only at hqt hmin hLe
              have hcell : IsMin ke ((up (revR kn) e).map fun s => base1 (revR kn) s o.2.n) := hmin
              walk_at "ss"
              refine ⟨rfl, ?_⟩
              walk_at "ss"
              refine k_nf (show ¬ elV (some e) = V.non from fun h => by cases h) ?_
              walk_at "ss"
              refine k_dget ?_
              walk_at "ss"
              refine k_dget ?_
              walk_at "ss"
              refine ⟨B, .ref ae, rfl, getR hB5 hae, ?_⟩
              walk_at "ss"
              refine ⟨ae, .ref qe, rfl, getR hLe hqe, ?_⟩
              walk_at "ss"
              refine k_d (fun h => ?_) (fun h => ?_)
              · walk_at "ss"
                refine ⟨qe, _, rfl, rfl, ke, se, hqt, ?_⟩
                rw [hup2, List.map_cons]
                refine ⟨List.mem_cons_of_mem _ hcell.mem, fun y hy => ?_⟩
                rcases List.mem_cons.mp hy with rfl | hy
                · exact Int.le_of_lt h
                · exact hcell.le y hy
              · walk_at "ss"
                refine ⟨bt, _, rfl, rfl, _, _, hbt, ?_⟩
                rw [hup2, List.map_cons]
                refine ⟨List.mem_cons_self, fun y hy => ?_⟩
                rcases List.mem_cons.mp hy with rfl | hy
                · exact Int.le_refl _
                · exact Int.le_trans (Int.not_lt.mp h) (hcell.le y hy)
          · rintro σ _ ⟨q, v8, rfl, rfl, hq⟩
            walk_at "ss"
            refine k_setD (DPut.k (k := Sum.inr o.2.n) hLn5 (small_lt (by unfold kdR; rw [List.length_map]; omega))) ?_
            rw [put_kdR hno2]
            refine ⟨_, _, _, L2 ++ [(o.2.n, q)], rfl, same_put sm5 nL0, (upd_ne (Ne.symm nLB)).trans hB5, hK5.put (.inr ⟨_, hLn5⟩) nLL, (upd_ne (ne_of hrow5 hLn5 (by intro z; cases z))).trans hrow5, upd_same, ?_, fun q' hq' => ?_⟩
            · rw [List.map_append, hL2, List.take_add_one, ho, List.map_append]
              rfl
            · rcases List.mem_append.mp hq' with h | h
              · exact (hC5 q' h).put (.inr ⟨_, hLn5⟩)
              · rw [List.mem_singleton.mp h]
                exact hq.put (.inr ⟨_, hLn5⟩)
        · rw [decide_eq_true_iff] at hc
          walk_at "ss"
          rw [show base1 (revR kn) r.n o.2.n = -1 by unfold base1; rw [if_pos hc]] at k'
          exact k'
        · rw [decide_eq_false_iff_not] at hc
          have hb : base1 (revR kn) r.n o.2.n = 2 * r.er + far (revR kn) r.n o.2.n := by unfold base1; rw [if_neg hc, her]
          obtain ⟨al, hal, halL⟩ := getA_of (l := L) (n := r.n) (by rw [hLk]; exact hmem)
          obtain ⟨t, ht, _, ht2⟩ := hT0 _ halL
          walk_at "ss"
          refine k_dget ?_
          walk_at "ss"
          refine k_dget ?_
          walk_at "ss"
          refine ⟨D, .ref al, rfl, getR (sm4 _ _ hD0) hal, ?_⟩
          walk_at "ss"
          refine ⟨al, .int (far (revR kn) r.n o.2.n), rfl, getT (sm4 _ _ ht) (ht2 _ homem), ?_⟩
          walk_at "ss"
          rw [hb] at k'
          exact k'
      · rintro σ H4 ⟨v6, v7, v8, L2, rfl, sm4, hB4, hK4, hrow4, hLn4, hL2, hC4⟩
        have e1 : (kdR (tabR kn)).length = kn.length := by unfold kdR; rw [List.length_map, List.length_map]
        rw [e1, List.take_length] at hL2
        walk_at "ss"
        refine k_setD (DPut.k (k := Sum.inr r.n) hB4 (small_lt (by
          have := congrArg List.length hM
          rw [List.length_map, List.length_map, List.length_take] at this
          unfold kdR
          rw [List.length_map]
          omega))) ?_
        rw [put_kdR hnn]
        refine ⟨_, _, _, _, _, _, M ++ [(r.n, Ln)], rfl, same_put sm4 nB0, upd_same, ?_, fun z hz' => ?_, fun z hz' => ?_⟩
        · rw [List.map_append, hM, List.take_add_one, hz, List.map_append]
          rfl
        · rcases List.mem_append.mp hz' with h | h
          · exact hK4.put (.inr ⟨_, hB4⟩) hMB z h
          · rw [List.mem_singleton.mp h]
            exact ⟨L2, (upd_ne nLB).trans hLn4, hL2, fun q hq => (hC4 q hq).put (.inr ⟨_, hB4⟩)⟩
        · rcases List.mem_append.mp hz' with h | h
          · exact hMB z h
          · rw [List.mem_singleton.mp h]
            exact nLB
    · rintro σ H1 ⟨v3, v4, v5, v6, v7, v8, M, rfl, sm, hB, hM, hKT, hMB⟩
      have e1 : (kdR (tabR kn)).length = kn.length := by unfold kdR; rw [List.length_map, List.length_map]
      rw [e1, List.take_length] at hM
      refine ⟨sm _ _ hd0, ?_⟩
      have sE : Same H (upd H1 dk (.dK (kdR (tabR kn)))) := by
        refine lock_same (od := od) hdk ?_
        rw [← eH0]
        exact sm
      have hK2 : KTab (revR kn) (upd H1 dk (.dK (kdR (tabR kn)))) M (kn.map (·.2.n)) := fun z hz => by
        obtain ⟨L2, h1, h2, h3⟩ := hKT z hz
        refine ⟨L2, ?_, h2, fun q hq => ?_⟩
        · rw [upd_ne (ne_of h1 (sm _ _ hd0) (by intro z; cases z))]
          exact h1
        · obtain ⟨k1, s2, h4, h5⟩ := h3 q hq
          exact ⟨k1, s2, by rw [upd_ne (ne_of h4 (sm _ _ hd0) (by intro z; cases z))]; exact h4, h5⟩
      generalize eH1 : upd H1 dk (.dK (kdR (tabR kn))) = H2
      rw [eH1] at sE hK2
      walk_at "ss"
      exact k B M H2 sE nB hM (by rw [← eH1, upd_ne hBdk]; exact hB) hK2
end

section
variable {w : World} {K : PySem.W.Frag} {mg : Str → Option Value} {base : Heap}
theorem k_iEnumT {ta : TA} {σ : L2.St} {H : Hp} {R : It → Hp → Prop} (h : ta σ H fun vs H1 => ∃ a xs, vs = [V.ref a] ∧ SqT K H1 a xs ∧ R (Itet K a) H1) : iEnumT K ta σ H R := h
theorem RestAt.fr {T : Tx K mg} {F : Addr → Prop} {H H' : Hp} {r C dx : Addr} (f : ∀ a o, a ≠ r → H a = some o → H' a = some o) (hr : H r = some (.ins C dx [])) : ∀ {a : Addr} {p : Plan}, RestAt T F H a p → RestAt T F H' a p := by
  intro a p h
  induction h with
  | win h ht => exact .win (f _ _ (ne_of h hr (by intro z; cases z)) h) ht
  | days h hl ht hF => exact .days (f _ _ (ne_of h hr (by intro z; cases z)) h) (f _ _ (ne_of hl hr (by intro z; cases z)) hl) ht hF
  | op h h1 h2 ht i1 i2 => exact .op (f _ _ (ne_of h hr (by intro z; cases z)) h) i1 i2 ht
theorem kd_kdR {t : Tab} {l : RL} (h : 1 ≤ l.length) : kd t ≠ kdR (tabR l) := by
  cases l with
  | nil => exact absurd h (by decide)
  | cons z l =>
    cases t with
    | nil => intro e; cases e
    | cons y t =>
      intro e
      have := congrArg (fun m => (List.head? m).map Prod.snd) e
      cases this
abbrev nNet : List Str := ["rest", "_known", "_dists", "_kappas"]
structure NetAt (T : Tx K mg) (F : Addr → Prop) (H : Hp) (r : Addr) (p : Plan) (kn : RL) : Prop where
  ex : ∃ (dx ra dk D B : Addr) (M : RfT), H r = some (.ins T.C_Net dx (FL nNet [.ref ra, .ref dk, .ref D, .ref B])) ∧ RestAt T F H ra p ∧ H dk = some (.dK (kdR (tabR kn))) ∧ RowsT H kn ∧ M.map (·.1) = kn.map (·.2.n) ∧ H B = some (.dK (kdR M)) ∧ KTab (revR kn) H M (kn.map (·.2.n))
structure RowsOk (kn : RL) : Prop where
  wf : WF (revR kn)
  nm : ∀ z ∈ kn, nameB z.2.n
  len : 1 ≤ kn.length ∧ kn.length ≤ 6
theorem KTab.up {R : List Rw} {H H' : Hp} {M : RfT} {ks : List Str} (h : KTab R H M ks) (e : Same H H') : KTab R H' M ks := fun z hz => by
  obtain ⟨L2, h1, h2, h3⟩ := h z hz
  refine ⟨L2, e _ _ h1, h2, fun q hq => ?_⟩
  obtain ⟨k, s, h4, h5⟩ := h3 q hq
  exact ⟨k, s, e _ _ h4, h5⟩
theorem NetAt.up {T : Tx K mg} {F : Addr → Prop} {H H' : Hp} {r : Addr} {p : Plan} {kn : RL} (h : NetAt T F H r p kn) (e : Same H H') : NetAt T F H' r p kn := by
  obtain ⟨⟨dx, ra, dk, D, B, M, h1, h2, h3, h4, h5, h6, h7⟩⟩ := h
  exact ⟨⟨dx, ra, dk, D, B, M, e _ _ h1, h2.up e, e _ _ h3, h4.up (fun a xs => e a _), h5, e _ _ h6, h7.up e⟩⟩
theorem RowsOk.at {kn : RL} (h : RowsOk kn) {i : Nat} {z : Addr × Rw} (hz : kn[i]? = some z) : RowOk (kn.take i) z.2 := by
  have hw := wf_at h.wf hz
  refine ⟨h.nm _ (List.mem_of_getElem? hz), fun hm => ne_of_in hw (inN_rev.mpr hm) rfl, hw.2.2.1, hw.2.2.2.1, ?_⟩
  have h5 := hw.2.2.2.2
  cases he : z.2.el with
  | none =>
    rw [he] at h5
    refine .inl ⟨?_, rfl, h5.2⟩
    have h1 := congrArg List.length h5.1
    unfold revR at h1
    rw [List.length_reverse, List.length_map] at h1
    exact List.length_eq_zero_iff.mp h1
  | some e =>
    rw [he] at h5
    have hm := inN_rev.mp h5
    obtain ⟨x, hx, ex⟩ := List.mem_map.mp hm
    refine .inr ⟨(fun e => by rw [e] at hx; cases hx), e, rfl, hm, ?_⟩
    rw [← ex]
    exact h.nm _ (List.mem_of_mem_take hx)
def spNetInit (T : Tx K mg) : Sp := fun vs H Q _ => ∃ (F : Addr → Prop) (r ra tp dx : Addr) (p : Plan) (kn : RL), vs = [.ref r, .ref ra, .ref tp] ∧ RestAt T F H ra p ∧ H r = some (.ins T.C_Net dx []) ∧ H tp = some (.tup (kn.map fun z => .ref z.1)) ∧ RowsT H kn ∧ RowsOk kn ∧
  ∀ H', (∀ a o, a ≠ r → H a = some o → H' a = some o) → NetAt T F H' r p kn → Q .non H'
theorem ok_Net_init (T : Tx K mg) : FnSK P w K mg base 3 T.a_Net_init "rest" (spNetInit T) := by
  refine fun_okSK T.F_Net_init sc_Net_init T.bs_Net_init (fun cdv A outer s H vs Q E hr h => ?_)
  · obtain ⟨F, r, ra, tp, dx, p, kn, rfl, hra, hr0, htp, hrt, ok, k⟩ := h
    have nd := sc_Net_init.nd
    obtain ⟨C, dx2, ns, vs2, tx2, hC, hn, _, he⟩ := hra.four
    refine ⟨_, (pss_cons (ps_if (pt_not (pt_val (kcB b_isinstance (by decide) (by decide) (kc_isi K) g_Net_init_isinstance T.n_isinstance (pa_cons (kv (i := 1) v_Net_init_rest) (pa_cons (kcls g_Net_init_Rest T.m_Rest) pa_nil))))) (pss_one ps_never) pss_nil)
      (pss_cons (ps_if (pt_cmpR op_eq (kcB b_len (by decide) (by decide) (kc_len K) g_Net_init_len T.n_len (pa_cons (kv (i := 2) v_Net_init_rows) pa_nil)) pe_int (nomark _)) (pss_one ps_never) pss_nil)
      (pss_cons (ps_if (pt_cmpR op_gt (kcB b_len (by decide) (by decide) (kc_len K) g_Net_init_len T.n_len (pa_cons (kv (i := 2) v_Net_init_rows) pa_nil)) (pe_glob g_Net_init_MOST_PLACES T.m_MOST_PLACES T.r_MOST_PLACES) (nomark _)) (pss_one ps_never) pss_nil)
      (pss_cons (ks_setL (i := 3) nd l_Net_init_known pe_dnewK)
      (pss_cons (ps_for PassesOwn.never rfl (pi_enumT K g_Net_init_enumerate T.n_enumerate (pa_cons (kv (i := 2) v_Net_init_rows) pa_nil)) (kpg_tup K 2 rfl (pgs_cons (kgL (i := 4) nd l_Net_init_at) (pgs_cons (kgL (i := 5) nd l_Net_init_row) pgs_nil))) (pss_cons (ps_if (pt_not (pt_val (pe_call (ok_isrow T) (hr.mono (by first | decide | omega)) g_Net_init_is_row T.m_isrow T.k_isrow T.b_isrow .nil pass0 (pa_cons (kv (i := 5) v_Net_init_row) (pa_cons (kv (i := 3) v_Net_init_known) pa_nil))))) (pss_one ps_never) pss_nil)
      (pss_one (ps_asg (kv (i := 5) v_Net_init_row) (pg_sub (kv (i := 3) v_Net_init_known) (pe_ix (kix K) (kv (i := 5) v_Net_init_row) pe_int (fun _ _ => rfl)) (set_dict (hu_of hr)))))))
      (pss_cons (kps_fld K (kv (i := 0) v_Net_init_self) (kv (i := 1) v_Net_init_rest))
      (pss_cons (kps_fld K (kv (i := 0) v_Net_init_self) (kv (i := 3) v_Net_init_known))
      (pss_cons (kps_fld K (kv (i := 0) v_Net_init_self) (pe_call (ok_alldists T) (hr.mono (by first | decide | omega)) g_Net_init_all_dists T.m_alldists T.k_alldists T.b_alldists .nil pass0 (pa_cons (kv (i := 3) v_Net_init_known) pa_nil)))
      (pss_one (kps_fld K (kv (i := 0) v_Net_init_self) (pe_call (ok_allkappas T) (hr.mono (by first | decide | omega)) g_Net_init_all_kappas T.m_allkappas T.k_allkappas T.b_allkappas .nil pass0 (pa_cons (kv (i := 3) v_Net_init_known) (pa_cons (kpe_fld K (kv (i := 0) v_Net_init_self)) pa_nil))))))))))))), ?_⟩
    walk_at "ss"
    refine k_isiO (ty_own hC.ty he) hC.kt ?_
    walk_at "ss"
    have hl := ok.len
    refine k_df (by rw [List.length_map]; omega) ?_
    walk_at "ss"
    refine k_df (by rw [List.length_map]; omega) ?_
    walk_at "ss"
    refine k_dnew fun dk ndk => ?_
    have s1 := same_new (o := .dK []) ndk
    have hdk1 : upd H dk (.dK []) dk = some (.dK (kdR (tabR (kn.take 0)))) := upd_same
    have nrdk : dk ≠ r := fun e => by rw [e, hr0] at ndk; cases ndk
    generalize upd H dk (.dK []) = H1 at s1 hdk1
    walk_at "ss"
    refine k_iEnumT ?_
    walk_at "ss"
    refine ⟨tp, _, rfl, SqT.of (s1 _ _ htp), ?_⟩
    refine k_forIt (walk_enumT (xs := kn.map fun z => V.ref z.1)) (fun i σ H' => ∃ (v4 v5 : Option V), σ = [some (.ref r), some (.ref ra), some (.ref tp), some (.ref dk), v4, v5] ∧ Same H H' ∧ H' dk = some (.dK (kdR (tabR (kn.take i))))) ⟨none, none, rfl, s1, hdk1⟩ ?_ ?_ ?_
    · rintro i σ H' _ ⟨v4, v5, rfl, sm, _⟩
      exact SqT.of (sm _ _ htp)
    · rintro i x σ H2 H3 hi ⟨v4, v5, rfl, sm, hdk2⟩ ⟨tt, x1, x2, rfl, ntt, rfl, hx, hy⟩
      cases hx
      obtain ⟨z, hz, rfl⟩ : ∃ z, kn[i]? = some z ∧ x2 = .ref z.1 := by
        dsimp only at hy
        rw [List.getElem?_map] at hy
        cases hh : kn[i]? with
        | none => rw [hh] at hy; cases hy
        | some z => rw [hh] at hy; cases hy; exact ⟨z, rfl, rfl⟩
      have s2 := same_new (o := .tup [.int (i : Nat), .ref z.1]) ntt
      have htt : upd H2 tt (.tup [.int (i : Nat), .ref z.1]) tt = some (.tup [.int (i : Nat), .ref z.1]) := upd_same
      generalize upd H2 tt (.tup [.int (i : Nat), .ref z.1]) = H3 at s2 htt
      have sm3 := sm.trans s2
      have hdk3 := s2 _ _ hdk2
      have hrow := sm3 _ _ (hrt _ (List.mem_of_getElem? hz))
      have hro := ok.at hz
      walk_at "ss"
      refine ⟨z.1, dk, z.2, kn.take i, rfl, hrow, hdk3, hro, fun H4 s4 => ?_⟩
      have sm4 := sm3.trans s4
      have hdk4 := s4 _ _ hdk3
      have hrow4 := s4 _ _ hrow
      walk_at "ss"
      refine k_setD (DPut.k (k := Sum.inr z.2.n) hdk4 (small_lt (by unfold kdR; rw [List.length_map, List.length_map, List.length_take]; omega))) ?_
      rw [put_kdR (by rw [tabR_keys]; exact hro.new)]
      refine ⟨_, _, rfl, same_put sm4 ndk, ?_⟩
      rw [upd_same, List.take_add_one, hz]
      simp [tabR]
    · rintro σ H2 ⟨v4, v5, rfl, sm, hdk2⟩
      rw [List.length_map, List.take_length] at hdk2
      walk_at "ss"
      refine k_putAt (ns := []) (vs := []) (sm _ _ hr0) T.cl_Net T.no_Net_rest rfl (by decide +kernel) (by decide) ?_
      walk_at "ss"
      refine k_putTop T.cl_Net T.no_Net_known rfl (by decide +kernel) (by decide) ?_
      walk_at "ss"
      have f3 : ∀ a o, a ≠ r → H2 a = some o → upd H2 r (.ins T.C_Net dx (FL ["rest", "_known"] [.ref ra, .ref dk])) a = some o := fun a o h1 h => by rw [upd_ne h1]; exact h
      have hr3 : upd H2 r (.ins T.C_Net dx (FL ["rest", "_known"] [.ref ra, .ref dk])) r = _ := upd_same
      show spAllD _ (upd H2 r (.ins T.C_Net dx (FL ["rest", "_known"] [.ref ra, .ref dk]))) _ _
      generalize upd H2 r (.ins T.C_Net dx (FL ["rest", "_known"] [.ref ra, .ref dk])) = H3 at f3 hr3
      have f03 : ∀ a o, a ≠ r → H a = some o → H3 a = some o := fun a o h1 h => f3 a o h1 (sm _ _ h)
      have hdk3 := f3 _ _ nrdk hdk2
      have hrt3 : RowsT H3 kn := hrt.up fun a xs h => f03 a _ (ne_of h hr0 (by intro z; cases z)) h
      refine ⟨dk, kn, rfl, hdk3, hrt3, ok.wf, by omega, fun D L H4 s4 nD hL hD hT => ?_⟩
      have nDr : D ≠ r := fun e => by rw [e, hr3] at nD; cases nD
      have nDk : D ≠ dk := fun e => by rw [e, hdk3] at nD; cases nD
      walk_at "ss"
      refine k_putAt (ns := ["rest", "_known"]) (vs := [.ref ra, .ref dk]) (s4 _ _ hr3) T.cl_Net T.no_Net_dists rfl (by decide +kernel) (by decide) ?_
      walk_at "ss"
      have f5 : ∀ a o, a ≠ r → H4 a = some o → upd H4 r (.ins T.C_Net dx (FL ["rest", "_known", "_dists"] [.ref ra, .ref dk, .ref D])) a = some o := fun a o h1 h => by rw [upd_ne h1]; exact h
      have hr5 : upd H4 r (.ins T.C_Net dx (FL ["rest", "_known", "_dists"] [.ref ra, .ref dk, .ref D])) r = _ := upd_same
      show rFld _ _ _ (upd H4 r (.ins T.C_Net dx (FL ["rest", "_known", "_dists"] [.ref ra, .ref dk, .ref D]))) _
      generalize upd H4 r (.ins T.C_Net dx (FL ["rest", "_known", "_dists"] [.ref ra, .ref dk, .ref D])) = H5 at f5 hr5
      refine k_fldAt hr5 T.cl_Net T.no_Net_dists (i := 2) (by decide +kernel) rfl ?_
      walk_at "ss"
      have f05 : ∀ a o, a ≠ r → H a = some o → H5 a = some o := fun a o h1 h => f5 a o h1 (s4 _ _ (f03 a o h1 h))
      have hdk5 := f5 _ _ nrdk (s4 _ _ hdk3)
      have hrt5 : RowsT H5 kn := hrt.up fun a xs h => f05 a _ (ne_of h hr0 (by intro z; cases z)) h
      have hne : ∀ z ∈ L, z.2 ≠ r := fun z hz e => by
        obtain ⟨t, ht, _⟩ := hT z hz
        rw [e, s4 _ _ hr3] at ht
        cases ht
      have hT5 : DTab H5 L (far (revR kn)) (kn.map (·.2.n)) := fun z hz => by
        obtain ⟨t, h1, h2⟩ := hT z hz
        exact ⟨t, f5 _ _ (hne z hz) h1, h2⟩
      refine ⟨dk, D, kn, L, rfl, hdk5, hrt5, ok.wf, by omega, nDk, hL, f5 _ _ nDr hD, hT5, fun z hz e => ?_, fun B M H6 s6 nB hM hB hK => ?_⟩
      · obtain ⟨t, ht, _⟩ := hT5 z hz
        rw [e, hdk5] at ht
        exact kd_kdR hl.1 (HO.dK.inj (Option.some.inj ht)).symm
      · walk_at "ss"
        refine k_putAt (ns := ["rest", "_known", "_dists"]) (vs := [.ref ra, .ref dk, .ref D]) (s6 _ _ hr5) T.cl_Net T.no_Net_kappas rfl (by decide +kernel) (by decide) ?_
        have f7 : ∀ a o, a ≠ r → H6 a = some o → upd H6 r (.ins T.C_Net dx (FL nNet [.ref ra, .ref dk, .ref D, .ref B])) a = some o := fun a o h1 h => by rw [upd_ne h1]; exact h
        have hr7 : upd H6 r (.ins T.C_Net dx (FL nNet [.ref ra, .ref dk, .ref D, .ref B])) r = _ := upd_same
        show Q _ (upd H6 r (.ins T.C_Net dx (FL nNet [.ref ra, .ref dk, .ref D, .ref B])))
        generalize upd H6 r (.ins T.C_Net dx (FL nNet [.ref ra, .ref dk, .ref D, .ref B])) = H7 at f7 hr7
        have f07 : ∀ a o, a ≠ r → H a = some o → H7 a = some o := fun a o h1 h => f7 a o h1 (s6 _ _ (f05 a o h1 h))
        refine k H7 f07 ⟨⟨dx, ra, dk, D, B, M, hr7, ?_, f7 _ _ nrdk (s6 _ _ hdk5), hrt.up fun a xs h => f07 a _ (ne_of h hr0 (by intro z; cases z)) h, hM, f7 _ _ (fun e => by rw [e, hr5] at nB; cases nB) hB, fun z hz => ?_⟩⟩
        · exact hra.fr f07 hr0
        · obtain ⟨L2, h1, h2, h3⟩ := hK z hz
          refine ⟨L2, f7 _ _ (ne_of h1 (s6 _ _ hr5) (by intro z; cases z)) h1, h2, fun q hq => ?_⟩
          obtain ⟨k1, s2, h4, h5⟩ := h3 q hq
          exact ⟨k1, s2, f7 _ _ (ne_of h4 (s6 _ _ hr5) (by intro z; cases z)) h4, h5⟩
end

section
variable {w : World} {K : PySem.W.Frag} {mg : Str → Option Value} {base : Heap}
theorem RowsOk.nodup {kn : RL} (ok : RowsOk kn) : (kn.map (·.2.n)).Nodup := nodup_rev ok.wf
theorem row_get {kn : RL} (ok : RowsOk kn) {z : Addr × Rw} (hz : z ∈ kn) : getA (tabR kn) z.2.n = some z.1 := getA_uniq (by rw [tabR_keys]; exact ok.nodup) (List.mem_map.mpr ⟨z, hz, rfl⟩)
def spNetRow (T : Tx K mg) : Sp := fun vs H Q _ => ∃ (F : Addr → Prop) (r : Addr) (p : Plan) (kn : RL) (z : Addr × Rw), vs = [.ref r, .str z.2.n] ∧ NetAt T F H r p kn ∧ RowsOk kn ∧ z ∈ kn ∧ Q (.ref z.1) H
theorem ok_Net_row (T : Tx K mg) : FnOk P w K mg base CX0 2 T.a_Net_row T.fd_Net_row P_Net_row (spNetRow T) := by
  refine T.F_Net_row.ok sc_Net_row (fun vs H Q E h => ?_) (fun cdv A outer s H vs Q E hr h => ?_)
  · obtain ⟨F, r, p, kn, z, rfl, _⟩ := h
    rfl
  · obtain ⟨F, r, p, kn, z, rfl, ⟨⟨dx, ra, dk, D, B, M, h1, h2, h3, h4, h5, h6, h7⟩⟩, ok, hz, k⟩ := h
    have nd := sc_Net_row.nd
    have hg := getR h3 (row_get ok hz)
    refine ⟨_, (pss_cons (ps_if (PW.pt (pw_or (pt_not (pt_val (pe_call (ok_is_name T) (hr.mono (by first | decide | omega)) g_Net_row_is_name T.m_is_name T.k_is_name T.b_is_name .nil pass0 (pa_cons (kv (i := 1) v_Net_row_name) pa_nil)))) (pw_or1 (pt_cmp (pc_dnotin (hu_of hr) (kv (i := 1) v_Net_row_name) (kpe_fld K (kv (i := 0) v_Net_row_self))))))) (pss_one ps_never) pss_nil)
      (pss_one (ps_ret (pe_dget (hu_of hr) (kpe_fld K (kv (i := 0) v_Net_row_self)) (kv (i := 1) v_Net_row_name) (fun _ _ => rfl))))), ?_⟩
    walk_at "ss"
    refine ⟨z.2.n, rfl, ok.nm _ hz, ?_⟩
    walk_at "ss"
    refine k_dnotin ?_
    walk_at "ss"
    refine k_fldAt h1 T.cl_Net T.no_Net_known (i := 1) (by decide +kernel) rfl ?_
    refine k_ninY hg ?_
    walk_at "ss"
    refine k_dget ?_
    walk_at "ss"
    refine k_fldAt h1 T.cl_Net T.no_Net_known (i := 1) (by decide +kernel) rfl ?_
    walk_at "ss"
    exact ⟨dk, _, rfl, hg, k⟩
theorem net_meth {T : Tx K mg} {F : Addr → Prop} {H : Hp} {r : Addr} {p : Plan} {kn : RL} (h : NetAt T F H r p kn) : ∃ dx fs, H r = some (.ins T.C_Net dx fs) ∧ fs.lookup ("_row" : Str) = none ∧ fs.lookup ("error_of" : Str) = none ∧ fs.lookup ("kappa" : Str) = none := by
  obtain ⟨⟨dx, ra, dk, D, B, M, h1, _⟩⟩ := h
  exact ⟨dx, _, h1, by rfl, by rfl, by rfl⟩
def spErr (T : Tx K mg) : Sp := fun vs H Q _ => ∃ (F : Addr → Prop) (r : Addr) (p : Plan) (kn : RL) (z : Addr × Rw), vs = [.ref r, .str z.2.n] ∧ NetAt T F H r p kn ∧ RowsOk kn ∧ z ∈ kn ∧ Q (.int z.2.er) H
theorem ok_Net_error_of (T : Tx K mg) : FnOk P w K mg base CX0 3 T.a_Net_error_of T.fd_Net_error_of P_Net_error_of (spErr T) := by
  refine T.F_Net_error_of.ok sc_Net_error_of (fun vs H Q E h => ?_) (fun cdv A outer s H vs Q E hr h => ?_)
  · obtain ⟨F, r, p, kn, z, rfl, _⟩ := h
    rfl
  · obtain ⟨F, r, p, kn, z, rfl, hN, ok, hz, k⟩ := h
    have nd := sc_Net_error_of.nd
    obtain ⟨dx, fs, h1, l1, l2, l3⟩ := net_meth hN
    obtain ⟨⟨_, _, _, _, _, _, _, _, _, hrt, _⟩⟩ := id hN
    have hrow := hrt _ hz
    refine ⟨_, (pss_one (ps_ret (pe_ix (kix K) (kpe_methP (disp1 T.cl_Net T.me_Net_row (ok_Net_row T) T.b_Net_row) (hr.mono (by first | decide | omega)) pass0 (kv (i := 0) v_Net_error_of_self) (pa_cons (kv (i := 1) v_Net_error_of_name) pa_nil)) pe_int (fun _ _ => rfl)))), ?_⟩
    walk_at "ss"
    refine k_meth ?_
    walk_at "ss"
    refine ⟨r, _, dx, fs, _, rfl, h1, ⟨rfl, rfl⟩, l1, ?_⟩
    walk_at "ss"
    refine ⟨F, r, p, kn, z, rfl, hN, ok, hz, ?_⟩
    walk_at "ss"
    exact k
def spKap (T : Tx K mg) : Sp := fun vs H Q _ => ∃ (F : Addr → Prop) (r : Addr) (p : Plan) (kn : RL) (y z : Addr × Rw), vs = [.ref r, .str y.2.n, .str z.2.n] ∧ NetAt T F H r p kn ∧ RowsOk kn ∧ y ∈ kn ∧ z ∈ kn ∧ ∀ k, IsMin k ((up (revR kn) y.2.n).map fun s => base1 (revR kn) s z.2.n) → Q (.int k) H
theorem ok_Net_kappa (T : Tx K mg) : FnOk P w K mg base CX0 3 T.a_Net_kappa T.fd_Net_kappa P_Net_kappa (spKap T) := by
  refine T.F_Net_kappa.ok sc_Net_kappa (fun vs H Q E h => ?_) (fun cdv A outer s H vs Q E hr h => ?_)
  · obtain ⟨F, r, p, kn, y, z, rfl, _⟩ := h
    rfl
  · obtain ⟨F, r, p, kn, y, z, rfl, hN, ok, hy, hz, k⟩ := h
    have nd := sc_Net_kappa.nd
    obtain ⟨dx, fs, h1, l1, l2, l3⟩ := net_meth hN
    obtain ⟨⟨dx2, ra, dk, D, B, M, e1, e2, e3, e4, e5, e6, e7⟩⟩ := id hN
    obtain ⟨ay, hay, hayM⟩ := getA_of (l := M) (n := y.2.n) (by rw [e5]; exact List.mem_map.mpr ⟨_, hy, rfl⟩)
    obtain ⟨L2, hL, hLk, hLC⟩ := e7 _ hayM
    obtain ⟨az, haz, hazL⟩ := getA_of (l := L2) (n := z.2.n) (by rw [hLk]; exact List.mem_map.mpr ⟨_, hz, rfl⟩)
    obtain ⟨kk, ss, hcell, hmin⟩ := hLC _ hazL
    dsimp only at hcell hL
    refine ⟨_, (pss_cons (ps_expr (kpe_methP (disp1 T.cl_Net T.me_Net_row (ok_Net_row T) T.b_Net_row) (hr.mono (by first | decide | omega)) pass0 (kv (i := 0) v_Net_kappa_self) (pa_cons (kv (i := 1) v_Net_kappa_name) pa_nil)))
      (pss_cons (ps_expr (kpe_methP (disp1 T.cl_Net T.me_Net_row (ok_Net_row T) T.b_Net_row) (hr.mono (by first | decide | omega)) pass0 (kv (i := 0) v_Net_kappa_self) (pa_cons (kv (i := 2) v_Net_kappa_other) pa_nil)))
      (pss_one (ps_ret (pe_ix (kix K) (pe_dget (hu_of hr) (pe_dget (hu_of hr) (kpe_fld K (kv (i := 0) v_Net_kappa_self)) (kv (i := 1) v_Net_kappa_name) (fun _ _ => rfl)) (kv (i := 2) v_Net_kappa_other) (fun _ _ => rfl)) pe_int (fun _ _ => rfl)))))), ?_⟩
    walk_at "ss"
    refine k_meth ?_
    walk_at "ss"
    refine ⟨r, _, dx, fs, _, rfl, h1, ⟨rfl, rfl⟩, l1, ?_⟩
    walk_at "ss"
    refine ⟨F, r, p, kn, y, rfl, hN, ok, hy, ?_⟩
    walk_at "ss"
    refine k_meth ?_
    walk_at "ss"
    refine ⟨r, _, dx, fs, _, rfl, h1, ⟨rfl, rfl⟩, l1, ?_⟩
    walk_at "ss"
    refine ⟨F, r, p, kn, z, rfl, hN, ok, hz, ?_⟩
    walk_at "ss"
    refine k_dget ?_
    walk_at "ss"
    refine k_dget ?_
    walk_at "ss"
    refine k_fldAt e1 T.cl_Net T.no_Net_kappas (i := 3) (by decide +kernel) rfl ?_
    walk_at "ss"
    refine ⟨B, .ref ay, rfl, getR e6 hay, ?_⟩
    walk_at "ss"
    refine ⟨ay, .ref az, rfl, getR hL haz, ?_⟩
    walk_at "ss"
    exact k kk hmin
def spLeads (T : Tx K mg) : Sp := fun vs H Q _ => ∃ (F : Addr → Prop) (r da db : Addr) (p : Plan) (kn : RL) (y z : Addr × Rw) (ta tb : Int), vs = [.ref r, .ref da, .ref db] ∧ NetAt T F H r p kn ∧ RowsOk kn ∧ p.Ok ∧ y ∈ kn ∧ z ∈ kn ∧ H da = some (.tup [.str y.2.n, .int ta]) ∧ H db = some (.tup [.str z.2.n, .int tb]) ∧
  ∀ k, IsMin k ((up (revR kn) y.2.n).map fun s => base1 (revR kn) s z.2.n) → ∀ H', Same H H' → Q (.bl (decide (p.at (ta + y.2.er) + k < tb - z.2.er))) H'
theorem ok_leads (T : Tx K mg) : FnOk P w K mg base CX0 8 T.a_leads T.fd_leads P_leads (spLeads T) := by
  refine T.F_leads.ok sc_leads (fun vs H Q E h => ?_) (fun cdv A outer s H vs Q E hr h => ?_)
  · obtain ⟨F, r, da, db, p, kn, y, z, ta, tb, rfl, _⟩ := h
    rfl
  · obtain ⟨F, r, da, db, p, kn, y, z, ta, tb, rfl, hN, ok, op, hy, hz, hda, hdb, k⟩ := h
    have nd := sc_leads.nd
    obtain ⟨dx, fs, h1, l1, l2, l3⟩ := net_meth hN
    obtain ⟨⟨dx2, ra, dk, D, B, M, e1, e2, e3, e4, e5, e6, e7⟩⟩ := id hN
    refine ⟨_, (pss_cons (ps_asg (kv (i := 1) v_leads_demand) (kpg_tup K 2 rfl (pgs_cons (kgL (i := 3) nd l_leads_place) (pgs_cons (kgL (i := 4) nd l_leads_reading) pgs_nil))))
      (pss_cons (ps_asg (kv (i := 2) v_leads_other) (kpg_tup K 2 rfl (pgs_cons (kgL (i := 5) nd l_leads_home) (pgs_cons (kgL (i := 6) nd l_leads_due) pgs_nil))))
      (pss_cons (ks_setL (i := 7) nd l_leads_rest (kpe_fld K (kv (i := 0) v_leads_net)))
      (pss_cons (ks_setL (i := 8) nd l_leads_rested (kpe_callP (disp_call T) (hr.mono (by decide)) pass0 (kv (i := 7) v_leads_rest) (pa_cons (pe_op kop_add (kv (i := 4) v_leads_reading) (kpe_methP (disp1 T.cl_Net T.me_Net_error_of (ok_Net_error_of T) T.b_Net_error_of) (hr.mono (by first | decide | omega)) pass0 (kv (i := 0) v_leads_net) (pa_cons (kv (i := 3) v_leads_place) pa_nil))) pa_nil)))
      (pss_one (ps_ret (pe_cmpR op_gt (pe_op op_sub (kv (i := 6) v_leads_due) (kpe_methP (disp1 T.cl_Net T.me_Net_error_of (ok_Net_error_of T) T.b_Net_error_of) (hr.mono (by first | decide | omega)) pass0 (kv (i := 0) v_leads_net) (pa_cons (kv (i := 5) v_leads_home) pa_nil))) (pe_op kop_add (kv (i := 8) v_leads_rested) (kpe_methP (disp1 T.cl_Net T.me_Net_kappa (ok_Net_kappa T) T.b_Net_kappa) (hr.mono (by first | decide | omega)) pass0 (kv (i := 0) v_leads_net) (pa_cons (kv (i := 3) v_leads_place) (pa_cons (kv (i := 5) v_leads_home) pa_nil)))) (nomark _)))))))), ?_⟩
    walk_at "ss"
    refine k_fldAt e1 T.cl_Net T.no_Net_rest (i := 0) (by decide +kernel) rfl ?_
    walk_at "ss"
    refine k_thing ?_
    walk_at "ss"
    obtain ⟨C, hC, hcall⟩ := rest_call e2 op
    refine ⟨ra, C, _, rfl, hC, ?_⟩
    walk_at "ss"
    refine k_meth ?_
    walk_at "ss"
    refine ⟨r, _, dx, fs, _, rfl, h1, ⟨rfl, rfl⟩, l2, ?_⟩
    walk_at "ss"
    refine ⟨F, r, p, kn, y, rfl, hN, ok, hy, ?_⟩
    walk_at "ss"
    refine hcall (ta + y.2.er) _ _ _ (Same.refl _) ?_
    walk_at "ss"
    refine k_meth ?_
    walk_at "ss"
    refine ⟨r, _, dx, fs, _, rfl, h1, ⟨rfl, rfl⟩, l2, ?_⟩
    walk_at "ss"
    refine ⟨F, r, p, kn, z, rfl, hN, ok, hz, ?_⟩
    walk_at "ss"
    refine k_meth ?_
    walk_at "ss"
    refine ⟨r, _, dx, fs, _, rfl, h1, ⟨rfl, rfl⟩, l3, ?_⟩
    walk_at "ss"
    refine ⟨F, r, p, kn, y, z, rfl, hN, ok, hy, hz, fun kk hk => ?_⟩
    walk_at "ss"
    exact k kk hk _ (Same.refl _)
end

section
variable {w : World} {K : PySem.W.Frag} {mg : Str → Option Value} {base : Heap}
structure RowsL (H : Hp) (L : Addr) (kn : RL) : Prop where
  hl : H L = some (.lst (kn.map fun z => .ref z.1))
  rt : RowsT H kn
theorem RowsL.up {H H' : Hp} {L : Addr} {kn : RL} (h : RowsL H L kn) (e : Same H H') : RowsL H' L kn := ⟨e _ _ h.hl, h.rt.up fun a xs => e a _⟩
theorem map_ref_at {kn : RL} {i : Nat} {x : V} (h : (kn.map fun z => V.ref z.1)[i]? = some x) : ∃ z, kn[i]? = some z ∧ x = .ref z.1 := by
  rw [List.getElem?_map] at h
  cases hh : kn[i]? with
  | none => rw [hh] at h; cases h
  | some z => rw [hh] at h; cases h; exact ⟨z, rfl, rfl⟩
theorem map_str_at {l : List Str} {i : Nat} {x : V} (h : (l.map V.str)[i]? = some x) : ∃ z, l[i]? = some z ∧ x = .str z := by
  rw [List.getElem?_map] at h
  cases hh : l[i]? with
  | none => rw [hh] at h; cases h
  | some z => rw [hh] at h; cases h; exact ⟨z, rfl, rfl⟩
theorem filter_one {kn : RL} (hn : (kn.map (·.2.n)).Nodup) {z : Addr × Rw} (hz : z ∈ kn) : kn.filter (fun y => decide (y.2.n = z.2.n)) = [z] := by
  induction kn with
  | nil => cases hz
  | cons y l ih =>
    rw [List.map_cons, List.nodup_cons] at hn
    rw [List.filter_cons]
    rcases List.mem_cons.mp hz with rfl | h
    · rw [if_pos (by rw [decide_eq_true_iff])]
      rw [List.filter_eq_nil_iff.mpr fun x hx => by simpa using fun e : x.2.n = z.2.n => hn.1 (List.mem_map.mpr ⟨x, hx, e⟩)]
    · rw [if_neg (by simpa using fun e : y.2.n = z.2.n => hn.1 (List.mem_map.mpr ⟨z, h, e.symm⟩))]
      exact ih hn.2 h
theorem take_filter {α : Type} {p : α → Bool} {l : List α} {i : Nat} {x : α} (h : l[i]? = some x) : (l.take (i + 1)).filter p = if p x = true then (l.take i).filter p ++ [x] else (l.take i).filter p := by
  rw [List.take_add_one, h, List.filter_append]
  show _ ++ List.filter p [x] = _
  rw [List.filter_cons]
  split
  · rfl
  · rw [List.filter_nil, List.append_nil]
def spRowOf : Sp := fun vs H Q _ => ∃ (L : Addr) (kn : RL) (z : Addr × Rw), vs = [.ref L, .str z.2.n] ∧ RowsL H L kn ∧ RowsOk kn ∧ z ∈ kn ∧ ∀ H', Same H H' → Q (.ref z.1) H'
theorem ok_row (T : Tx K mg) : FnOk P w K mg base CX0 1 T.a_row T.fd_row P_row spRowOf := by
  refine T.F_row.ok sc_row (fun vs H Q E h => ?_) (fun cdv A outer s H vs Q E hr h => ?_)
  · obtain ⟨L, kn, z, rfl, _⟩ := h
    rfl
  · obtain ⟨L, kn, z, rfl, hL, ok, hz, k⟩ := h
    have nd := sc_row.nd
    refine ⟨_, (pss_one (ps_ret (pe_ix (kix K) (pe_lc (own := [("_law_row_here", 2)]) rfl nd (kpi_list K (kv (i := 0) v_row_law_rows_here)) ok_cs_row_1 (fun _ _ _ _ _ => (kgL (i := 2) nd l_row_1_law_row_here)) (fun _ _ _ _ _ => (pts_one (pt_cmpR op_eq (pe_ix (kix K) (kv (i := 2) v_row_1_law_row_here) pe_int (fun _ _ => rfl)) (kv (i := 1) v_row_1_law_spot) (nomark _)))) (fun _ _ _ _ _ => (kv (i := 2) v_row_1_law_row_here))) pe_int (fun _ _ => rfl)))), ?_⟩
    walk_at "ss"
    refine k_iL (SqL.of hL.hl) ?_
    intro D nD
    refine k_lcList (kn.map fun z => V.ref z.1) (fun i H' => Same H H' ∧ H' D = some (.lst (((kn.take i).filter fun y => decide (y.2.n = z.2.n)).map fun z => V.ref z.1))) ⟨same_new nD, upd_same⟩ ?_ ?_ ?_
    · rintro i H' _ ⟨sm, _⟩
      exact SqL.of (sm _ _ hL.hl)
    · rintro i x H' hx ⟨sm, hD⟩
      obtain ⟨y, hy, rfl⟩ := map_ref_at hx
      have hil := (List.getElem?_eq_some_iff.mp hy).1
      have hrow := sm _ _ (hL.rt _ (List.mem_of_getElem? hy))
      have hl := ok.len
      have hfl : ((kn.take i).filter fun y => decide (y.2.n = z.2.n)).length ≤ i := Nat.le_trans (List.length_filter_le _ _) (by rw [List.length_take]; omega)
      walk_at "ss"
      refine ⟨rfl, ?_⟩
      walk_at "ss"
      refine k_eqS ?_
      walk_at "ss"
      refine k_d (fun h => ?_) (fun h => ?_)
      · walk_at "ss"
        refine ⟨_, hD, small_lt (by rw [List.length_map]; omega), same_put sm nD, ?_⟩
        rw [upd_same, take_filter hy, if_pos (by rw [decide_eq_true h]), List.map_append]
        rfl
      · walk_at "ss"
        refine ⟨sm, ?_⟩
        rw [take_filter hy, if_neg (by rw [decide_eq_false h]; decide)]
        exact hD
    · rintro H' ⟨sm, hD⟩
      rw [List.length_map, List.take_length, filter_one ok.nodup hz] at hD
      walk_at "ss"
      exact k H' sm
theorem k_iRev {ta : TA} {σ : L2.St} {H : Hp} {R : It → Hp → Prop} (h : ta σ H fun vs H1 => ∃ (a : Addr) (xs : List V), vs = [.ref a] ∧ SqL K H1 a xs ∧ R (Itv K a xs.length) H1) : iRev K ta σ H R := h
theorem at_last {pre : List Str} {cur : Str} : atI ((pre ++ [cur]).map V.str) (-1) = some (.str cur) := by
  unfold atI ixN
  rw [List.length_map, List.length_append]
  simp
  rw [if_pos (by omega), show (-1 + ((pre.length : Int) + 1)).toNat = pre.length by omega]
  show (List.map V.str pre ++ [V.str cur])[pre.length]? = _
  rw [List.getElem?_append_right (by rw [List.length_map]; exact Nat.le_refl _), List.length_map, Nat.sub_self]
  rfl
def spLine : Sp := fun vs H Q _ => ∃ (L : Addr) (kn : RL) (z : Addr × Rw), vs = [.ref L, .str z.2.n] ∧ RowsL H L kn ∧ RowsOk kn ∧ z ∈ kn ∧ ∀ l H', Same H H' → H l = none → H' l = some (.lst ((up (revR kn) z.2.n).map V.str)) → Q (.ref l) H'
theorem ok_line (T : Tx K mg) : FnOk P w K mg base CX0 1 T.a_line T.fd_line P_line spLine := by
  refine T.F_line.ok sc_line (fun vs H Q E h => ?_) (fun cdv A outer s H vs Q E hr h => ?_)
  · obtain ⟨L, kn, z, rfl, _⟩ := h
    rfl
  · obtain ⟨L, kn, z, rfl, hL, ok, hz, k⟩ := h
    have nd := sc_line.nd
    have hl := ok.len
    refine ⟨_, (pss_cons (ks_setL (i := 2) nd l_line_law_line_here (pe_lst (pa_cons (kv (i := 1) v_line_law_spot) pa_nil)))
      (pss_cons (ps_for PassesOwn.never rfl (pi_reversed g_line_reversed T.n_reversed (pa_cons (kv (i := 0) v_line_law_rows_here) pa_nil)) (kgL (i := 3) nd l_line_law_row_here) (pss_one (ps_if (PW.pt (pw_and (pt_cmpR op_eq (pe_ix (kix K) (kv (i := 3) v_line_law_row_here) pe_int (fun _ _ => rfl)) (pe_ix (kix K) (kv (i := 2) v_line_law_line_here) (pe_un un_neg pe_int) (fun _ _ => rfl)) (nomark _)) (pw_and1 (pt_cmpR op_notN (pe_ix (kix K) (kv (i := 3) v_line_law_row_here) pe_int (fun _ _ => rfl)) pe_non (nomark _))))) (pss_one (ps_expr (pe_bm PySem.F.plainAttrs_list PySem.F.slot_list_append PySem.F.type_list_append mt_append (kv (i := 2) v_line_law_line_here) (pa_cons (pe_ix (kix K) (kv (i := 3) v_line_law_row_here) pe_int (fun _ _ => rfl)) pa_nil)))) pss_nil)))
      (pss_one (ps_ret (kv (i := 2) v_line_law_line_here))))), ?_⟩
    walk_at "ss"
    intro l nl
    have s1 := same_new (o := .lst [V.str z.2.n]) nl
    have hl1 : upd H l (.lst [V.str z.2.n]) l = some (.lst (([] ++ [z.2.n]).map V.str)) := upd_same
    generalize upd H l (.lst [V.str z.2.n]) = H1 at s1 hl1
    walk_at "ss"
    refine k_iRev ?_
    walk_at "ss"
    refine ⟨L, _, rfl, SqL.of (s1 _ _ hL.hl), ?_⟩
    refine k_forIt (walk_rev (xs := kn.map fun z => V.ref z.1)) (fun i σ H' => ∃ (v3 : Option V) (pre : List Str) (cur : Str), σ = [some (.ref L), some (.str z.2.n), some (.ref l), v3] ∧ Same H H' ∧ H' l = some (.lst ((pre ++ [cur]).map V.str)) ∧ pre.length ≤ i ∧
      up (revR kn) z.2.n = pre ++ up (revR (kn.take (kn.length - i))) cur ∧ (inN (revR (kn.take (kn.length - i))) cur ∨ revR (kn.take (kn.length - i)) = [])) ⟨none, [], z.2.n, rfl, s1, hl1, Nat.le_refl _, ?_, .inl ?_⟩ ?_ ?_ ?_
    · rw [Nat.sub_zero, List.take_length]
      rfl
    · rw [Nat.sub_zero, List.take_length]
      exact inN_rev.mpr (List.mem_map.mpr ⟨z, hz, rfl⟩)
    · rintro i σ H' _ ⟨v3, pre, cur, rfl, sm, _⟩
      exact SqL.of (sm _ _ hL.hl)
    · rintro i x σ H2 H3 hi ⟨v3, pre, cur, rfl, sm, hl2, hp, hup, hc⟩ ⟨rfl, hx⟩
      rw [List.length_map] at hx hi
      obtain ⟨y, hy, rfl⟩ := map_ref_at hx
      obtain ⟨m, hm⟩ : ∃ m, m = kn.length - 1 - i := ⟨_, rfl⟩
      rw [← hm] at hy
      have e1 : kn.length - i = m + 1 := by omega
      have e2 : kn.length - (i + 1) = m := by omega
      have hrow := sm _ _ (hL.rt _ (List.mem_of_getElem? hy))
      have hwy := wf_at ok.wf hy
      rw [e1, rev_take hy] at hup hc
      rw [e2]
      have hc : inN (y.2 :: revR (kn.take m)) cur := by
        rcases hc with h | h
        · exact h
        · cases h
      have hla := at_last (pre := pre) (cur := cur)
      walk_at "ss"
      refine k_eqS ?_
      walk_at "ss"
      rcases in_cases hwy hc with ⟨rfl, ⟨hel, hR⟩ | ⟨e, hel, hi2⟩⟩ | ⟨hi2, hne⟩
      · refine k_dt rfl ?_
        rw [hel] at hrow
        walk_at "ss"
        refine ⟨rfl, ?_⟩
        walk_at "ss"
        refine k_nt (show elV none = V.non from rfl) ?_
        walk_at "ss"
        refine ⟨_, pre, y.2.n, rfl, sm, hl2, by omega, ?_, .inr hR⟩
        rw [hup, up_top hel, hR]
        rfl
      · refine k_dt rfl ?_
        rw [hel] at hrow
        walk_at "ss"
        refine ⟨rfl, ?_⟩
        walk_at "ss"
        refine k_nf (show ¬ elV (some e) = V.non from fun h => by cases h) ?_
        walk_at "ss"
        refine k_bm ?_
        walk_at "ss"
        refine ⟨.inl ⟨rfl, _, SqL.of hl2⟩, ?_⟩
        walk_at "ss"
        refine k_app hl2 (by rw [List.length_map, List.length_append]; simp; omega) ?_
        refine ⟨_, pre ++ [y.2.n], e, rfl, same_put sm nl, ?_, by simp; omega, ?_, .inl hi2⟩
        · rw [upd_same, List.map_append (l₁ := pre ++ [y.2.n])]
          rfl
        · rw [hup, up_first hel, List.append_assoc]
          rfl
      · refine k_df hne ?_
        walk_at "ss"
        refine ⟨_, pre, cur, rfl, sm, hl2, by omega, ?_, .inl hi2⟩
        rw [hup, up_other hne]
    · rintro σ H2 ⟨v3, pre, cur, rfl, sm, hl2, hp, hup, hc⟩
      rw [List.length_map, Nat.sub_self, List.take_zero] at hup
      walk_at "ss"
      refine k l H2 sm nl ?_
      rw [hup]
      exact hl2
end

section
variable {w : World} {K : PySem.W.Frag} {mg : Str → Option Value} {base : Heap}
theorem inV_str (x : Str) (l : List Str) : inV (.str x) (l.map V.str) = decide (x ∈ l) := by
  unfold inV
  rw [List.any_map]
  induction l with
  | nil => rfl
  | cons y l ih =>
    rw [List.any_cons, ih]
    show (eqV (.str y) (.str x) || _) = _
    have e : eqV (.str y) (.str x) = decide (y = x) := by rfl
    rw [e]
    by_cases h : y = x
    · subst h
      simp
    · rw [decide_eq_false h, Bool.false_or]
      simp [Ne.symm h]
theorem flat_str (l : List Str) : (l.map V.str).all flatV = true := by
  rw [List.all_map, List.all_eq_true]
  intro x _
  rfl
theorem del_at {kn : RL} (ok : RowsOk kn) {z : Addr × Rw} (hz : z ∈ kn) : delOf (revR kn) z.2.n = z.2.de := by
  have key : ∀ R : List Rw, WF R → ∀ r ∈ R, delOf R r.n = r.de := by
    intro R
    induction R with
    | nil => exact fun _ r h => by cases h
    | cons y R ih =>
      intro hw r hr
      unfold delOf
      rw [List.find?_cons]
      rcases List.mem_cons.mp hr with rfl | hr
      · rw [decide_eq_true rfl]
      · rw [decide_eq_false (fun e : y.n = r.n => hw.2.1 r hr e.symm)]
        exact ih hw.1 r hr
  exact key _ ok.wf _ (List.mem_reverse.mpr (List.mem_map.mpr ⟨z, hz, rfl⟩))
theorem err_of {kn : RL} (ok : RowsOk kn) {z : Addr × Rw} (hz : z ∈ kn) : errOf (revR kn) z.2.n = z.2.er := by
  obtain ⟨i, hi⟩ := List.mem_iff_getElem?.mp hz
  exact err_at ok.wf hi
theorem in_row {kn : RL} {x : Str} (h : inN (revR kn) x) : ∃ z ∈ kn, z.2.n = x := by
  obtain ⟨z, hz, e⟩ := List.mem_map.mp (inN_rev.mp h)
  exact ⟨z, hz, e⟩
theorem row_in {kn : RL} {z : Addr × Rw} (h : z ∈ kn) : inN (revR kn) z.2.n := inN_rev.mpr (List.mem_map.mpr ⟨z, h, rfl⟩)
theorem up_len : ∀ (R : List Rw) (x : Str), (up R x).length ≤ R.length + 1
  | [], x => Nat.le_refl _
  | r :: R, x => by
    show (if r.n = x then (match r.el with | none => [x] | some e => x :: up R e) else up R x).length ≤ _
    split
    · split
      · simp
      · rename_i e _
        have := up_len R e
        simp only [List.length_cons]
        omega
    · have := up_len R x
      simp only [List.length_cons]
      omega
def spFar : Sp := fun vs H Q _ => ∃ (L : Addr) (kn : RL) (y z : Addr × Rw), vs = [.ref L, .str y.2.n, .str z.2.n] ∧ RowsL H L kn ∧ RowsOk kn ∧ y ∈ kn ∧ z ∈ kn ∧ ∀ H', Same H H' → Q (.int (far (revR kn) y.2.n z.2.n)) H'
theorem ok_far (T : Tx K mg) : FnOk P w K mg base CX0 2 T.a_far T.fd_far P_far spFar := by
  refine T.F_far.ok sc_far (fun vs H Q E h => ?_) (fun cdv A outer s H vs Q E hr h => ?_)
  · obtain ⟨L, kn, y, z, rfl, _⟩ := h
    rfl
  · obtain ⟨L, kn, y, z, rfl, hL, ok, hy, hz, k⟩ := h
    have nd := sc_far.nd
    have hl := ok.len
    have lR : (revR kn).length ≤ 6 := by unfold revR; rw [List.length_reverse, List.length_map]; omega
    have hly := up_len (revR kn) y.2.n
    have hlz := up_len (revR kn) z.2.n
    refine ⟨_, (pss_cons (ks_setC (i := 3) nd c_far_law_first (pe_call (ok_line T) (hr.mono (by first | decide | omega)) g_far_law_line T.m_line T.k_line T.b_line .nil pass0 (pa_cons (kv (i := 0) v_far_law_rows_here) (pa_cons (kv (i := 1) v_far_law_one) pa_nil))))
      (pss_cons (ks_setC (i := 4) nd c_far_law_second (pe_call (ok_line T) (hr.mono (by first | decide | omega)) g_far_law_line T.m_line T.k_line T.b_line .nil pass0 (pa_cons (kv (i := 0) v_far_law_rows_here) (pa_cons (kv (i := 2) v_far_law_two) pa_nil))))
      (pss_cons (ks_setL (i := 5) nd l_far_law_edges (pe_op kop_add (pe_lc (own := [("_law_spot", 6)]) rfl nd (kpi_list K (kv (i := 3) v_far_law_first)) ok_cs_far_2 (fun _ _ _ _ _ => (kgL (i := 6) nd l_far_2_law_spot)) (fun _ _ _ _ _ => (pts_one (pt_cmpR (kop_nin K) (kv (i := 6) v_far_2_law_spot) (kv (i := 4) v_far_2_law_second) (by rfl)))) (fun _ _ _ _ _ => (kv (i := 6) v_far_2_law_spot))) (pe_lc (own := [("_law_spot", 6)]) rfl nd (kpi_list K (kv (i := 4) v_far_law_second)) ok_cs_far_3 (fun _ _ _ _ _ => (kgL (i := 6) nd l_far_3_law_spot)) (fun _ _ _ _ _ => (pts_one (pt_cmpR (kop_nin K) (kv (i := 6) v_far_3_law_spot) (kv (i := 3) v_far_3_law_first) (by rfl)))) (fun _ _ _ _ _ => (kv (i := 6) v_far_3_law_spot)))))
      (pss_one (ps_ret (kcB b_sum (by decide) (by decide) (kc_sum K rfl) g_far_sum T.n_sum (pa_cons (pe_lc (own := [("_law_spot", 6)]) rfl nd (kpi_list K (kv (i := 5) v_far_law_edges)) ok_cs_far_1 (fun _ _ _ _ _ => (kgL (i := 6) nd l_far_1_law_spot)) (fun _ _ _ _ _ => pts_nil) (fun _ _ _ _ _ => (pe_ix (kix K) (pe_call (ok_row T) (hr.mono (by first | decide | omega)) g_far_1_law_row T.m_row T.k_row T.b_row .nil pass0 (pa_cons (kv (i := 0) v_far_1_law_rows_here) (pa_cons (kv (i := 6) v_far_1_law_spot) pa_nil))) pe_int (fun _ _ => rfl)))) pa_nil))))))), ?_⟩
    walk_at "ss"
    refine ⟨L, kn, y, rfl, hL, ok, hy, fun f H1 s1 nf hf => ?_⟩
    have hL1 := hL.up s1
    walk_at "ss"
    refine ⟨L, kn, z, rfl, hL1, ok, hz, fun g H2 s2 ng hg => ?_⟩
    have hf := s2 _ _ hf
    have s12 := s1.trans s2
    have hyin := up_in ok.wf (row_in hy)
    have hzin := up_in ok.wf (row_in hz)
    obtain ⟨U, eU⟩ : ∃ U, U = up (revR kn) y.2.n := ⟨_, rfl⟩
    obtain ⟨W, eW⟩ : ∃ W, W = up (revR kn) z.2.n := ⟨_, rfl⟩
    rw [← eU] at hf hly hyin
    rw [← eW] at hg hlz hzin
    walk_at "ss"
    refine k_iL (SqL.of hf) ?_
    intro D nD
    refine k_lcList (U.map V.str) (fun i H' => Same H2 H' ∧ H' D = some (.lst (((U.take i).filter fun s => decide (s ∉ W)).map V.str))) ⟨same_new nD, upd_same⟩ ?_ ?_ ?_
    · rintro i H' _ ⟨sm, _⟩
      exact SqL.of (sm _ _ hf)
    · rintro i x H' hx ⟨sm, hD⟩
      obtain ⟨s, hs, rfl⟩ := map_str_at hx
      have hil := (List.getElem?_eq_some_iff.mp hs).1
      have hfl : ((U.take i).filter fun s => decide (s ∉ W)).length ≤ i := Nat.le_trans (List.length_filter_le _ _) (by rw [List.length_take]; omega)
      walk_at "ss"
      refine ⟨rfl, ?_⟩
      walk_at "ss"
      refine ⟨g, _, rfl, .inl (SqL.of (sm _ _ hg)), rfl, flat_str _, ?_⟩
      rw [inV_str]
      walk_at "ss"
      by_cases h : s ∈ W
      · refine k_nt h ?_
        refine ⟨sm, ?_⟩
        rw [take_filter hs, if_neg (by simp [h])]
        exact hD
      · refine k_nf h ?_
        walk_at "ss"
        refine ⟨_, hD, small_lt (by rw [List.length_map]; omega), same_put sm nD, ?_⟩
        rw [upd_same, take_filter hs, if_pos (by simp [h]), List.map_append]
        rfl
    · rintro H3 ⟨s3, hD3⟩
      rw [List.length_map, List.take_length] at hD3
      have hD3 : H3 D = some (.lst ((minus U W).map V.str)) := hD3
      have hg3 := s3 _ _ hg
      have hf3 := s3 _ _ hf
      walk_at "ss"
      refine k_iL (SqL.of hg3) ?_
      intro D2 nD2
      refine k_lcList (W.map V.str) (fun i H' => Same H3 H' ∧ H' D2 = some (.lst (((W.take i).filter fun s => decide (s ∉ U)).map V.str))) ⟨same_new nD2, upd_same⟩ ?_ ?_ ?_
      · rintro i H' _ ⟨sm, _⟩
        exact SqL.of (sm _ _ hg3)
      · rintro i x H' hx ⟨sm, hD⟩
        obtain ⟨s, hs, rfl⟩ := map_str_at hx
        have hil := (List.getElem?_eq_some_iff.mp hs).1
        have hfl : ((W.take i).filter fun s => decide (s ∉ U)).length ≤ i := Nat.le_trans (List.length_filter_le _ _) (by rw [List.length_take]; omega)
        walk_at "ss"
        refine ⟨rfl, ?_⟩
        walk_at "ss"
        refine ⟨f, _, rfl, .inl (SqL.of (sm _ _ hf3)), rfl, flat_str _, ?_⟩
        rw [inV_str]
        walk_at "ss"
        by_cases h : s ∈ U
        · refine k_nt h ?_
          refine ⟨sm, ?_⟩
          rw [take_filter hs, if_neg (by simp [h])]
          exact hD
        · refine k_nf h ?_
          walk_at "ss"
          refine ⟨_, hD, small_lt (by rw [List.length_map]; omega), same_put sm nD2, ?_⟩
          rw [upd_same, take_filter hs, if_pos (by simp [h]), List.map_append]
          rfl
      · rintro H4 ⟨s4, hD4⟩
        rw [List.length_map, List.take_length] at hD4
        have hD4 : H4 D2 = some (.lst ((minus W U).map V.str)) := hD4
        have hm1 : (minus U W).length ≤ 7 := Nat.le_trans (List.length_filter_le _ _) (by omega)
        have hm2 : (minus W U).length ≤ 7 := Nat.le_trans (List.length_filter_le _ _) (by omega)
        walk_at "ss"
        refine k_addL (s4 _ _ hD3) hD4 (by rw [List.length_map, List.length_map]; omega) fun e ne => ?_
        have s5 := same_new (o := .lst ((minus U W).map V.str ++ (minus W U).map V.str)) ne
        have he5 : upd H4 e (.lst ((minus U W).map V.str ++ (minus W U).map V.str)) e = some (.lst ((minus U W ++ minus W U).map V.str)) := by rw [upd_same, List.map_append]
        generalize upd H4 e (.lst ((minus U W).map V.str ++ (minus W U).map V.str)) = H5 at s5 he5
        have s05 := ((s12.trans s3).trans s4).trans s5
        have hL5 := hL.up s05
        walk_at "ss"
        refine k_iL (SqL.of he5) ?_
        intro S nS
        refine k_lcList ((minus U W ++ minus W U).map V.str) (fun i H' => Same H5 H' ∧ H' S = some (.lst ((((minus U W ++ minus W U).take i).map (delOf (revR kn))).map V.int))) ⟨same_new nS, upd_same⟩ ?_ ?_ ?_
        · rintro i H' _ ⟨sm, _⟩
          exact SqL.of (sm _ _ he5)
        · rintro i x H' hx ⟨sm, hD⟩
          obtain ⟨s, hs, rfl⟩ := map_str_at hx
          have hil := (List.getElem?_eq_some_iff.mp hs).1
          rw [List.length_append] at hil
          have hsin : inN (revR kn) s := by
            rcases List.mem_append.mp (List.mem_of_getElem? hs) with h | h
            · exact hyin _ (mem_minus.mp h).1
            · exact hzin _ (mem_minus.mp h).1
          obtain ⟨zz, hzz, rfl⟩ := in_row hsin
          walk_at "ss"
          refine ⟨rfl, ?_⟩
          walk_at "ss"
          refine ⟨L, kn, zz, rfl, hL5.up sm, ok, hzz, fun H6 s6 => ?_⟩
          have hrow := s6 _ _ (sm _ _ (hL5.rt _ hzz))
          walk_at "ss"
          refine ⟨_, s6 _ _ hD, small_lt (by rw [List.length_map, List.length_map, List.length_take]; omega), same_put (sm.trans s6) nS, ?_⟩
          rw [upd_same, List.take_add_one, hs, List.map_append, List.map_append, ← del_at ok hzz]
          rfl
        · rintro H6 ⟨s6, hS⟩
          rw [List.length_map, List.take_length] at hS
          walk_at "ss"
          refine ⟨S, _, rfl, SqL.of hS, ?_⟩
          walk_at "ss"
          have e : ((minus U W ++ minus W U).map (delOf (revR kn))).sum = far (revR kn) y.2.n z.2.n := by
            unfold far
            rw [← eU, ← eW, List.map_append, List.sum_append]
            rfl
          rw [e]
          exact k H6 (s05.trans s6)
end

section
variable {w : World} {K : PySem.W.Frag} {mg : Str → Option Value} {base : Heap}
theorem k_neF0 {x : Str} {H : Hp} {Q : VK} (k : Q (.bl false) H) : rNe (.str x) (.str x) H Q := k_ne rfl (by rw [decide_eq_true rfl]; exact k)
theorem k_neT0 {x y : Str} {H : Hp} {Q : VK} (h : x ≠ y) (k : Q (.bl true) H) : rNe (.str x) (.str y) H Q := k_ne rfl (by rw [decide_eq_false (fun e => h (V.str.inj e))]; exact k)
def spGap : Sp := fun vs H Q _ => ∃ (L : Addr) (kn : RL) (y z : Addr × Rw), vs = [.ref L, .str y.2.n, .str z.2.n] ∧ RowsL H L kn ∧ RowsOk kn ∧ y ∈ kn ∧ z ∈ kn ∧
  ∀ (t : Addr) (k : Int) (s : Str) (H' : Hp), Same H H' → H' t = some (.tup [.int k, .str s]) → IsMin k ((up (revR kn) y.2.n).map fun s => base1 (revR kn) s z.2.n) → Q (.ref t) H'
theorem min_snoc {l : List Int} {k v : Int} (h : IsMin k l) : IsMin (if v < k then v else k) (l ++ [v]) := by
  split
  · rename_i hv
    refine ⟨List.mem_append_right _ (List.mem_singleton.mpr rfl), fun y hy => ?_⟩
    rcases List.mem_append.mp hy with hy | hy
    · exact Int.le_trans (Int.le_of_lt hv) (h.le y hy)
    · rw [List.mem_singleton.mp hy]
      exact Int.le_refl _
  · rename_i hv
    refine ⟨List.mem_append_left _ h.mem, fun y hy => ?_⟩
    rcases List.mem_append.mp hy with hy | hy
    · exact h.le y hy
    · rw [List.mem_singleton.mp hy]
      exact Int.not_lt.mp hv
def GapSt (f : Str → Int) (H : Hp) (U : List Str) (i : Nat) (v : V) : Prop := (i = 0 ∧ v = .non) ∨ ∃ (t : Addr) (k : Int) (s : Str), v = .ref t ∧ H t = some (.tup [.int k, .str s]) ∧ IsMin k ((U.take i).map f)
theorem GapSt.up {f : Str → Int} {H H' : Hp} {U : List Str} {i : Nat} {v : V} (h : GapSt f H U i v) (e : Same H H') : GapSt f H' U i v := by
  rcases h with h | ⟨t, k, s, h1, h2, h3⟩
  · exact .inl h
  · exact .inr ⟨t, k, s, h1, e _ _ h2, h3⟩
theorem ok_gap (T : Tx K mg) : FnOk P w K mg base CX0 3 T.a_gap T.fd_gap P_gap spGap := by
  refine T.F_gap.ok sc_gap (fun vs H Q E h => ?_) (fun cdv A outer s H vs Q E hr h => ?_)
  · obtain ⟨L, kn, y, z, rfl, _⟩ := h
    rfl
  · obtain ⟨L, kn, y, z, rfl, hL, ok, hy, hz, k⟩ := h
    have nd := sc_gap.nd
    have hyin := up_in ok.wf (row_in hy)
    refine ⟨_, (pss_cons (ks_setL (i := 3) nd l_gap_law_best pe_non)
      (pss_cons (ps_for PassesOwn.never rfl (kpi_list K (pe_call (ok_line T) (hr.mono (by first | decide | omega)) g_gap_law_line T.m_line T.k_line T.b_line .nil pass0 (pa_cons (kv (i := 0) v_gap_law_rows_here) (pa_cons (kv (i := 1) v_gap_law_one) pa_nil)))) (kgL (i := 4) nd l_gap_law_spot) (pss_cons (ks_setL (i := 5) nd l_gap_law_size (pe_un un_neg pe_int))
      (kss_meet (ps_if (pt_cmpR op_ne (kv (i := 4) v_gap_law_spot) (kv (i := 2) v_gap_law_two) (nomark _)) (pss_one (ks_setL (i := 5) nd l_gap_law_size (pe_op kop_add (pe_op op_mul pe_int (pe_ix (kix K) (pe_call (ok_row T) (hr.mono (by first | decide | omega)) g_gap_law_row T.m_row T.k_row T.b_row .nil pass0 (pa_cons (kv (i := 0) v_gap_law_rows_here) (pa_cons (kv (i := 4) v_gap_law_spot) pa_nil))) pe_int (fun _ _ => rfl))) (pe_call (ok_far T) (hr.mono (by first | decide | omega)) g_gap_law_far T.m_far T.k_far T.b_far .nil pass0 (pa_cons (kv (i := 0) v_gap_law_rows_here) (pa_cons (kv (i := 4) v_gap_law_spot) (pa_cons (kv (i := 2) v_gap_law_two) pa_nil))))))) pss_nil)
      (pss_one (ps_if (PW.pt (pw_or (pt_cmpR op_isN (kv (i := 3) v_gap_law_best) pe_non (nomark _)) (pw_or1 (pt_cmpR op_lt (kv (i := 5) v_gap_law_size) (pe_ix (kix K) (kv (i := 3) v_gap_law_best) pe_int (fun _ _ => rfl)) (nomark _))))) (pss_one (ks_setL (i := 3) nd l_gap_law_best (pe_tup (pa_cons (kv (i := 5) v_gap_law_size) (pa_cons (kv (i := 4) v_gap_law_spot) pa_nil))))) pss_nil)))))
      (pss_one (ps_ret (kv (i := 3) v_gap_law_best))))), ?_⟩
    walk_at "ss"
    refine ⟨L, kn, y, rfl, hL, ok, hy, fun f H1 s1 nf hf => ?_⟩
    obtain ⟨U, eU⟩ : ∃ U, U = up (revR kn) y.2.n := ⟨_, rfl⟩
    have hU0 : y.2.n ∈ U := by rw [eU]; exact up_self _ _
    rw [← eU] at hf hyin k
    refine k_iL (SqL.of hf) ?_
    refine k_forList (U.map V.str) (fun i σ H' => ∃ (v4 v5 : Option V) (v : V), σ = [some (.ref L), some (.str y.2.n), some (.str z.2.n), some v, v4, v5] ∧ Same H1 H' ∧ GapSt (fun s => base1 (revR kn) s z.2.n) H' U i v) ⟨none, none, .non, rfl, Same.refl _, .inl ⟨rfl, rfl⟩⟩ ?_ ?_ ?_
    · rintro i σ H' _ ⟨v4, v5, v, _, sm, _⟩
      exact SqL.of (sm _ _ hf)
    · rintro i x σ H2 hx ⟨v4, v5, v, rfl, sm, hv⟩
      obtain ⟨s, hs, rfl⟩ := map_str_at hx
      obtain ⟨zz, hzz, rfl⟩ := in_row (hyin _ (List.mem_of_getElem? hs))
      have hL2 := hL.up (s1.trans sm)
      walk_at "ss"
      refine k_meet (fun σ H' => σ = [some (.ref L), some (.str y.2.n), some (.str z.2.n), some v, some (.str zz.2.n), some (.int (base1 (revR kn) zz.2.n z.2.n))] ∧ Same H2 H') ?_ ?_
      · walk_at "ss"
        by_cases e : zz.2.n = z.2.n
        · have hb : base1 (revR kn) zz.2.n z.2.n = -1 := by unfold base1; rw [if_pos e.symm]
          rw [hb, e]
          refine k_neF0 ?_
          walk_at "ss"
          exact ⟨rfl, Same.refl _⟩
        · have hb : base1 (revR kn) zz.2.n z.2.n = 2 * zz.2.er + far (revR kn) zz.2.n z.2.n := by unfold base1; rw [if_neg (Ne.symm e), err_of ok hzz]
          rw [hb]
          refine k_neT0 e ?_
          walk_at "ss"
          refine ⟨L, kn, zz, rfl, hL2, ok, hzz, fun H3 s3 => ?_⟩
          have hrow := s3 _ _ (hL2.rt _ hzz)
          walk_at "ss"
          refine ⟨L, kn, zz, z, rfl, hL2.up s3, ok, hzz, hz, fun H4 s4 => ?_⟩
          walk_at "ss"
          exact ⟨rfl, s3.trans s4⟩
      · rintro σ H3 ⟨rfl, s3⟩
        have hv := hv.up s3
        have hil := (List.getElem?_eq_some_iff.mp hs).1
        have fin : ∀ (k' : Int), IsMin k' ((U.take (i + 1)).map fun s => base1 (revR kn) s z.2.n) → k' = base1 (revR kn) zz.2.n z.2.n → ∀ t, H3 t = none → ∃ (v4 v5 : Option V) (v' : V), [some (V.ref L), some (.str y.2.n), some (.str z.2.n), some (.ref t), some (.str zz.2.n), some (.int (base1 (revR kn) zz.2.n z.2.n))] = [some (.ref L), some (.str y.2.n), some (.str z.2.n), some v', v4, v5] ∧ Same H1 (upd H3 t (.tup [.int (base1 (revR kn) zz.2.n z.2.n), .str zz.2.n])) ∧ GapSt (fun s => base1 (revR kn) s z.2.n) (upd H3 t (.tup [.int (base1 (revR kn) zz.2.n z.2.n), .str zz.2.n])) U (i + 1) v' := fun k' hk' ek t nt => by
          subst ek
          exact ⟨_, _, _, rfl, (sm.trans s3).trans (same_new nt), .inr ⟨t, _, _, rfl, upd_same, hk'⟩⟩
        have hsnoc : (U.take (i + 1)).map (fun s => base1 (revR kn) s z.2.n) = (U.take i).map (fun s => base1 (revR kn) s z.2.n) ++ [base1 (revR kn) zz.2.n z.2.n] := by
          rw [List.take_add_one, hs, List.map_append]
          rfl
        rcases hv with ⟨rfl, rfl⟩ | ⟨t, k0, s0, rfl, ht, hm⟩
        · walk_at "ss"
          refine ⟨rfl, ?_⟩
          walk_at "ss"
          refine k_dt rfl ?_
          walk_at "ss"
          intro t nt
          refine fin _ ?_ rfl t nt
          rw [hsnoc]
          exact ⟨List.mem_singleton.mpr rfl, fun y hy => by rw [List.mem_singleton.mp hy]; exact Int.le_refl _⟩
        · walk_at "ss"
          refine ⟨rfl, ?_⟩
          walk_at "ss"
          refine k_df (fun h => by cases h) ?_
          walk_at "ss"
          have hms := min_snoc (v := base1 (revR kn) zz.2.n z.2.n) hm
          rw [← hsnoc] at hms
          refine k_d (fun h => ?_) (fun h => ?_)
          · rw [if_pos h] at hms
            walk_at "ss"
            intro t nt
            exact fin _ hms rfl t nt
          · rw [if_neg h] at hms
            walk_at "ss"
            exact ⟨_, _, _, rfl, sm.trans s3, .inr ⟨t, k0, s0, rfl, ht, hms⟩⟩
    · rintro σ H2 ⟨v4, v5, v, rfl, sm, hv⟩
      rw [List.length_map] at hv
      rcases hv with ⟨h0, _⟩ | ⟨t, kk, s, rfl, ht, hm⟩
      · rw [List.length_eq_zero_iff.mp h0] at hU0
        cases hU0
      · rw [List.take_length] at hm
        walk_at "ss"
        exact k t kk s H2 (s1.trans sm) ht hm
end

section
variable {w : World} {K : PySem.W.Frag} {mg : Str → Option Value} {base : Heap}
def spNeed : Sp := fun vs H Q _ => ∃ (L fa da : Addr) (p : Plan) (kn : RL) (y z : Addr × Rw) (ta : Int), vs = [.ref L, .ref fa, .ref da, .str z.2.n] ∧ RowsL H L kn ∧ RowsOk kn ∧ PlanAt H fa p ∧ p.Ok ∧ p.forms ≤ 3 ∧ y ∈ kn ∧ z ∈ kn ∧ H da = some (.tup [.str y.2.n, .int ta]) ∧
  ∀ (k : Int) (H' : Hp), Same H H' → IsMin k ((up (revR kn) y.2.n).map fun s => base1 (revR kn) s z.2.n) → Q (.int (p.at (ta + y.2.er) + k)) H'
theorem ok_need (T : Tx K mg) : FnOk P w K mg base CX0 5 T.a_need T.fd_need P_need spNeed := by
  refine T.F_need.ok sc_need (fun vs H Q E h => ?_) (fun cdv A outer s H vs Q E hr h => ?_)
  · obtain ⟨L, fa, da, p, kn, y, z, ta, rfl, _⟩ := h
    rfl
  · obtain ⟨L, fa, da, p, kn, y, z, ta, rfl, hL, ok, hp, op, hf, hy, hz, hda, k⟩ := h
    have nd := sc_need.nd
    refine ⟨_, (pss_one (ps_ret (pe_op kop_add (pe_call (ok_after T) (hr.mono (by first | decide | omega)) g_need_law_after T.m_after T.k_after T.b_after .nil pass0 (pa_cons (kv (i := 1) v_need_law_form_here) (pa_cons (pe_op kop_add (pe_ix (kix K) (kv (i := 2) v_need_law_one) pe_int (fun _ _ => rfl)) (pe_ix (kix K) (pe_call (ok_row T) (hr.mono (by first | decide | omega)) g_need_law_row T.m_row T.k_row T.b_row .nil pass0 (pa_cons (kv (i := 0) v_need_law_rows_here) (pa_cons (pe_ix (kix K) (kv (i := 2) v_need_law_one) pe_int (fun _ _ => rfl)) pa_nil))) pe_int (fun _ _ => rfl))) pa_nil))) (pe_ix (kix K) (pe_call (ok_gap T) (hr.mono (by first | decide | omega)) g_need_law_gap T.m_gap T.k_gap T.b_gap .nil pass0 (pa_cons (kv (i := 0) v_need_law_rows_here) (pa_cons (pe_ix (kix K) (kv (i := 2) v_need_law_one) pe_int (fun _ _ => rfl)) (pa_cons (kv (i := 3) v_need_law_two) pa_nil)))) pe_int (fun _ _ => rfl))))), ?_⟩
    walk_at "ss"
    refine ⟨L, kn, y, rfl, hL, ok, hy, fun H1 s1 => ?_⟩
    have hrow := s1 _ _ (hL.rt _ hy)
    have hda1 := s1 _ _ hda
    walk_at "ss"
    refine ⟨fa, p, ta + y.2.er, rfl, hp.up s1, op, hf, fun H2 s2 => ?_⟩
    have hda2 := s2 _ _ hda1
    walk_at "ss"
    refine ⟨L, kn, y, z, rfl, (hL.up s1).up s2, ok, hy, hz, fun t kk s H3 s3 ht hm => ?_⟩
    walk_at "ss"
    exact k kk H3 ((s1.trans s2).trans s3) hm
def spLL : Sp := fun vs H Q _ => ∃ (L fa da db : Addr) (p : Plan) (kn : RL) (y z : Addr × Rw) (ta tb : Int), vs = [.ref L, .ref fa, .ref da, .ref db] ∧ RowsL H L kn ∧ RowsOk kn ∧ PlanAt H fa p ∧ p.Ok ∧ p.forms ≤ 3 ∧ y ∈ kn ∧ z ∈ kn ∧ H da = some (.tup [.str y.2.n, .int ta]) ∧ H db = some (.tup [.str z.2.n, .int tb]) ∧
  ∀ (k : Int) (H' : Hp), Same H H' → IsMin k ((up (revR kn) y.2.n).map fun s => base1 (revR kn) s z.2.n) → Q (.bl (decide (p.at (ta + y.2.er) + k < tb - z.2.er))) H'
theorem ok_lleads (T : Tx K mg) : FnOk P w K mg base CX0 6 T.a_lleads T.fd_lleads P_lleads spLL := by
  refine T.F_lleads.ok sc_lleads (fun vs H Q E h => ?_) (fun cdv A outer s H vs Q E hr h => ?_)
  · obtain ⟨L, fa, da, db, p, kn, y, z, ta, tb, rfl, _⟩ := h
    rfl
  · obtain ⟨L, fa, da, db, p, kn, y, z, ta, tb, rfl, hL, ok, hp, op, hf, hy, hz, hda, hdb, k⟩ := h
    have nd := sc_lleads.nd
    refine ⟨_, (pss_one (ps_ret (pe_cmpR op_gt (pe_op op_sub (pe_ix (kix K) (kv (i := 3) v_lleads_law_two) pe_int (fun _ _ => rfl)) (pe_ix (kix K) (pe_call (ok_row T) (hr.mono (by first | decide | omega)) g_lleads_law_row T.m_row T.k_row T.b_row .nil pass0 (pa_cons (kv (i := 0) v_lleads_law_rows_here) (pa_cons (pe_ix (kix K) (kv (i := 3) v_lleads_law_two) pe_int (fun _ _ => rfl)) pa_nil))) pe_int (fun _ _ => rfl))) (pe_call (ok_need T) (hr.mono (by first | decide | omega)) g_lleads_law_need T.m_need T.k_need T.b_need .nil pass0 (pa_cons (kv (i := 0) v_lleads_law_rows_here) (pa_cons (kv (i := 1) v_lleads_law_form_here) (pa_cons (kv (i := 2) v_lleads_law_one) (pa_cons (pe_ix (kix K) (kv (i := 3) v_lleads_law_two) pe_int (fun _ _ => rfl)) pa_nil))))) (nomark _)))), ?_⟩
    walk_at "ss"
    refine ⟨L, kn, z, rfl, hL, ok, hz, fun H1 s1 => ?_⟩
    have hrow := s1 _ _ (hL.rt _ hz)
    have hdb1 := s1 _ _ hdb
    walk_at "ss"
    refine ⟨L, fa, da, p, kn, y, z, ta, rfl, hL.up s1, ok, hp.up s1, op, hf, hy, hz, s1 _ _ hda, fun kk H2 s2 hm => ?_⟩
    walk_at "ss"
    exact k kk H2 (s1.trans s2) hm
end

section
variable {w : World} {K : PySem.W.Frag} {mg : Str → Option Value} {base : Heap}
/-! ### rows and the net, by draws -/
abbrev nmL : List Str := ["hub", "a", "west4", "b2", "far", "zz9"]
def nmOf (j : Int) : Str := nmL.getD j.toNat "hub"
theorem nm_at {j : Int} (h0 : 0 ≤ j) (h1 : j < 6) : atI (nmL.map V.str) j = some (.str (nmOf j)) := by
  obtain ⟨n, rfl⟩ := Int.eq_ofNat_of_zero_le h0
  have hn : n < 6 := by omega
  rcases n with _ | _ | _ | _ | _ | _ | n <;> first | rfl | omega
theorem nm_inj {i j : Int} (h0 : 0 ≤ i) (h1 : i < 6) (h2 : 0 ≤ j) (h3 : j < 6) (e : nmOf i = nmOf j) : i = j := by
  obtain ⟨n, rfl⟩ := Int.eq_ofNat_of_zero_le h0
  obtain ⟨m, rfl⟩ := Int.eq_ofNat_of_zero_le h2
  have hn : n < 6 := by omega
  have hm : m < 6 := by omega
  have key : ∀ a b : Fin 6, nmL.getD a.val "hub" = nmL.getD b.val "hub" → a = b := by decide +kernel
  have := key ⟨n, hn⟩ ⟨m, hm⟩ e
  have := congrArg Fin.val this
  exact congrArg _ this
theorem nm_ok {j : Int} (h0 : 0 ≤ j) (h1 : j < 6) : nameB (nmOf j) := by
  obtain ⟨n, rfl⟩ := Int.eq_ofNat_of_zero_le h0
  have hn : n < 6 := by omega
  have key : ∀ z ∈ nmL, nameB z := by
    intro z hz
    have h : ∀ z ∈ nmL, (z.length ≤ 8 ∧ (∃ c ∈ z.cps.toList.head?, c ∈ (("abcdefghijklmnopqrstuvwxyz" : Str)).cps.toList) ∧ ∀ d ∈ z.cps.toList, d ∈ (("abcdefghijklmnopqrstuvwxyz" : Str)).cps.toList ∨ d ∈ (("0123456789" : Str)).cps.toList) := by decide +kernel
    obtain ⟨h1, ⟨c, hc, h2⟩, h3⟩ := h z hz
    unfold nameB
    cases hh : z.cps.toList with
    | nil => rw [hh] at hc; cases hc
    | cons x r =>
      rw [hh] at hc h3
      have : x = c := by cases hc; rfl
      exact ⟨x, r, rfl, h1, this ▸ h2, h3⟩
  have k2 : ∀ a : Fin 6, nmL.getD a.val "hub" ∈ nmL := by decide +kernel
  exact key _ (k2 ⟨n, hn⟩)
structure RowsPre (kn : RL) (sh : Int) : Prop where
  wf : WF (revR kn)
  nm : ∀ (m : Nat) (z : Addr × Rw), kn[m]? = some z → z.2.n = nmOf ((sh + (m : Int) * 5) % 6)
theorem RowsPre.ok {kn : RL} {sh : Int} (h : RowsPre kn sh) (hl : 1 ≤ kn.length ∧ kn.length ≤ 6) : RowsOk kn := by
  refine ⟨h.wf, fun z hz => ?_, hl⟩
  obtain ⟨m, hm⟩ := List.mem_iff_getElem?.mp hz
  rw [h.nm m z hm]
  exact nm_ok (Int.emod_nonneg _ (by decide)) (Int.emod_lt_of_pos _ (by decide))
theorem RowsPre.snoc {kn : RL} {sh : Int} {r : Addr × Rw} (h : RowsPre kn sh) (h1 : 1 ≤ kn.length) (hl : kn.length ≤ 5) (hn : r.2.n = nmOf ((sh + kn.length * 5) % 6)) (he : 0 ≤ r.2.er ∧ r.2.er ≤ 100) (hd : 0 ≤ r.2.de ∧ r.2.de ≤ 100) {e : Str} (hel : r.2.el = some e) (hin : inN (revR kn) e) : RowsPre (kn ++ [r]) sh := by
  have e1 : revR (kn ++ [r]) = r.2 :: revR kn := by unfold revR; rw [List.map_append, List.reverse_append]; rfl
  refine ⟨?_, fun m z hm => ?_⟩
  · rw [e1]
    refine ⟨h.wf, fun x hx e => ?_, he, hd, by rw [hel]; exact hin⟩
    obtain ⟨y, hy, rfl⟩ := List.mem_map.mp (List.mem_reverse.mp hx)
    obtain ⟨m, hm⟩ := List.mem_iff_getElem?.mp hy
    have hml := (List.getElem?_eq_some_iff.mp hm).1
    rw [h.nm m y hm, hn] at e
    have := nm_inj (Int.emod_nonneg _ (by decide)) (Int.emod_lt_of_pos _ (by decide)) (Int.emod_nonneg _ (by decide)) (Int.emod_lt_of_pos _ (by decide)) e
    omega
  · rcases Nat.lt_or_ge m kn.length with hml | hml
    · rw [List.getElem?_append_left hml] at hm
      exact h.nm m z hm
    · rw [List.getElem?_append_right hml] at hm
      have h0 : m - kn.length = 0 := by
        have := (List.getElem?_eq_some_iff.mp hm).1
        simp at this
        omega
      rw [h0] at hm
      have hz : r = z := Option.some.inj hm
      rw [← hz, hn, show m = kn.length by omega]
def spRows : Sp := fun vs H Q _ => ∃ (b C : Addr) (sz : Int), vs = [.ref b, .int sz, .int 4, .int 5] ∧ 1 ≤ sz ∧ sz ≤ 6 ∧ BoxAt H b C ∧ ∀ (L : Addr) (kn : RL) (H' : Hp), Fb b C H H' → BoxAt H' b C → L ≠ b → L ≠ C → RowsL H' L kn → RowsOk kn → Q (.ref L) H'
theorem Fb.upd {b C x : Addr} {H H' : Hp} {o : HO} (f : Fb b C H H') (n : H x = none) : Fb b C H (upd H' x o) := fun a u h1 h2 h => by
  rw [upd_ne (ne_of_none h n)]
  exact f a u h1 h2 h
theorem BoxAt.upd {b C x : Addr} {H : Hp} {o : HO} (B : BoxAt H b C) (h1 : x ≠ b) (h2 : x ≠ C) : BoxAt (upd H x o) b C := by
  obtain ⟨⟨x, y, z, a1, a2⟩, ⟨ns, a3, a4⟩, ne⟩ := B
  exact ⟨⟨x, y, z, by rw [upd_ne (Ne.symm h1)]; exact a1, a2⟩, ⟨ns, by rw [upd_ne (Ne.symm h2)]; exact a3, a4⟩, ne⟩
theorem RowsT.fb {b C : Addr} {H H' : Hp} {kn : RL} (h : RowsT H kn) (f : Fb b C H H') (B : BoxAt H b C) : RowsT H' kn := fun z hz => f.tup B (h z hz)
theorem ok_rows (T : Tx K mg) : FnOk P w K mg base CX0 2 T.a_rows T.fd_rows P_rows spRows := by
  refine T.F_rows.ok sc_rows (fun vs H Q E h => ?_) (fun cdv A outer s H vs Q E hr h => ?_)
  · obtain ⟨b, C, sz, rfl, _⟩ := h
    rfl
  · obtain ⟨b, C, sz, rfl, h1, h6, B, k⟩ := h
    have nd := sc_rows.nd
    refine ⟨_, (pss_cons (ks_setL (i := 4) nd l_rows_law_names (pe_lst (pa_cons pe_str (pa_cons pe_str (pa_cons pe_str (pa_cons pe_str (pa_cons pe_str (pa_cons pe_str pa_nil))))))))
      (pss_cons (ks_setL (i := 5) nd l_rows_law_shift (pe_call (ok_take T) (hr.mono (by first | decide | omega)) g_rows_law_take T.m_take T.k_take T.b_take .nil pass0 (pa_cons (kv (i := 0) v_rows_law_box_here) (pa_cons pe_int pa_nil))))
      (pss_cons (ks_setL (i := 6) nd l_rows_law_rows_here (pe_lst (pa_cons (pe_tup (pa_cons (pe_ix (kix K) (kv (i := 4) v_rows_law_names) (kv (i := 5) v_rows_law_shift) (fun _ _ => rfl)) (pa_cons pe_non (pa_cons (pe_call (ok_take T) (hr.mono (by first | decide | omega)) g_rows_law_take T.m_take T.k_take T.b_take .nil pass0 (pa_cons (kv (i := 0) v_rows_law_box_here) (pa_cons (pe_op kop_add (kv (i := 2) v_rows_law_errors) pe_int) pa_nil))) (pa_cons pe_int pa_nil))))) pa_nil)))
      (pss_cons (ps_for PassesOwn.never rfl (pi_range2 g_rows_range T.n_range (pa_cons pe_int (pa_cons (kcB b_min (by decide) (by decide) (kc_min2 rfl) g_rows_min T.n_min (pa_cons (kv (i := 1) v_rows_law_size) (pa_cons pe_int pa_nil))) pa_nil))) (kgL (i := 7) nd l_rows_law_k) (pss_cons (ks_setL (i := 8) nd l_rows_law_above (pe_ix (kix K) (pe_ix (kix K) (kv (i := 6) v_rows_law_rows_here) (pe_call (ok_take T) (hr.mono (by first | decide | omega)) g_rows_law_take T.m_take T.k_take T.b_take .nil pass0 (pa_cons (kv (i := 0) v_rows_law_box_here) (pa_cons (kcB b_len (by decide) (by decide) (kc_len K) g_rows_len T.n_len (pa_cons (kv (i := 6) v_rows_law_rows_here) pa_nil)) pa_nil))) (fun _ _ => rfl)) pe_int (fun _ _ => rfl)))
      (pss_one (ps_expr (pe_bm PySem.F.plainAttrs_list PySem.F.slot_list_append PySem.F.type_list_append mt_append (kv (i := 6) v_rows_law_rows_here) (pa_cons (pe_tup (pa_cons (pe_ix (kix K) (kv (i := 4) v_rows_law_names) (pe_op op_mod (pe_op kop_add (kv (i := 5) v_rows_law_shift) (pe_op op_mul (kv (i := 7) v_rows_law_k) pe_int)) pe_int) (fun _ _ => rfl)) (pa_cons (kv (i := 8) v_rows_law_above) (pa_cons (pe_call (ok_take T) (hr.mono (by first | decide | omega)) g_rows_law_take T.m_take T.k_take T.b_take .nil pass0 (pa_cons (kv (i := 0) v_rows_law_box_here) (pa_cons (pe_op kop_add (kv (i := 2) v_rows_law_errors) pe_int) pa_nil))) (pa_cons (pe_call (ok_take T) (hr.mono (by first | decide | omega)) g_rows_law_take T.m_take T.k_take T.b_take .nil pass0 (pa_cons (kv (i := 0) v_rows_law_box_here) (pa_cons (pe_op kop_add (kv (i := 3) v_rows_law_delays) pe_int) pa_nil))) pa_nil))))) pa_nil))))))
      (pss_one (ps_ret (kv (i := 6) v_rows_law_rows_here))))))), ?_⟩
    walk_at "ss"
    intro nl nnl
    have s1 := same_new (o := .lst [V.str "hub", .str "a", .str "west4", .str "b2", .str "far", .str "zz9"]) nnl
    have hnl1 : upd H nl (.lst [V.str "hub", .str "a", .str "west4", .str "b2", .str "far", .str "zz9"]) nl = some (.lst (nmL.map V.str)) := upd_same
    generalize upd H nl (.lst [V.str "hub", .str "a", .str "west4", .str "b2", .str "far", .str "zz9"]) = H1 at s1 hnl1
    have B1 := B.up s1
    obtain ⟨_, nnb, nnC⟩ := (Fb.same (b := b) (C := C) (Same.refl H)).new B B nnl
    walk_at "ss"
    refine k_take B1 (by omega) (by omega) fun sh H2 d0 d1 f2 B2 => ?_
    have hnl2 := f2 _ _ nnb nnC hnl1
    have hat := nm_at d0 d1
    walk_at "ss"
    refine k_take B2 (by omega) (by omega) fun er H3 e0 e1 f3 B3 => ?_
    have hnl3 := f3 _ _ nnb nnC hnl2
    walk_at "ss"
    intro rt nrt
    have f03 := ((Fb.same s1).trans f2).trans f3
    generalize eH : upd H3 rt (.tup [V.str (nmOf sh), .non, .int er, .int 0]) = H4
    have s4 := upd_sm eH nrt
    have hrt4 := upd_at eH
    clear eH
    have B4 := B3.up s4
    have hnl4 := s4 _ _ hnl3
    walk_at "ss"
    intro L nL
    generalize eH : upd H4 L _ = H5
    have s5 := upd_sm eH nL
    have hL5 := upd_at eH
    clear eH
    have B5 := B4.up s5
    have hnl5 := s5 _ _ hnl4
    have f05 := (f03.trans (.same s4)).trans (.same s5)
    obtain ⟨nLH, nLb, nLC⟩ := (f03.trans (.same s4)).new B B4 nL
    walk_at "ss"
    generalize hmn : (if (6 : Int) < sz then (6 : Int) else sz) = mn
    have hmn2 : 1 ≤ mn ∧ mn ≤ 6 := by
      rw [← hmn]
      split <;> omega
    refine k_r2 (by omega) ?_
    refine k_forRange (fun i σ H' => ∃ (v7 v8 : Option V) (kn : RL), σ = [some (.ref b), some (.int sz), some (.int 4), some (.int 5), some (.ref nl), some (.int sh), some (.ref L), v7, v8] ∧ Fb b C H H' ∧ BoxAt H' b C ∧ H' nl = some (.lst (nmL.map V.str)) ∧ H' L = some (.lst (kn.map fun z => .ref z.1)) ∧ RowsT H' kn ∧ RowsPre kn sh ∧ kn.length = i + 1)
      ⟨none, none, [(rt, ⟨nmOf sh, none, er, 0⟩)], rfl, f05, B5, hnl5, hL5, fun z hz => ?_, ⟨⟨trivial, (fun x hx => by cases hx), ⟨e0, (by omega : er ≤ 100)⟩, ⟨Int.le_refl _, by show (0 : Int) ≤ 100; decide⟩, rfl, rfl⟩, fun m z hm => ?_⟩, rfl⟩ ?_ ?_
    · rw [List.mem_singleton.mp hz]
      exact s5 _ _ hrt4
    · have hm0 : m = 0 := by
        have := (List.getElem?_eq_some_iff.mp hm).1
        simp at this
        exact this
      subst hm0
      cases hm
      show nmOf sh = _
      congr 1
      omega
    · rintro i σ H6 hi ⟨v7, v8, kn, rfl, f6, B6, hnl6, hL6, hr6, pre, hkl⟩
      walk_at "ss"
      refine k_take B6 (by rw [List.length_map]; omega) (by rw [List.length_map]; omega) fun d H7 d0 d1 f7 B7 => ?_
      rw [List.length_map] at d1
      obtain ⟨v, hv, hmem⟩ := at_mem' (xs := kn.map fun z => V.ref z.1) d0 (by rw [List.length_map]; exact d1)
      obtain ⟨z, hz, rfl⟩ := List.mem_map.mp hmem
      have hL7 := f7 _ _ nLb nLC hL6
      have hnl7 := f7 _ _ nnb nnC hnl6
      have hr7 := hr6.fb f7 B6
      have hrow := hr7 _ hz
      have hat2 := nm_at (j := (sh + (1 + (i : Int)) * 5) % 6) (Int.emod_nonneg _ (by decide)) (Int.emod_lt_of_pos _ (by decide))
      walk_at "ss"
      refine k_bm ?_
      walk_at "ss"
      refine ⟨.inl ⟨rfl, _, SqL.of hL7⟩, ?_⟩
      walk_at "ss"
      refine k_take B7 (by omega) (by omega) fun er2 H8 e20 e21 f8 B8 => ?_
      walk_at "ss"
      refine k_take B8 (by omega) (by omega) fun de H9 g0 g1 f9 B9 => ?_
      have hL9 := f9 _ _ nLb nLC (f8 _ _ nLb nLC hL7)
      have hnl9 := f9 _ _ nnb nnC (f8 _ _ nnb nnC hnl7)
      have hr9 := (hr7.fb f8 B7).fb f9 B8
      have f09 := ((f6.trans f7).trans f8).trans f9
      walk_at "ss"
      intro rt2 nrt2
      generalize eH : upd H9 rt2 _ = H10
      have s10 := upd_sm eH nrt2
      have hrt10 := upd_at eH
      clear eH
      have hL10 := s10 _ _ hL9
      walk_at "ss"
      refine k_app hL10 (by rw [List.length_map]; omega) ?_
      have f10 := f09.trans (.same s10)
      refine ⟨_, _, kn ++ [(rt2, ⟨nmOf ((sh + (1 + (i : Int)) * 5) % 6), some z.2.n, er2, de⟩)], rfl, f10.upd nLH, (B9.up s10).upd nLb nLC, ?_, by rw [upd_same, List.map_append]; rfl, fun y hy => ?_, ?_, by rw [List.length_append, hkl]; rfl⟩
      · rw [upd_ne (ne_of_none hnl4 nL)]
        exact s10 _ _ hnl9
      · have hne : y.1 ≠ L := fun e => by
          rcases List.mem_append.mp hy with h | h
          · have := hr9 _ h
            rw [e, hL9] at this
            cases this
          · rw [List.mem_singleton.mp h] at e
            have e : rt2 = L := e
            rw [e, hL9] at nrt2
            cases nrt2
        rw [upd_ne hne]
        rcases List.mem_append.mp hy with h | h
        · exact s10 _ _ (hr9 _ h)
        · rw [List.mem_singleton.mp h]
          exact hrt10
      · refine pre.snoc (by omega) (by omega) ?_ ⟨e20, (by omega : er2 ≤ 100)⟩ ⟨g0, (by omega : de ≤ 100)⟩ rfl (row_in hz)
        show nmOf _ = nmOf _
        congr 1
        rw [hkl]
        omega
    · rintro σ H6 ⟨v7, v8, kn, rfl, f6, B6, hnl6, hL6, hr6, pre, hkl⟩
      walk_at "ss"
      exact k L kn H6 f6 B6 nLb nLC ⟨hL6, hr6⟩ (pre.ok (by omega))
end

section
variable {w : World} {K : PySem.W.Frag} {mg : Str → Option Value} {base : Heap}
theorem k_makeSK {C : Addr} {sp : Sp} {E : XK} {t tk : TA} {σ : L2.St} {H : Hp} {Q : VK} (h : t σ H fun vs H1 => tk σ H1 fun zs H2 => ∃ z, zs = [z] ∧ vs.length ≤ 1000 ∧ ∀ x dx tp, H2 x = none → H2 dx = none → dx ≠ x → (upd (upd H2 dx (.own x)) x (.ins C dx [])) tp = none →
  sp [.ref x, z, .ref tp] (upd (upd (upd H2 dx (.own x)) x (.ins C dx [])) tp (.tup vs)) (fun v H3 => v = .non ∧ Q (.ref x) H3) E) : tMakeSK C sp E t tk σ H Q := h
theorem net_fin {T : Tx K mg} {F : Addr → Prop} {H : Hp} {ra : Addr} {p : Plan} {kn : RL} {vs : List V} {Q : VK} {E : XK} (hra : RestAt T F H ra p) (hrt : RowsT H kn) (ok : RowsOk kn) (hv : vs = kn.map fun z => V.ref z.1) (k : ∀ r H', Same H H' → NetAt T F H' r p kn → Q (.ref r) H') :
    ∃ z, [V.ref ra] = [z] ∧ vs.length ≤ 1000 ∧ ∀ x dx tp, H x = none → H dx = none → dx ≠ x → (upd (upd H dx (.own x)) x (.ins T.C_Net dx [])) tp = none →
  spNetInit T [.ref x, z, .ref tp] (upd (upd (upd H dx (.own x)) x (.ins T.C_Net dx [])) tp (.tup vs)) (fun v H3 => v = .non ∧ Q (.ref x) H3) E := by
  subst hv
  have hl := ok.len
  refine ⟨_, rfl, by rw [List.length_map]; omega, fun x dx tp nx ndx ne ntp => ?_⟩
  have sm := (same_made nx ndx ne).trans (same_new (o := .tup (kn.map fun z => V.ref z.1)) ntp)
  refine ⟨F, x, ra, tp, dx, p, kn, rfl, hra.up sm, (upd_ne (ne_of_none upd_same ntp)).trans upd_same, upd_same, hrt.up (fun a xs => sm a _), ok, fun H' f hN => ⟨rfl, k x H' (fun a o h => ?_) hN⟩⟩
  exact f a o (ne_of_none h nx) (sm _ _ h)
def spNet (T : Tx K mg) : Sp := fun vs H Q _ => ∃ (F : Addr → Prop) (L fa : Addr) (p : Plan) (kn : RL), vs = [.ref L, .ref fa] ∧ (∀ x, F x → H x ≠ none) ∧ RowsL H L kn ∧ RowsOk kn ∧ PlanAt H fa p ∧ p.Ok ∧ p.forms ≤ 3 ∧ ∀ r H', Same H H' → NetAt T F H' r p kn → Q (.ref r) H'
theorem ok_net (T : Tx K mg) : FnOk P w K mg base CX0 12 T.a_net T.fd_net P_net (spNet T) := by
  refine T.F_net.ok sc_net (fun vs H Q E h => ?_) (fun cdv A outer s H vs Q E hr h => ?_)
  · obtain ⟨F, L, fa, p, kn, rfl, _⟩ := h
    rfl
  · obtain ⟨F, L, fa, p, kn, rfl, hFH, hL, ok, hp, op, hf, k⟩ := h
    have nd := sc_net.nd
    have hl := ok.len
    refine ⟨_, (pss_cons (ks_setL (i := 2) nd l_net_law_own (pe_call (ok_made T) (hr.mono (by first | decide | omega)) g_net_law_made T.m_made T.k_made T.b_made .nil pass0 (pa_cons (kv (i := 1) v_net_law_form_here) pa_nil)))
      (pss_cons (ps_if (pt_cmpR op_eq (kcB b_len (by decide) (by decide) (kc_len K) g_net_len T.n_len (pa_cons (kv (i := 0) v_net_law_rows_here) pa_nil)) pe_int (nomark _)) (pss_one (ps_ret (kpe_makeSK (E := E0) T.mk_Net (ok_Net_init T) (hr.mono (by first | decide | omega)) g_net_Net T.m_Net (pa_cons (pe_ix (kix K) (kv (i := 0) v_net_law_rows_here) pe_int (fun _ _ => rfl)) pa_nil) (pk_cons (kv (i := 2) v_net_law_own) pk_nil)))) pss_nil)
      (pss_cons (ps_if (pt_cmpR op_eq (kcB b_len (by decide) (by decide) (kc_len K) g_net_len T.n_len (pa_cons (kv (i := 0) v_net_law_rows_here) pa_nil)) pe_int (nomark _)) (pss_one (ps_ret (kpe_makeSK (E := E0) T.mk_Net (ok_Net_init T) (hr.mono (by first | decide | omega)) g_net_Net T.m_Net (pa_cons (pe_ix (kix K) (kv (i := 0) v_net_law_rows_here) pe_int (fun _ _ => rfl)) (pa_cons (pe_ix (kix K) (kv (i := 0) v_net_law_rows_here) pe_int (fun _ _ => rfl)) pa_nil)) (pk_cons (kv (i := 2) v_net_law_own) pk_nil)))) pss_nil)
      (pss_cons (ps_if (pt_cmpR op_eq (kcB b_len (by decide) (by decide) (kc_len K) g_net_len T.n_len (pa_cons (kv (i := 0) v_net_law_rows_here) pa_nil)) pe_int (nomark _)) (pss_one (ps_ret (kpe_makeSK (E := E0) T.mk_Net (ok_Net_init T) (hr.mono (by first | decide | omega)) g_net_Net T.m_Net (pa_cons (pe_ix (kix K) (kv (i := 0) v_net_law_rows_here) pe_int (fun _ _ => rfl)) (pa_cons (pe_ix (kix K) (kv (i := 0) v_net_law_rows_here) pe_int (fun _ _ => rfl)) (pa_cons (pe_ix (kix K) (kv (i := 0) v_net_law_rows_here) pe_int (fun _ _ => rfl)) pa_nil))) (pk_cons (kv (i := 2) v_net_law_own) pk_nil)))) pss_nil)
      (pss_cons (ps_if (pt_cmpR op_eq (kcB b_len (by decide) (by decide) (kc_len K) g_net_len T.n_len (pa_cons (kv (i := 0) v_net_law_rows_here) pa_nil)) pe_int (nomark _)) (pss_one (ps_ret (kpe_makeSK (E := E0) T.mk_Net (ok_Net_init T) (hr.mono (by first | decide | omega)) g_net_Net T.m_Net (pa_cons (pe_ix (kix K) (kv (i := 0) v_net_law_rows_here) pe_int (fun _ _ => rfl)) (pa_cons (pe_ix (kix K) (kv (i := 0) v_net_law_rows_here) pe_int (fun _ _ => rfl)) (pa_cons (pe_ix (kix K) (kv (i := 0) v_net_law_rows_here) pe_int (fun _ _ => rfl)) (pa_cons (pe_ix (kix K) (kv (i := 0) v_net_law_rows_here) pe_int (fun _ _ => rfl)) pa_nil)))) (pk_cons (kv (i := 2) v_net_law_own) pk_nil)))) pss_nil)
      (pss_cons (ps_if (pt_cmpR op_eq (kcB b_len (by decide) (by decide) (kc_len K) g_net_len T.n_len (pa_cons (kv (i := 0) v_net_law_rows_here) pa_nil)) pe_int (nomark _)) (pss_one (ps_ret (kpe_makeSK (E := E0) T.mk_Net (ok_Net_init T) (hr.mono (by first | decide | omega)) g_net_Net T.m_Net (pa_cons (pe_ix (kix K) (kv (i := 0) v_net_law_rows_here) pe_int (fun _ _ => rfl)) (pa_cons (pe_ix (kix K) (kv (i := 0) v_net_law_rows_here) pe_int (fun _ _ => rfl)) (pa_cons (pe_ix (kix K) (kv (i := 0) v_net_law_rows_here) pe_int (fun _ _ => rfl)) (pa_cons (pe_ix (kix K) (kv (i := 0) v_net_law_rows_here) pe_int (fun _ _ => rfl)) (pa_cons (pe_ix (kix K) (kv (i := 0) v_net_law_rows_here) pe_int (fun _ _ => rfl)) pa_nil))))) (pk_cons (kv (i := 2) v_net_law_own) pk_nil)))) pss_nil)
      (pss_one (ps_ret (kpe_makeSK (E := E0) T.mk_Net (ok_Net_init T) (hr.mono (by first | decide | omega)) g_net_Net T.m_Net (pa_cons (pe_ix (kix K) (kv (i := 0) v_net_law_rows_here) pe_int (fun _ _ => rfl)) (pa_cons (pe_ix (kix K) (kv (i := 0) v_net_law_rows_here) pe_int (fun _ _ => rfl)) (pa_cons (pe_ix (kix K) (kv (i := 0) v_net_law_rows_here) pe_int (fun _ _ => rfl)) (pa_cons (pe_ix (kix K) (kv (i := 0) v_net_law_rows_here) pe_int (fun _ _ => rfl)) (pa_cons (pe_ix (kix K) (kv (i := 0) v_net_law_rows_here) pe_int (fun _ _ => rfl)) (pa_cons (pe_ix (kix K) (kv (i := 0) v_net_law_rows_here) pe_int (fun _ _ => rfl)) pa_nil)))))) (pk_cons (kv (i := 2) v_net_law_own) pk_nil)))))))))), ?_⟩
    walk_at "ss"
    refine ⟨F, fa, p, hFH, rfl, hp, op, by omega, fun ra H1 s1 hra => ?_⟩
    have hL1 := hL.up s1
    have hL2 := hL1.hl
    have fin := fun (vs : List V) (hv : vs = kn.map fun z => V.ref z.1) => net_fin (E := E0) (Q := Q) hra hL1.rt ok hv fun r H' s' hN => k r H' (s1.trans s') hN
    obtain _ | ⟨z0, _ | ⟨z1, _ | ⟨z2, _ | ⟨z3, _ | ⟨z4, _ | ⟨z5, _ | ⟨z6, r7⟩⟩⟩⟩⟩⟩⟩ := kn
    · exact absurd hl.1 (by decide)
    · walk_at "ss"
      refine k_dt (by simp) ?_
      walk_at "ss"
      refine k_makeSK ?_
      walk_at "ss"
      exact fin _ rfl
    · walk_at "ss"
      refine k_df (by simp) ?_
      walk_at "ss"
      refine k_dt (by simp) ?_
      walk_at "ss"
      refine k_makeSK ?_
      walk_at "ss"
      exact fin _ rfl
    · walk_at "ss"
      refine k_df (by simp) ?_
      walk_at "ss"
      refine k_df (by simp) ?_
      walk_at "ss"
      refine k_dt (by simp) ?_
      walk_at "ss"
      refine k_makeSK ?_
      walk_at "ss"
      exact fin _ rfl
    · walk_at "ss"
      refine k_df (by simp) ?_
      walk_at "ss"
      refine k_df (by simp) ?_
      walk_at "ss"
      refine k_df (by simp) ?_
      walk_at "ss"
      refine k_dt (by simp) ?_
      walk_at "ss"
      refine k_makeSK ?_
      walk_at "ss"
      exact fin _ rfl
    · walk_at "ss"
      refine k_df (by simp) ?_
      walk_at "ss"
      refine k_df (by simp) ?_
      walk_at "ss"
      refine k_df (by simp) ?_
      walk_at "ss"
      refine k_df (by simp) ?_
      walk_at "ss"
      refine k_dt (by simp) ?_
      walk_at "ss"
      refine k_makeSK ?_
      walk_at "ss"
      exact fin _ rfl
    · walk_at "ss"
      refine k_df (by simp) ?_
      walk_at "ss"
      refine k_df (by simp) ?_
      walk_at "ss"
      refine k_df (by simp) ?_
      walk_at "ss"
      refine k_df (by simp) ?_
      walk_at "ss"
      refine k_df (by simp) ?_
      walk_at "ss"
      refine k_makeSK ?_
      walk_at "ss"
      exact fin _ rfl
    · exact absurd hl.2 (by simp)
end

section
variable {w : World} {K : PySem.W.Frag} {mg : Str → Option Value} {base : Heap}
abbrev DL := List (Addr × (Addr × Rw) × Int)
def DemT (H : Hp) (kn : RL) (dl : DL) : Prop := ∀ d ∈ dl, d.2.1 ∈ kn ∧ H d.1 = some (.tup [.str d.2.1.2.n, .int d.2.2])
theorem DemT.fb {b C : Addr} {H H' : Hp} {kn : RL} {dl : DL} (h : DemT H kn dl) (f : Fb b C H H') (B : BoxAt H b C) : DemT H' kn dl := fun d hd => ⟨(h d hd).1, f.tup B (h d hd).2⟩
theorem RowsL.fb {b C L : Addr} {H H' : Hp} {kn : RL} (h : RowsL H L kn) (f : Fb b C H H') (B : BoxAt H b C) (n1 : L ≠ b) (n2 : L ≠ C) : RowsL H' L kn := ⟨f _ _ n1 n2 h.hl, h.rt.fb f B⟩
def spChain (K : PySem.W.Frag) : Sp := fun vs H Q _ => ∃ (b C L fa : Addr) (p : Plan) (kn : RL), vs = [.ref b, .ref L, .ref fa] ∧ BoxAt H b C ∧ L ≠ b ∧ L ≠ C ∧ RowsL H L kn ∧ RowsOk kn ∧ PlanAt H fa p ∧ p.Ok ∧ p.forms ≤ 3 ∧
  ∀ (D : Addr) (dl : DL) (H' : Hp), Fb b C H H' → BoxAt H' b C → H' D = some (.lst (dl.map fun d => .ref d.1)) → DemT H' kn dl → dl.length = 6 → Q (.ref D) H'
theorem ok_chain (T : Tx K mg) : FnOk P w K mg base CX0 6 T.a_chain T.fd_chain P_chain (spChain K) := by
  refine T.F_chain.ok sc_chain (fun vs H Q E h => ?_) (fun cdv A outer s H vs Q E hr h => ?_)
  · obtain ⟨b, C, L, fa, p, kn, rfl, _⟩ := h
    rfl
  · obtain ⟨b, C, L, fa, p, kn, rfl, B, nLb, nLC, hL, ok, hp, op, hf, k⟩ := h
    have nd := sc_chain.nd
    have hl := ok.len
    refine ⟨_, (pss_cons (ks_setL (i := 3) nd l_chain_law_room pe_int)
      (kss_meet (ps_if (pt_cmpR op_eq (pe_call (ok_take T) (hr.mono (by first | decide | omega)) g_chain_law_take T.m_take T.k_take T.b_take .nil pass0 (pa_cons (kv (i := 0) v_chain_law_box_here) (pa_cons pe_int pa_nil))) pe_int (nomark _)) (pss_one (ks_setL (i := 3) nd l_chain_law_room pe_int)) pss_nil)
      (pss_cons (ks_setL (i := 4) nd l_chain_law_demands (pe_lst (pa_cons (pe_tup (pa_cons (pe_ix (kix K) (pe_ix (kix K) (kv (i := 1) v_chain_law_rows_here) (pe_call (ok_take T) (hr.mono (by first | decide | omega)) g_chain_law_take T.m_take T.k_take T.b_take .nil pass0 (pa_cons (kv (i := 0) v_chain_law_box_here) (pa_cons (kcB b_len (by decide) (by decide) (kc_len K) g_chain_len T.n_len (pa_cons (kv (i := 1) v_chain_law_rows_here) pa_nil)) pa_nil))) (fun _ _ => rfl)) pe_int (fun _ _ => rfl)) (pa_cons (pe_call (ok_take T) (hr.mono (by first | decide | omega)) g_chain_law_take T.m_take T.k_take T.b_take .nil pass0 (pa_cons (kv (i := 0) v_chain_law_box_here) (pa_cons (kv (i := 3) v_chain_law_room) pa_nil))) pa_nil))) pa_nil)))
      (pss_cons (ps_for PassesOwn.never rfl (pi_range1 g_chain_range T.n_range (pa_cons pe_int pa_nil)) (kgL (i := 5) nd l_chain_law_k) (pss_cons (ks_setL (i := 6) nd l_chain_law_one (pe_ix (kix K) (kv (i := 4) v_chain_law_demands) (pe_op op_sub (pe_op op_sub (kcB b_len (by decide) (by decide) (kc_len K) g_chain_len T.n_len (pa_cons (kv (i := 4) v_chain_law_demands) pa_nil)) pe_int) (pe_op op_mul (pe_call (ok_take T) (hr.mono (by first | decide | omega)) g_chain_law_take T.m_take T.k_take T.b_take .nil pass0 (pa_cons (kv (i := 0) v_chain_law_box_here) (pa_cons pe_int pa_nil))) (pe_call (ok_take T) (hr.mono (by first | decide | omega)) g_chain_law_take T.m_take T.k_take T.b_take .nil pass0 (pa_cons (kv (i := 0) v_chain_law_box_here) (pa_cons (kcB b_len (by decide) (by decide) (kc_len K) g_chain_len T.n_len (pa_cons (kv (i := 4) v_chain_law_demands) pa_nil)) pa_nil))))) (fun _ _ => rfl)))
      (pss_cons (ks_setL (i := 7) nd l_chain_law_spot (pe_ix (kix K) (kv (i := 1) v_chain_law_rows_here) (pe_call (ok_take T) (hr.mono (by first | decide | omega)) g_chain_law_take T.m_take T.k_take T.b_take .nil pass0 (pa_cons (kv (i := 0) v_chain_law_box_here) (pa_cons (kcB b_len (by decide) (by decide) (kc_len K) g_chain_len T.n_len (pa_cons (kv (i := 1) v_chain_law_rows_here) pa_nil)) pa_nil))) (fun _ _ => rfl)))
      (pss_cons (ks_setL (i := 8) nd l_chain_law_edge (pe_op kop_add (pe_op kop_add (pe_ix (kix K) (kv (i := 7) v_chain_law_spot) pe_int (fun _ _ => rfl)) (pe_call (ok_need T) (hr.mono (by first | decide | omega)) g_chain_law_need T.m_need T.k_need T.b_need .nil pass0 (pa_cons (kv (i := 1) v_chain_law_rows_here) (pa_cons (kv (i := 2) v_chain_law_form_here) (pa_cons (kv (i := 6) v_chain_law_one) (pa_cons (pe_ix (kix K) (kv (i := 7) v_chain_law_spot) pe_int (fun _ _ => rfl)) pa_nil)))))) pe_int))
      (pss_one (ps_expr (pe_bm PySem.F.plainAttrs_list PySem.F.slot_list_append PySem.F.type_list_append mt_append (kv (i := 4) v_chain_law_demands) (pa_cons (pe_tup (pa_cons (pe_ix (kix K) (kv (i := 7) v_chain_law_spot) pe_int (fun _ _ => rfl)) (pa_cons (kcB b_min (by decide) (by decide) (kc_min2 rfl) g_chain_min T.n_min (pa_cons pe_int (pa_cons (kcB b_max (by decide) (by decide) (kc_max2 rfl) g_chain_max T.n_max (pa_cons pe_int (pa_cons (pe_op op_sub (pe_op kop_add (kv (i := 8) v_chain_law_edge) (pe_call (ok_take T) (hr.mono (by first | decide | omega)) g_chain_law_take T.m_take T.k_take T.b_take .nil pass0 (pa_cons (kv (i := 0) v_chain_law_box_here) (pa_cons pe_int pa_nil)))) pe_int) pa_nil))) pa_nil))) pa_nil))) pa_nil))))))))
      (pss_one (ps_ret (kv (i := 4) v_chain_law_demands))))))), ?_⟩
    walk_at "ss"
    refine k_meet (fun σ H' => ∃ rm : Int, σ = [some (.ref b), some (.ref L), some (.ref fa), some (.int rm), none, none, none, none, none] ∧ (rm = 61 ∨ rm = 90000) ∧ Fb b C H H' ∧ BoxAt H' b C) ?_ ?_
    · walk_at "ss"
      refine k_take B (by omega) (by omega) fun d H1 d0 d1 f1 B1 => ?_
      walk_at "ss"
      refine k_d (fun h => ?_) (fun h => ?_)
      · walk_at "ss"
        exact ⟨_, rfl, .inr rfl, f1, B1⟩
      · walk_at "ss"
        exact ⟨_, rfl, .inl rfl, f1, B1⟩
    · rintro σ H1 ⟨rm, rfl, hrm, f1, B1⟩
      have hrm0 : 0 < rm ∧ rm < 2 ^ 30 := by rcases hrm with rfl | rfl <;> omega
      have hL1 := hL.fb f1 B nLb nLC
      have hl1 := hL1.hl
      walk_at "ss"
      refine k_take B1 (by rw [List.length_map]; omega) (by rw [List.length_map]; omega) fun d H2 d0 d1 f2 B2 => ?_
      have hL2 := hL1.fb f2 B1 nLb nLC
      have hl2 := hL2.hl
      obtain ⟨v, hv, hmem⟩ := at_mem' (xs := kn.map fun z => V.ref z.1) d0 d1
      obtain ⟨z, hz, rfl⟩ := List.mem_map.mp hmem
      have hrow := hL2.rt _ hz
      walk_at "ss"
      refine k_take B2 hrm0.1 hrm0.2 fun t0 H3 t00 t01 f3 B3 => ?_
      walk_at "ss"
      intro tt ntt
      generalize eH : upd H3 tt _ = H4
      have s4 := upd_sm eH ntt
      have htt4 := upd_at eH
      clear eH
      have B4 := B3.up s4
      have f04 := ((f1.trans f2).trans f3).trans (.same s4)
      walk_at "ss"
      intro D nD
      generalize eH : upd H4 D _ = H5
      have s5 := upd_sm eH nD
      have hD5 := upd_at eH
      clear eH
      have B5 := B4.up s5
      have f05 := f04.trans (.same s5)
      obtain ⟨nDH, nDb, nDC⟩ := f04.new B B4 nD
      walk_at "ss"
      refine k_r1 (by omega) ?_
      refine k_forRange (fun i σ H' => ∃ (v5 v6 v7 v8 : Option V) (dl : DL), σ = [some (.ref b), some (.ref L), some (.ref fa), some (.int rm), some (.ref D), v5, v6, v7, v8] ∧ Fb b C H H' ∧ BoxAt H' b C ∧ H' D = some (.lst (dl.map fun d => .ref d.1)) ∧ DemT H' kn dl ∧ dl.length = i + 1) ⟨none, none, none, none, [(tt, z, t0)], rfl, f05, B5, hD5, fun d hd => ?_, rfl⟩ ?_ ?_
      · rw [List.mem_singleton.mp hd]
        exact ⟨hz, s5 _ _ htt4⟩
      · rintro i σ H6 hi ⟨v5, v6, v7, v8, dl, rfl, f6, B6, hD6, hT6, hdl⟩
        have hi5 : i < 5 := hi
        walk_at "ss"
        refine k_take B6 (by omega) (by omega) fun c1 H7 c10 c11 f7 B7 => ?_
        have hD7 := f7 _ _ nDb nDC hD6
        walk_at "ss"
        refine k_take B7 (by rw [List.length_map]; omega) (by rw [List.length_map]; omega) fun c2 H8 c20 c21 f8 B8 => ?_
        have hD8 := f8 _ _ nDb nDC hD7
        have hT8 := (hT6.fb f7 B6).fb f8 B7
        have f08 := (f6.trans f7).trans f8
        have hcc : 0 ≤ c1 * c2 ∧ c1 * c2 ≤ c2 := by
          have : c1 = 0 ∨ c1 = 1 := by omega
          rcases this with rfl | rfl
          · rw [Int.zero_mul]; omega
          · rw [Int.one_mul]; omega
        obtain ⟨v, hv, hmem⟩ := at_mem' (xs := dl.map fun d => V.ref d.1) (d := ((dl.map fun d => V.ref d.1).length : Int) - 1 - c1 * c2) (by omega) (by omega)
        obtain ⟨y, hy, rfl⟩ := List.mem_map.mp hmem
        have hL8 := hL.fb f08 B nLb nLC
        have hl8 := hL8.hl
        walk_at "ss"
        refine k_take B8 (by rw [List.length_map]; omega) (by rw [List.length_map]; omega) fun d9 H9 d90 d91 f9 B9 => ?_
        have hL9 := hL8.fb f9 B8 nLb nLC
        have hl9 := hL9.hl
        obtain ⟨v, hv9, hmem9⟩ := at_mem' (xs := kn.map fun z => V.ref z.1) d90 d91
        obtain ⟨z9, hz9, rfl⟩ := List.mem_map.mp hmem9
        have hrow9 := hL9.rt _ hz9
        have hT9 := hT8.fb f9 B8
        have f09 := f08.trans f9
        walk_at "ss"
        refine ⟨L, fa, y.1, p, kn, y.2.1, z9, y.2.2, rfl, hL9, ok, f09.plan B hp, op, hf, (hT9 y hy).1, hz9, (hT9 y hy).2, fun kk H10 s10 _ => ?_⟩
        have B10 := B9.up s10
        have hrow10 := s10 _ _ hrow9
        have hD10 := s10 _ _ (f9 _ _ nDb nDC hD8)
        have hT10 := hT9.fb (Fb.same s10) B9
        walk_at "ss"
        refine k_bm ?_
        walk_at "ss"
        refine ⟨.inl ⟨rfl, _, SqL.of hD10⟩, ?_⟩
        walk_at "ss"
        refine k_take B10 (by omega) (by omega) fun d11 H11 _ _ f11 B11 => ?_
        have hD11 := f11 _ _ nDb nDC hD10
        have hT11 := hT10.fb f11 B10
        walk_at "ss"
        intro t2 nt2
        generalize eH : upd H11 t2 _ = H12
        have s12 := upd_sm eH nt2
        have ht12 := upd_at eH
        clear eH
        have hD12 := s12 _ _ hD11
        obtain ⟨tv, htv⟩ : ∃ tv : Int, H12 t2 = some (.tup [.str z9.2.n, .int tv]) := ⟨_, ht12⟩
        walk_at "ss"
        refine k_app hD12 (by rw [List.length_map]; omega) ?_
        refine ⟨_, _, _, _, dl ++ [(t2, z9, tv)], rfl, (((f09.trans (.same s10)).trans f11).trans (.same s12)).upd nDH, (B11.up s12).upd nDb nDC, by rw [upd_same, List.map_append]; rfl, fun d hd => ?_, by rw [List.length_append, hdl]; rfl⟩
        rcases List.mem_append.mp hd with h | h
        · refine ⟨(hT11 d h).1, ?_⟩
          have h2 := s12 _ _ (hT11 d h).2
          rw [upd_ne (ne_of h2 hD12 (by intro z; cases z))]
          exact h2
        · rw [List.mem_singleton.mp h]
          refine ⟨hz9, ?_⟩
          rw [upd_ne (ne_of htv hD12 (by intro z; cases z))]
          exact htv
      · rintro σ H6 ⟨v5, v6, v7, v8, dl, rfl, f6, B6, hD6, hT6, hdl⟩
        walk_at "ss"
        exact k D dl H6 f6 B6 hD6 hT6 hdl
end

section
variable {w : World} {K : PySem.W.Frag} {mg : Str → Option Value} {base : Heap}
theorem b_repr : bootBuiltins "repr" = some (.builtin "repr") := by decide +kernel
theorem un_of {k : Nat} {A : Around} (r : Room k A) : A.units + 64 < cLine := by
  have := r.un
  omega
def minL : List Int → Int
  | [] => 0
  | x :: l => l.foldl (fun a b => if b < a then b else a) x
theorem min_fold : ∀ (l pre : List Int) (a : Int), IsMin a pre → IsMin (l.foldl (fun a b => if b < a then b else a) a) (pre ++ l)
  | [], pre, a, h => by rw [List.append_nil]; exact h
  | b :: l, pre, a, h => by
    have := min_fold l (pre ++ [b]) _ (min_snoc (v := b) h)
    rw [List.append_assoc] at this
    exact this
theorem min_is {l : List Int} (h : l ≠ []) : IsMin (minL l) l := by
  cases l with
  | nil => exact absurd rfl h
  | cons x l => exact min_fold l [x] x ⟨List.mem_singleton.mpr rfl, fun y hy => by rw [List.mem_singleton.mp hy]; exact Int.le_refl _⟩
def kapV (R : List Rw) (x o : Str) : Int := minL ((up R x).map fun s => base1 R s o)
theorem kap_is (R : List Rw) (x o : Str) : IsMin (kapV R x o) ((up R x).map fun s => base1 R s o) := by
  refine min_is fun e => ?_
  have := up_self R x
  rw [List.map_eq_nil_iff.mp e] at this
  cases this
abbrev Dm := Addr × (Addr × Rw) × Int
def lv (R : List Rw) (p : Plan) (d e : Dm) : Bool := decide (p.at (d.2.2 + d.2.1.2.er) + kapV R d.2.1.2.n e.2.1.2.n < e.2.2 - e.2.1.2.er)
theorem lv_iff {kn : RL} (ok : RowsOk kn) {p : Plan} {d e : Dm} (hd : d.2.1 ∈ kn) (he : e.2.1 ∈ kn) : lv (revR kn) p d e = true ↔ leadV (revR kn) p (kapV (revR kn) d.2.1.2.n e.2.1.2.n) (d.2.1.2.n, d.2.2) (e.2.1.2.n, e.2.2) := by
  unfold lv leadV
  rw [decide_eq_true_iff, err_of ok hd, err_of ok he]
theorem lv_irr {kn : RL} (ok : RowsOk kn) {p : Plan} (op : p.Ok) {d : Dm} (hd : d.2.1 ∈ kn) : lv (revR kn) p d d = false := by
  cases h : lv (revR kn) p d d with
  | false => rfl
  | true => exact absurd ((lv_iff ok hd hd).mp h) (lead_irr ok.wf op (kap_is _ _ _))
theorem lv_trans {kn : RL} (ok : RowsOk kn) {p : Plan} (op : p.Ok) {d e f : Dm} (hd : d.2.1 ∈ kn) (he : e.2.1 ∈ kn) (hf : f.2.1 ∈ kn) (h1 : lv (revR kn) p d e = true) (h2 : lv (revR kn) p e f = true) : lv (revR kn) p d f = true :=
  (lv_iff ok hd hf).mpr (lead_trans ok.wf op (row_in hd) (row_in he) (row_in hf) (kap_is _ _ _) (kap_is _ _ _) (kap_is _ _ _) ((lv_iff ok hd he).mp h1) ((lv_iff ok he hf).mp h2))
theorem dp_bools {K : PySem.W.Frag} {H : Hp} {a : Addr} {bs : List Bool} (h : H a = some (.lst (bs.map V.bl))) (h6 : bs.length = 6) : Dp K H (.ref a) (.list (bs.map .bool)) ∧ (PyData.list (bs.map .bool)).showable = true ∧ (PyData.list (bs.map .bool)).hasDict = false ∧ (PyData.list (bs.map .bool)).depth ≤ 8 ∧ (PyData.list (bs.map .bool)).shown.length ≤ 1000000 := by
  have hd : ∀ bs : List Bool, DpAll K H (bs.map V.bl) (bs.map .bool) := by
    intro bs
    induction bs with
    | nil => exact .nil
    | cons b bs ih => exact .cons (.bl b) ih
  obtain _ | ⟨b0, _ | ⟨b1, _ | ⟨b2, _ | ⟨b3, _ | ⟨b4, _ | ⟨b5, _ | ⟨b6, r⟩⟩⟩⟩⟩⟩⟩ := bs
  · exact absurd h6 (by simp)
  · exact absurd h6 (by simp)
  · exact absurd h6 (by simp)
  · exact absurd h6 (by simp)
  · exact absurd h6 (by simp)
  · exact absurd h6 (by simp)
  · refine ⟨.lst (SqL.of h) (hd _), rfl, rfl, Nat.le_of_ble_eq_true rfl, ?_⟩
    have h1 := PyData.shown_le_bulk 8 (by decide) (.list ([b0, b1, b2, b3, b4, b5].map .bool)) (by rfl)
    have e : PyData.bulk (.list ([b0, b1, b2, b3, b4, b5].map .bool)) = 6 + 6 * PyData.bulk (.bool b0) := by rfl
    have e2 : PyData.bulk (.bool b0) = 0 ∨ PyData.bulk (.bool b0) = 1 := by first | exact .inl rfl | exact .inr rfl
    omega
  · exact absurd h6 (by simp)
end

section
variable {w : World} {K : PySem.W.Frag} {mg : Str → Option Value} {base : Heap}
def spLaw (K : PySem.W.Frag) : Sp := fun vs H Q _ => ∃ (a : Addr) (ns : List Int), vs = [.ref a] ∧ SqL K H a (ns.map V.int) ∧ ns.length ≤ 63 ∧ ∀ H', Q (.bl true) H'
theorem map_dref_at {dl : DL} {i : Nat} {x : V} (h : (dl.map fun d => V.ref d.1)[i]? = some x) : ∃ d, dl[i]? = some d ∧ x = .ref d.1 := by
  rw [List.getElem?_map] at h
  cases hh : dl[i]? with
  | none => rw [hh] at h; cases h
  | some z => rw [hh] at h; cases h; exact ⟨z, rfl, rfl⟩
theorem k_callK {sp : Sp} {gV : List V → List V → List V} {E : XK} {t tk : TA} {σ : L2.St} {H : Hp} {Q : VK} (h : t σ H fun vs H1 => tk σ H1 fun zs H2 => sp (gV vs zs) H2 Q E) : tCallK sp gV E t tk σ H Q := h
theorem RestAt.fb {T : Tx K mg} {H H' : Hp} {b C : Addr} (f : Fb b C H H') (B : BoxAt H b C) : ∀ {a : Addr} {p : Plan}, RestAt T (fun x => x = b ∨ x = C) H a p → RestAt T (fun x => x = b ∨ x = C) H' a p := by
  obtain ⟨⟨_, _, _, hb, _⟩, ⟨_, hC, _⟩, _⟩ := B
  intro a p h
  induction h with
  | win h ht => exact .win (f _ _ (ne_of h hb (by intro z; cases z)) (ne_of h hC (by intro z; cases z)) h) ht
  | days h hl ht hF => exact .days (f _ _ (ne_of h hb (by intro z; cases z)) (ne_of h hC (by intro z; cases z)) h) (f _ _ (fun e => hF (.inl e)) (fun e => hF (.inr e)) hl) ht hF
  | op h h1 h2 ht i1 i2 => exact .op (f _ _ (ne_of h hb (by intro z; cases z)) (ne_of h hC (by intro z; cases z)) h) i1 i2 ht
theorem NetAt.fb {T : Tx K mg} {H H' : Hp} {b C r : Addr} {p : Plan} {kn : RL} (h : NetAt T (fun x => x = b ∨ x = C) H r p kn) (f : Fb b C H H') (B : BoxAt H b C) : NetAt T (fun x => x = b ∨ x = C) H' r p kn := by
  obtain ⟨⟨dx, ra, dk, D, Bk, M, h1, h2, h3, h4, h5, h6, h7⟩⟩ := h
  have h2' := RestAt.fb f B h2
  have h4' := h4.fb f B
  obtain ⟨⟨_, _, _, hb, _⟩, ⟨_, hC, _⟩, _⟩ := B
  refine ⟨⟨dx, ra, dk, D, Bk, M, f _ _ (ne_of h1 hb (by intro z; cases z)) (ne_of h1 hC (by intro z; cases z)) h1, h2', f _ _ (ne_of h3 hb (by intro z; cases z)) (ne_of h3 hC (by intro z; cases z)) h3, h4', h5, f _ _ (ne_of h6 hb (by intro z; cases z)) (ne_of h6 hC (by intro z; cases z)) h6, fun z hz => ?_⟩⟩
  obtain ⟨L2, e1, e2, e3⟩ := h7 z hz
  refine ⟨L2, f _ _ (ne_of e1 hb (by intro z; cases z)) (ne_of e1 hC (by intro z; cases z)) e1, e2, fun q hq => ?_⟩
  obtain ⟨k, s, e4, e5⟩ := e3 q hq
  exact ⟨k, s, f _ _ (ne_of e4 hb (by intro z; cases z)) (ne_of e4 hC (by intro z; cases z)) e4, e5⟩
theorem ok_law (T : Tx K mg) : FnG P w K mg base 20 T.a_law T.fd_law P_law (spLaw K) := by
  refine fun_okG T.F_law sc_law (fun vs H Q E h => ?_) (fun cdv A outer s H vs Q E hgd hr h => ?_)
  · obtain ⟨a, ns, rfl, _⟩ := h
    rfl
  · obtain ⟨a, ns, rfl, ha, hl63, kq⟩ := h
    have nd := sc_law.nd
    refine ⟨_, (pss_cons (ks_setL (i := 1) nd l_law_law_box_here (pe_call (ok_box T) (hr.mono (by first | decide | omega)) g_law_law_box T.m_box T.k_box T.b_box .nil pass0 (pa_cons (kv (i := 0) v_law_law_script) pa_nil)))
      (pss_cons (ks_setC (i := 2) nd c_law_law_rows_here (pe_call (ok_rows T) (hr.mono (by first | decide | omega)) g_law_law_rows T.m_rows T.k_rows T.b_rows .nil pass0 (pa_cons (kv (i := 1) v_law_law_box_here) (pa_cons (pe_op kop_add pe_int (pe_call (ok_take T) (hr.mono (by first | decide | omega)) g_law_law_take T.m_take T.k_take T.b_take .nil pass0 (pa_cons (kv (i := 1) v_law_law_box_here) (pa_cons pe_int pa_nil)))) (pa_cons pe_int (pa_cons pe_int pa_nil))))))
      (pss_cons (ks_setC (i := 3) nd c_law_law_form_here (pe_call (ok_form T) (hr.mono (by first | decide | omega)) g_law_law_form T.m_form T.k_form T.b_form .nil pass0 (pa_cons (kv (i := 1) v_law_law_box_here) pa_nil)))
      (pss_cons (ks_setC (i := 4) nd c_law_law_net_here (pe_call (ok_net T) (hr.mono (by first | decide | omega)) g_law_law_net T.m_net T.k_net T.b_net .nil pass0 (pa_cons (kv (i := 2) v_law_law_rows_here) (pa_cons (kv (i := 3) v_law_law_form_here) pa_nil))))
      (pss_cons (ks_setL (i := 5) nd l_law_law_demands (pe_call (ok_chain T) (hr.mono (by first | decide | omega)) g_law_law_chain T.m_chain T.k_chain T.b_chain .nil pass0 (pa_cons (kv (i := 1) v_law_law_box_here) (pa_cons (kv (i := 2) v_law_law_rows_here) (pa_cons (kv (i := 3) v_law_law_form_here) pa_nil)))))
      (pss_cons (ks_setL (i := 6) nd l_law_law_told (pe_lst pa_nil))
      (pss_cons (ps_for PassesOwn.never rfl (kpi_list K (kv (i := 5) v_law_law_demands)) (kgC (i := 7) nd c_law_law_one) (pss_cons (ps_setLc (i := 9) (own := [("_law_two", 8)]) rfl nd rfl (locB_ok l_law_law_line_here) (sw_true rfl (locB_ok l_law_law_line_here) rfl (by decide +kernel)) (kpi_list K (kv (i := 5) v_law_law_demands)) ok_cs_law_3 (fun _ _ _ _ _ => (kgL (i := 8) nd l_law_3_law_two)) (fun _ _ _ _ _ => pts_nil) (fun _ _ _ _ _ => (pe_call (ok_leads T) (hr.mono (by first | decide | omega)) g_law_3_leads T.m_leads T.k_leads T.b_leads .nil pass0 (pa_cons (kv (i := 4) v_law_3_law_net_here) (pa_cons (kv (i := 7) v_law_3_law_one) (pa_cons (kv (i := 8) v_law_3_law_two) pa_nil))))))
      (pss_cons (ps_setLc (i := 10) (own := [("_law_two", 8)]) rfl nd rfl (locB_ok l_law_law_again) (sw_true rfl (locB_ok l_law_law_again) rfl (by decide +kernel)) (kpi_list K (kv (i := 5) v_law_law_demands)) ok_cs_law_2 (fun _ _ _ _ _ => (kgL (i := 8) nd l_law_2_law_two)) (fun _ _ _ _ _ => pts_nil) (fun _ _ _ _ _ => (pe_callK (ok_leads T) (hr.mono (by first | decide | omega)) g_law_2_leads T.m_leads T.k_leads T.kbm_leads_demand_other pass0 (pa_cons (kv (i := 4) v_law_2_law_net_here) pa_nil) (pk_cons (kv (i := 7) v_law_2_law_one) (pk_cons (kv (i := 8) v_law_2_law_two) pk_nil)))))
      (pss_cons (ps_setLc (i := 11) (own := [("_law_two", 8)]) rfl nd rfl (locB_ok l_law_law_due) (sw_true rfl (locB_ok l_law_law_due) rfl (by decide +kernel)) (kpi_list K (kv (i := 5) v_law_law_demands)) ok_cs_law_1 (fun _ _ _ _ _ => (kgL (i := 8) nd l_law_1_law_two)) (fun _ _ _ _ _ => pts_nil) (fun _ _ _ _ _ => (pe_call (ok_lleads T) (hr.mono (by first | decide | omega)) g_law_1_law_leads T.m_lleads T.k_lleads T.b_lleads .nil pass0 (pa_cons (kv (i := 2) v_law_1_law_rows_here) (pa_cons (kv (i := 3) v_law_1_law_form_here) (pa_cons (kv (i := 7) v_law_1_law_one) (pa_cons (kv (i := 8) v_law_1_law_two) pa_nil)))))))
      (pss_cons (ps_if (PW.pt (pw_or (pt_cmpR op_ne (kcB b_repr (by decide) (by decide) (kc_reprD K hgd (un_of hr)) g_law_repr T.n_repr (pa_cons (kv (i := 9) v_law_law_line_here) pa_nil)) (kcB b_repr (by decide) (by decide) (kc_reprD K hgd (un_of hr)) g_law_repr T.n_repr (pa_cons (kv (i := 11) v_law_law_due) pa_nil)) (nomark _)) (pw_or1 (pt_cmpR op_ne (kcB b_repr (by decide) (by decide) (kc_reprD K hgd (un_of hr)) g_law_repr T.n_repr (pa_cons (kv (i := 10) v_law_law_again) pa_nil)) (kcB b_repr (by decide) (by decide) (kc_reprD K hgd (un_of hr)) g_law_repr T.n_repr (pa_cons (kv (i := 11) v_law_law_due) pa_nil)) (nomark _))))) (pss_one (ps_ret pe_bl)) pss_nil)
      (pss_one (ps_expr (pe_bm PySem.F.plainAttrs_list PySem.F.slot_list_append PySem.F.type_list_append mt_append (kv (i := 6) v_law_law_told) (pa_cons (kv (i := 9) v_law_law_line_here) pa_nil)))))))))
      (pss_cons (ps_for PassesOwn.never rfl (pi_range1 g_law_range T.n_range (pa_cons pe_int pa_nil)) (kgC (i := 7) nd c_law_law_one) (pss_cons (ps_if (kpt_truth K (pe_ix (kix K) (pe_ix (kix K) (kv (i := 6) v_law_law_told) (kv (i := 7) v_law_law_one) (fun _ _ => rfl)) (kv (i := 7) v_law_law_one) (fun _ _ => rfl))) (pss_one (ps_ret pe_bl)) pss_nil)
      (pss_one (ps_for PassesOwn.never rfl (pi_range1 g_law_range T.n_range (pa_cons pe_int pa_nil)) (kgL (i := 8) nd l_law_law_two) (pss_one (ps_for PassesOwn.never rfl (pi_range1 g_law_range T.n_range (pa_cons pe_int pa_nil)) (kgL (i := 12) nd l_law_law_three) (pss_one (ps_if (PW.pt (pw_and (kpt_truth K (pe_ix (kix K) (pe_ix (kix K) (kv (i := 6) v_law_law_told) (kv (i := 7) v_law_law_one) (fun _ _ => rfl)) (kv (i := 8) v_law_law_two) (fun _ _ => rfl))) (pw_and (kpt_truth K (pe_ix (kix K) (pe_ix (kix K) (kv (i := 6) v_law_law_told) (kv (i := 8) v_law_law_two) (fun _ _ => rfl)) (kv (i := 12) v_law_law_three) (fun _ _ => rfl))) (pw_and1 (pt_not (kpt_truth K (pe_ix (kix K) (pe_ix (kix K) (kv (i := 6) v_law_law_told) (kv (i := 7) v_law_law_one) (fun _ _ => rfl)) (kv (i := 12) v_law_law_three) (fun _ _ => rfl)))))))) (pss_one (ps_ret pe_bl)) pss_nil))))))))
      (pss_one (ps_ret pe_bl)))))))))), ?_⟩
    walk_at "ss"
    refine ⟨a, ns, rfl, ha, fun b C H1 s1 B1 _ _ => ?_⟩
    walk_at "ss"
    refine k_take B1 (by omega) (by omega) fun d H2 d0 d1 f2 B2 => ?_
    walk_at "ss"
    refine ⟨b, C, 1 + d, rfl, by omega, by omega, B2, fun L kn H3 f3 B3 nLb nLC hL3 ok => ?_⟩
    walk_at "ss"
    refine ⟨b, C, rfl, B3, fun fa p H4 hp4 op hpf f4 B4 => ?_⟩
    have hL4 := hL3.fb f4 B3 nLb nLC
    walk_at "ss"
    refine ⟨fun x => x = b ∨ x = C, L, fa, p, kn, rfl, ?_, hL4, ok, hp4, op, hpf, fun r H5 s5 hN5 => ?_⟩
    · obtain ⟨⟨_, _, _, e1, _⟩, ⟨_, e2, _⟩, _⟩ := B4
      rintro x (rfl | rfl)
      · rw [e1]; intro z; cases z
      · rw [e2]; intro z; cases z
    have B5 := B4.up s5
    have hL5 := hL4.up s5
    have hp5 := hp4.up s5
    walk_at "ss"
    refine ⟨b, C, L, fa, p, kn, rfl, B5, nLb, nLC, hL5, ok, hp5, op, hpf, fun D dl H6 f6 B6 hD6 hT6 hdl => ?_⟩
    have hL6 := hL5.fb f6 B5 nLb nLC
    have hp6 := f6.plan B5 hp5
    have hN6 := hN5.fb f6 B5
    walk_at "ss"
    intro told ntold
    have s7 := same_new (o := .lst []) ntold
    have htold7 : upd H6 told (.lst []) told = some (.lst (([] : List Addr).map V.ref)) := upd_same
    have nDt : D ≠ told := ne_of_none hD6 ntold
    generalize upd H6 told (.lst []) = H7 at s7 htold7
    walk_at "ss"
    refine k_iL (SqL.of (s7 _ _ hD6)) ?_
    refine k_forList (dl.map fun d => V.ref d.1) (fun i σ H' => ∃ (v7 v8 v9 v10 v11 v12 : Option V) (ls : List Addr), σ = [some (.ref a), some (.ref b), some (.ref L), some (.ref fa), some (.ref r), some (.ref D), some (.ref told), v7, v8, v9, v10, v11, v12] ∧ Same H6 H' ∧ H' told = some (.lst (ls.map V.ref)) ∧ ls.length = i ∧ told ∉ ls ∧
      ∀ (m : Nat) (l : Addr) (d : Dm), ls[m]? = some l → dl[m]? = some d → H' l = some (.lst ((dl.map (lv (revR kn) p d)).map V.bl))) ⟨none, none, none, none, none, none, [], rfl, s7, htold7, rfl, (fun h => by cases h), fun m l d hm => by cases hm⟩ ?_ ?_ ?_
    · rintro i σ H' _ ⟨v7, v8, v9, v10, v11, v12, ls, _, sm, _⟩
      exact SqL.of (sm _ _ hD6)
    · rintro i x σ H8 hx ⟨v7, v8, v9, v10, v11, v12, ls, rfl, sm, htold, hlen, hnt, hrows⟩
      obtain ⟨d, hd, rfl⟩ := map_dref_at hx
      have hil := (List.getElem?_eq_some_iff.mp hd).1
      have hdm := List.mem_of_getElem? hd
      have hdT := hT6 _ hdm
      walk_at "ss"
      refine k_iL (SqL.of (sm _ _ hD6)) ?_
      intro l1 nl1
      refine k_lcList (dl.map fun d => V.ref d.1) (fun j H' => Same H8 H' ∧ H' l1 = some (.lst (((dl.take j).map (lv (revR kn) p d)).map V.bl))) ⟨same_new nl1, upd_same⟩ ?_ ?_ ?_
      · rintro j H' _ ⟨sn, _⟩
        exact SqL.of (sn _ _ (sm _ _ hD6))
      · rintro j x H' hx ⟨sn, hX⟩
        obtain ⟨e, he, rfl⟩ := map_dref_at hx
        have hjl := (List.getElem?_eq_some_iff.mp he).1
        have heT := hT6 _ (List.mem_of_getElem? he)
        have s6 : Same H6 H' := sm.trans sn
        walk_at "ss"
        refine ⟨rfl, ?_⟩
        walk_at "ss"
        refine ⟨_, r, d.1, e.1, p, kn, d.2.1, e.2.1, d.2.2, e.2.2, rfl, hN6.up s6, ok, op, hdT.1, heT.1, s6 _ _ hdT.2, s6 _ _ heT.2, fun k hk H2 s2 => ?_⟩
        have ek := hk.uniq (kap_is _ _ _)
        subst ek
        walk_at "ss"
        refine ⟨_, s2 _ _ hX, small_lt (by rw [List.length_map, List.length_map, List.length_take]; omega), same_put (sn.trans s2) nl1, ?_⟩
        rw [upd_same, List.take_add_one, he, List.map_append, List.map_append]
        rfl
      rintro H81 ⟨sn1, hl1⟩
      rw [List.length_map, List.take_length] at hl1
      have sm1 : Same H6 H81 := sm.trans sn1
      walk_at "ss"
      refine k_iL (SqL.of (sm1 _ _ hD6)) ?_
      intro l2 nl2
      refine k_lcList (dl.map fun d => V.ref d.1) (fun j H' => Same H81 H' ∧ H' l2 = some (.lst (((dl.take j).map (lv (revR kn) p d)).map V.bl))) ⟨same_new nl2, upd_same⟩ ?_ ?_ ?_
      · rintro j H' _ ⟨sn, _⟩
        exact SqL.of (sn _ _ (sm1 _ _ hD6))
      · rintro j x H' hx ⟨sn, hX⟩
        obtain ⟨e, he, rfl⟩ := map_dref_at hx
        have hjl := (List.getElem?_eq_some_iff.mp he).1
        have heT := hT6 _ (List.mem_of_getElem? he)
        have s6 : Same H6 H' := sm1.trans sn
        walk_at "ss"
        refine ⟨rfl, ?_⟩
        walk_at "ss"
        refine k_callK ?_
        walk_at "ss"
        refine ⟨_, r, d.1, e.1, p, kn, d.2.1, e.2.1, d.2.2, e.2.2, rfl, hN6.up s6, ok, op, hdT.1, heT.1, s6 _ _ hdT.2, s6 _ _ heT.2, fun k hk H2 s2 => ?_⟩
        have ek := hk.uniq (kap_is _ _ _)
        subst ek
        walk_at "ss"
        refine ⟨_, s2 _ _ hX, small_lt (by rw [List.length_map, List.length_map, List.length_take]; omega), same_put (sn.trans s2) nl2, ?_⟩
        rw [upd_same, List.take_add_one, he, List.map_append, List.map_append]
        rfl
      rintro H82 ⟨sn2, hl2⟩
      rw [List.length_map, List.take_length] at hl2
      have sm2 : Same H6 H82 := sm1.trans sn2
      walk_at "ss"
      refine k_iL (SqL.of (sm2 _ _ hD6)) ?_
      intro l3 nl3
      refine k_lcList (dl.map fun d => V.ref d.1) (fun j H' => Same H82 H' ∧ H' l3 = some (.lst (((dl.take j).map (lv (revR kn) p d)).map V.bl))) ⟨same_new nl3, upd_same⟩ ?_ ?_ ?_
      · rintro j H' _ ⟨sn, _⟩
        exact SqL.of (sn _ _ (sm2 _ _ hD6))
      · rintro j x H' hx ⟨sn, hX⟩
        obtain ⟨e, he, rfl⟩ := map_dref_at hx
        have hjl := (List.getElem?_eq_some_iff.mp he).1
        have heT := hT6 _ (List.mem_of_getElem? he)
        have s6 : Same H6 H' := sm2.trans sn
        walk_at "ss"
        refine ⟨rfl, ?_⟩
        walk_at "ss"
        refine ⟨L, fa, d.1, e.1, p, kn, d.2.1, e.2.1, d.2.2, e.2.2, rfl, hL6.up s6, ok, hp6.up s6, op, hpf, hdT.1, heT.1, s6 _ _ hdT.2, s6 _ _ heT.2, fun k H2 s2 hk => ?_⟩
        have ek := hk.uniq (kap_is _ _ _)
        subst ek
        walk_at "ss"
        refine ⟨_, s2 _ _ hX, small_lt (by rw [List.length_map, List.length_map, List.length_take]; omega), same_put (sn.trans s2) nl3, ?_⟩
        rw [upd_same, List.take_add_one, he, List.map_append, List.map_append]
        rfl
      rintro H83 ⟨sn3, hl3⟩
      rw [List.length_map, List.take_length] at hl3
      have sm3 : Same H6 H83 := sm2.trans sn3
      walk_at "ss"
      have h6 : (dl.map (lv (revR kn) p d)).length = 6 := by rw [List.length_map]; exact hdl
      have hl1' := sn3 _ _ (sn2 _ _ hl1)
      have hl2' := sn3 _ _ hl2
      have p1 := dp_bools (K := K) hl1' h6
      have p2 := dp_bools (K := K) hl2' h6
      have p3 := dp_bools (K := K) hl3 h6
      refine ⟨l1, _, rfl, p1.1, p1.2.1, p1.2.2.1, p1.2.2.2.1, p1.2.2.2.2, ?_⟩
      walk_at "ss"
      refine ⟨l3, _, rfl, p3.1, p3.2.1, p3.2.2.1, p3.2.2.2.1, p3.2.2.2.2, ?_⟩
      refine k_neF0 ?_
      walk_at "ss"
      refine ⟨l2, _, rfl, p2.1, p2.2.1, p2.2.2.1, p2.2.2.2.1, p2.2.2.2.2, ?_⟩
      walk_at "ss"
      refine ⟨l3, _, rfl, p3.1, p3.2.1, p3.2.2.1, p3.2.2.2.1, p3.2.2.2.2, ?_⟩
      refine k_neF0 ?_
      walk_at "ss"
      have htold3 := sn3 _ _ (sn2 _ _ (sn1 _ _ htold))
      refine k_bm ?_
      walk_at "ss"
      refine ⟨.inl ⟨rfl, _, SqL.of htold3⟩, ?_⟩
      walk_at "ss"
      refine k_app htold3 (by rw [List.length_map]; omega) ?_
      refine ⟨_, _, _, _, _, _, ls ++ [l1], rfl, same_put sm3 ntold, by rw [upd_same, List.map_append]; rfl, by rw [List.length_append, hlen]; rfl, fun h => ?_, fun m l d' hm hd' => ?_⟩
      · rcases List.mem_append.mp h with h | h
        · exact hnt h
        · exact ne_of_none htold nl1 (List.mem_singleton.mp h)
      · rcases Nat.lt_or_ge m ls.length with hml | hml
        · rw [List.getElem?_append_left hml] at hm
          have := hrows m l d' hm hd'
          rw [upd_ne (fun e : l = told => hnt (e ▸ List.mem_of_getElem? hm))]
          exact sn3 _ _ (sn2 _ _ (sn1 _ _ this))
        · rw [List.getElem?_append_right hml] at hm
          have hm0 : m - ls.length = 0 := by
            have := (List.getElem?_eq_some_iff.mp hm).1
            simp at this
            omega
          rw [hm0] at hm
          have e1 : l1 = l := Option.some.inj hm
          have e2 : m = i := by omega
          rw [e2, hd] at hd'
          have e3 : d = d' := Option.some.inj hd'
          rw [← e1, ← e3, upd_ne (Ne.symm (ne_of_none htold nl1))]
          exact hl1'
    · rintro σ H8 ⟨v7, v8, v9, v10, v11, v12, ls, rfl, sm, htold, hlen, hnt, hrows⟩
      rw [List.length_map, hdl] at hlen
      obtain ⟨g, hg⟩ : ∃ g : Nat → Dm, ∀ j, j < 6 → dl[j]? = some (g j) := by
        obtain ⟨d0, _⟩ : ∃ d0, dl[0]? = some d0 := ⟨_, List.getElem?_eq_getElem (by omega)⟩
        refine ⟨fun j => (dl[j]?).getD d0, fun j hj => ?_⟩
        have h : dl[j]? = some dl[j] := List.getElem?_eq_getElem (by omega)
        show dl[j]? = some ((dl[j]?).getD d0)
        rw [h]
        rfl
      obtain ⟨f, hf⟩ : ∃ f : Nat → Addr, ∀ j, j < 6 → ls[j]? = some (f j) := by
        obtain ⟨d0, _⟩ : ∃ d0, ls[0]? = some d0 := ⟨_, List.getElem?_eq_getElem (by omega)⟩
        refine ⟨fun j => (ls[j]?).getD d0, fun j hj => ?_⟩
        have h : ls[j]? = some ls[j] := List.getElem?_eq_getElem (by omega)
        show ls[j]? = some ((ls[j]?).getD d0)
        rw [h]
        rfl
      have hgm : ∀ j, j < 6 → (g j).2.1 ∈ kn := fun j hj => (hT6 _ (List.mem_of_getElem? (hg j hj))).1
      have c1 : ∀ j : Nat, j < 6 → atI (ls.map V.ref) (0 + (j : Int)) = some (.ref (f j)) := fun j hj => by
        rw [Int.zero_add]
        exact atI_nat (by rw [List.getElem?_map, hf j hj]; rfl)
      have c2 : ∀ j : Nat, j < 6 → H8 (f j) = some (.lst ((dl.map (lv (revR kn) p (g j))).map V.bl)) := fun j hj => hrows j _ _ (hf j hj) (hg j hj)
      have c3 : ∀ i j : Nat, j < 6 → atI ((dl.map (lv (revR kn) p (g i))).map V.bl) (0 + (j : Int)) = some (.bl (lv (revR kn) p (g i) (g j))) := fun i j hj => by
        rw [Int.zero_add]
        exact atI_nat (by rw [List.getElem?_map, List.getElem?_map, hg j hj]; rfl)
      walk_at "ss"
      refine k_r1 (by omega) ?_
      refine k_forRange (fun i σ H' => ∃ (v7 v8 v12 : Option V), σ = [some (.ref a), some (.ref b), some (.ref L), some (.ref fa), some (.ref r), some (.ref D), some (.ref told), v7, v8, v9, v10, v11, v12] ∧ H' = H8) ⟨v7, v8, v12, rfl, rfl⟩ ?_ ?_
      · rintro i σ H8 hi ⟨v7, v8, v12, rfl, rfl⟩
        have hi : i < 6 := hi
        have a1 := c1 i hi
        have a2 := c2 i hi
        have a3 := c3 i i hi
        rw [lv_irr ok op (hgm i hi)] at a3
        walk_at "ss"
        refine k_truU ?_
        walk_at "ss"
        refine ⟨_, rfl, ?_⟩
        walk_at "ss"
        refine k_r1 (by omega) ?_
        refine k_forRange (fun j σ H' => ∃ (v8 v12 : Option V), σ = [some (.ref a), some (.ref b), some (.ref L), some (.ref fa), some (.ref r), some (.ref D), some (.ref told), some (.int (0 + (i : Int))), v8, v9, v10, v11, v12] ∧ H' = H8) ⟨v8, v12, rfl, rfl⟩ ?_ ?_
        · rintro j σ H8 hj ⟨v8, v12, rfl, rfl⟩
          have hj : j < 6 := hj
          walk_at "ss"
          refine k_r1 (by omega) ?_
          refine k_forRange (fun m σ H' => ∃ (v12 : Option V), σ = [some (.ref a), some (.ref b), some (.ref L), some (.ref fa), some (.ref r), some (.ref D), some (.ref told), some (.int (0 + (i : Int))), some (.int (0 + (j : Int))), v9, v10, v11, v12] ∧ H' = H8) ⟨v12, rfl, rfl⟩ ?_ ?_
          · rintro m σ H8 hm ⟨v12, rfl, rfl⟩
            have hm : m < 6 := hm
            have b1 := c1 j hj
            have b2 := c2 j hj
            have b3 := c3 i j hj
            have b4 := c3 j m hm
            have b5 := c3 i m hm
            cases h1 : lv (revR kn) p (g i) (g j) with
            | false =>
              rw [h1] at b3
              walk_at "ss"
              refine k_truU ?_
              walk_at "ss"
              refine ⟨_, rfl, ?_⟩
              walk_at "ss"
              exact ⟨_, rfl, rfl⟩
            | true =>
              rw [h1] at b3
              cases h2 : lv (revR kn) p (g j) (g m) with
              | false =>
                rw [h2] at b4
                walk_at "ss"
                refine k_truU ?_
                walk_at "ss"
                refine ⟨_, rfl, ?_⟩
                walk_at "ss"
                refine k_truU ?_
                walk_at "ss"
                refine ⟨_, rfl, ?_⟩
                walk_at "ss"
                exact ⟨_, rfl, rfl⟩
              | true =>
                rw [h2] at b4
                rw [lv_trans ok op (hgm i hi) (hgm j hj) (hgm m hm) h1 h2] at b5
                walk_at "ss"
                refine k_truU ?_
                walk_at "ss"
                refine ⟨_, rfl, ?_⟩
                walk_at "ss"
                refine k_truU ?_
                walk_at "ss"
                refine ⟨_, rfl, ?_⟩
                walk_at "ss"
                refine k_truU ?_
                walk_at "ss"
                refine ⟨_, rfl, ?_⟩
                walk_at "ss"
                exact ⟨_, rfl, rfl⟩
          · rintro σ _ ⟨v12, rfl, rfl⟩
            walk_at "ss"
            exact ⟨_, _, rfl, rfl⟩
        · rintro σ _ ⟨v8, v12, rfl, rfl⟩
          walk_at "ss"
          exact ⟨_, _, _, rfl, rfl⟩
      · rintro σ _ ⟨v7, v8, v12, rfl, rfl⟩
        walk_at "ss"
        exact kq _
end

def tx_mk {K : PySem.W.Frag} {h : Heap} {mg : Str → Option Value} (X : K.In h) (G : h.Ns mainGlobals mg) {C_Rest : Addr} {C_Window : Addr} {C_Days : Addr} {C_Later : Addr} {C_Sooner : Addr} {C_Next : Addr} {C_Net : Addr} {A_is_number : Addr} {oc_is_number kV_is_number doc_is_number pm_is_number ct_is_number : Value} {od_is_number an_is_number : Option Addr} {sl_is_number : Array (Option Value)} {cdv_is_number : Value} {A_is_name : Addr} {oc_is_name kV_is_name doc_is_name pm_is_name ct_is_name : Value} {od_is_name an_is_name : Option Addr} {sl_is_name : Array (Option Value)} {cdv_is_name : Value} {A_leads : Addr} {oc_leads kV_leads doc_leads pm_leads ct_leads : Value} {od_leads an_leads : Option Addr} {sl_leads : Array (Option Value)} {cdv_leads : Value} {A_Rest_init : Addr} {oc_Rest_init kV_Rest_init doc_Rest_init pm_Rest_init ct_Rest_init : Value} {od_Rest_init an_Rest_init : Option Addr} {sl_Rest_init : Array (Option Value)} {cdv_Rest_init : Value} {A_Rest_call : Addr} {oc_Rest_call kV_Rest_call doc_Rest_call pm_Rest_call ct_Rest_call : Value} {od_Rest_call an_Rest_call : Option Addr} {sl_Rest_call : Array (Option Value)} {cdv_Rest_call : Value} {A_Rest_forms : Addr} {oc_Rest_forms kV_Rest_forms doc_Rest_forms pm_Rest_forms ct_Rest_forms : Value} {od_Rest_forms an_Rest_forms : Option Addr} {sl_Rest_forms : Array (Option Value)} {cdv_Rest_forms : Value} {A_Rest_period : Addr} {oc_Rest_period kV_Rest_period doc_Rest_period pm_Rest_period ct_Rest_period : Value} {od_Rest_period an_Rest_period : Option Addr} {sl_Rest_period : Array (Option Value)} {cdv_Rest_period : Value} {A_Rest_bend : Addr} {oc_Rest_bend kV_Rest_bend doc_Rest_bend pm_Rest_bend ct_Rest_bend : Value} {od_Rest_bend an_Rest_bend : Option Addr} {sl_Rest_bend : Array (Option Value)} {cdv_Rest_bend : Value} {A_Rest_written : Addr} {oc_Rest_written kV_Rest_written doc_Rest_written pm_Rest_written ct_Rest_written : Value} {od_Rest_written an_Rest_written : Option Addr} {sl_Rest_written : Array (Option Value)} {cdv_Rest_written : Value} {A_Window_init : Addr} {oc_Window_init kV_Window_init doc_Window_init pm_Window_init ct_Window_init : Value} {od_Window_init an_Window_init : Option Addr} {sl_Window_init : Array (Option Value)} {cc_Window_init cda_Window_init : Addr} {cl_Window_init ccl_Window_init : Value} {cld_Window_init cdd_Window_init : Option Addr} {csl_Window_init ccs_Window_init : Array (Option Value)} {vs_Window_init : Array Value} {file_Window_init : Str} {tf_Window_init : Tok} {cd_Window_init : PySem.ClassData} {A_Window_after : Addr} {oc_Window_after kV_Window_after doc_Window_after pm_Window_after ct_Window_after : Value} {od_Window_after an_Window_after : Option Addr} {sl_Window_after : Array (Option Value)} {cdv_Window_after : Value} {A_Days_init : Addr} {oc_Days_init kV_Days_init doc_Days_init pm_Days_init ct_Days_init : Value} {od_Days_init an_Days_init : Option Addr} {sl_Days_init : Array (Option Value)} {cc_Days_init cda_Days_init : Addr} {cl_Days_init ccl_Days_init : Value} {cld_Days_init cdd_Days_init : Option Addr} {csl_Days_init ccs_Days_init : Array (Option Value)} {vs_Days_init : Array Value} {file_Days_init : Str} {tf_Days_init : Tok} {cd_Days_init : PySem.ClassData} {A_Days_after : Addr} {oc_Days_after kV_Days_after doc_Days_after pm_Days_after ct_Days_after : Value} {od_Days_after an_Days_after : Option Addr} {sl_Days_after : Array (Option Value)} {cdv_Days_after : Value} {A_joined : Addr} {oc_joined kV_joined doc_joined pm_joined ct_joined : Value} {od_joined an_joined : Option Addr} {sl_joined : Array (Option Value)} {cdv_joined : Value} {A_Later_init : Addr} {oc_Later_init kV_Later_init doc_Later_init pm_Later_init ct_Later_init : Value} {od_Later_init an_Later_init : Option Addr} {sl_Later_init : Array (Option Value)} {cc_Later_init cda_Later_init : Addr} {cl_Later_init ccl_Later_init : Value} {cld_Later_init cdd_Later_init : Option Addr} {csl_Later_init ccs_Later_init : Array (Option Value)} {vs_Later_init : Array Value} {file_Later_init : Str} {tf_Later_init : Tok} {cd_Later_init : PySem.ClassData} {A_Later_after : Addr} {oc_Later_after kV_Later_after doc_Later_after pm_Later_after ct_Later_after : Value} {od_Later_after an_Later_after : Option Addr} {sl_Later_after : Array (Option Value)} {cdv_Later_after : Value} {A_Sooner_init : Addr} {oc_Sooner_init kV_Sooner_init doc_Sooner_init pm_Sooner_init ct_Sooner_init : Value} {od_Sooner_init an_Sooner_init : Option Addr} {sl_Sooner_init : Array (Option Value)} {cc_Sooner_init cda_Sooner_init : Addr} {cl_Sooner_init ccl_Sooner_init : Value} {cld_Sooner_init cdd_Sooner_init : Option Addr} {csl_Sooner_init ccs_Sooner_init : Array (Option Value)} {vs_Sooner_init : Array Value} {file_Sooner_init : Str} {tf_Sooner_init : Tok} {cd_Sooner_init : PySem.ClassData} {A_Sooner_after : Addr} {oc_Sooner_after kV_Sooner_after doc_Sooner_after pm_Sooner_after ct_Sooner_after : Value} {od_Sooner_after an_Sooner_after : Option Addr} {sl_Sooner_after : Array (Option Value)} {cdv_Sooner_after : Value} {A_Next_init : Addr} {oc_Next_init kV_Next_init doc_Next_init pm_Next_init ct_Next_init : Value} {od_Next_init an_Next_init : Option Addr} {sl_Next_init : Array (Option Value)} {cc_Next_init cda_Next_init : Addr} {cl_Next_init ccl_Next_init : Value} {cld_Next_init cdd_Next_init : Option Addr} {csl_Next_init ccs_Next_init : Array (Option Value)} {vs_Next_init : Array Value} {file_Next_init : Str} {tf_Next_init : Tok} {cd_Next_init : PySem.ClassData} {A_Next_after : Addr} {oc_Next_after kV_Next_after doc_Next_after pm_Next_after ct_Next_after : Value} {od_Next_after an_Next_after : Option Addr} {sl_Next_after : Array (Option Value)} {cdv_Next_after : Value} {A_isrow : Addr} {oc_isrow kV_isrow doc_isrow pm_isrow ct_isrow : Value} {od_isrow an_isrow : Option Addr} {sl_isrow : Array (Option Value)} {cdv_isrow : Value} {A_alldists : Addr} {oc_alldists kV_alldists doc_alldists pm_alldists ct_alldists : Value} {od_alldists an_alldists : Option Addr} {sl_alldists : Array (Option Value)} {cdv_alldists : Value} {A_allkappas : Addr} {oc_allkappas kV_allkappas doc_allkappas pm_allkappas ct_allkappas : Value} {od_allkappas an_allkappas : Option Addr} {sl_allkappas : Array (Option Value)} {cdv_allkappas : Value} {A_Net_init : Addr} {oc_Net_init kV_Net_init doc_Net_init pm_Net_init ct_Net_init : Value} {od_Net_init an_Net_init : Option Addr} {sl_Net_init : Array (Option Value)} {cdv_Net_init : Value} {A_Net_row : Addr} {oc_Net_row kV_Net_row doc_Net_row pm_Net_row ct_Net_row : Value} {od_Net_row an_Net_row : Option Addr} {sl_Net_row : Array (Option Value)} {cdv_Net_row : Value} {A_Net_error_of : Addr} {oc_Net_error_of kV_Net_error_of doc_Net_error_of pm_Net_error_of ct_Net_error_of : Value} {od_Net_error_of an_Net_error_of : Option Addr} {sl_Net_error_of : Array (Option Value)} {cdv_Net_error_of : Value} {A_Net_kappa : Addr} {oc_Net_kappa kV_Net_kappa doc_Net_kappa pm_Net_kappa ct_Net_kappa : Value} {od_Net_kappa an_Net_kappa : Option Addr} {sl_Net_kappa : Array (Option Value)} {cdv_Net_kappa : Value} {A_box : Addr} {oc_box kV_box doc_box pm_box ct_box : Value} {od_box an_box : Option Addr} {sl_box : Array (Option Value)} {cdv_box : Value} {A_take : Addr} {oc_take kV_take doc_take pm_take ct_take : Value} {od_take an_take : Option Addr} {sl_take : Array (Option Value)} {cdv_take : Value} {A_plain_form : Addr} {oc_plain_form kV_plain_form doc_plain_form pm_plain_form ct_plain_form : Value} {od_plain_form an_plain_form : Option Addr} {sl_plain_form : Array (Option Value)} {cdv_plain_form : Value} {A_form : Addr} {oc_form kV_form doc_form pm_form ct_form : Value} {od_form an_form : Option Addr} {sl_form : Array (Option Value)} {cdv_form : Value} {A_after : Addr} {oc_after kV_after doc_after pm_after ct_after : Value} {od_after an_after : Option Addr} {sl_after : Array (Option Value)} {cdv_after : Value} {A_made : Addr} {oc_made kV_made doc_made pm_made ct_made : Value} {od_made an_made : Option Addr} {sl_made : Array (Option Value)} {cdv_made : Value} {A_rows : Addr} {oc_rows kV_rows doc_rows pm_rows ct_rows : Value} {od_rows an_rows : Option Addr} {sl_rows : Array (Option Value)} {cdv_rows : Value} {A_net : Addr} {oc_net kV_net doc_net pm_net ct_net : Value} {od_net an_net : Option Addr} {sl_net : Array (Option Value)} {cdv_net : Value} {A_row : Addr} {oc_row kV_row doc_row pm_row ct_row : Value} {od_row an_row : Option Addr} {sl_row : Array (Option Value)} {cdv_row : Value} {A_line : Addr} {oc_line kV_line doc_line pm_line ct_line : Value} {od_line an_line : Option Addr} {sl_line : Array (Option Value)} {cdv_line : Value} {A_far : Addr} {oc_far kV_far doc_far pm_far ct_far : Value} {od_far an_far : Option Addr} {sl_far : Array (Option Value)} {cdv_far : Value} {A_gap : Addr} {oc_gap kV_gap doc_gap pm_gap ct_gap : Value} {od_gap an_gap : Option Addr} {sl_gap : Array (Option Value)} {cdv_gap : Value} {A_need : Addr} {oc_need kV_need doc_need pm_need ct_need : Value} {od_need an_need : Option Addr} {sl_need : Array (Option Value)} {cdv_need : Value} {A_lleads : Addr} {oc_lleads kV_lleads doc_lleads pm_lleads ct_lleads : Value} {od_lleads an_lleads : Option Addr} {sl_lleads : Array (Option Value)} {cdv_lleads : Value} {A_chain : Addr} {oc_chain kV_chain doc_chain pm_chain ct_chain : Value} {od_chain an_chain : Option Addr} {sl_chain : Array (Option Value)} {cdv_chain : Value} {A_law : Addr} {oc_law kV_law doc_law pm_law ct_law : Value} {od_law an_law : Option Addr} {sl_law : Array (Option Value)} {cdv_law : Value} {t_PERIOD : Tok} {t_FORMS : Tok} {t_BORDERS : Tok} {t_LETTERS : Tok} {t_DIGITS : Tok} {t_MOST_ERROR : Tok} {t_MOST_PLACES : Tok}
    (aC_Rest : PySem.W.nsIn K mainGlobals "Rest" = some (some (.ref C_Rest))) (aC_Window : PySem.W.nsIn K mainGlobals "Window" = some (some (.ref C_Window))) (aC_Days : PySem.W.nsIn K mainGlobals "Days" = some (some (.ref C_Days))) (aC_Later : PySem.W.nsIn K mainGlobals "Later" = some (some (.ref C_Later))) (aC_Sooner : PySem.W.nsIn K mainGlobals "Sooner" = some (some (.ref C_Sooner))) (aC_Next : PySem.W.nsIn K mainGlobals "Next" = some (some (.ref C_Next))) (aC_Net : PySem.W.nsIn K mainGlobals "Net" = some (some (.ref C_Net))) (a_is_number : PySem.W.nsIn K mainGlobals "is_number" = some (some (.ref A_is_number))) (l_is_number : K.lookup A_is_number = some ⟨oc_is_number, od_is_number, .func (PySem.W.fnOf "is_number" "is_number" (defArgs s_is_number) (defBody s_is_number) (defScope s_is_number) .none kV_is_number doc_is_number pm_is_number an_is_number cdv_is_number ct_is_number), sl_is_number⟩) (c_is_number : PySem.W.codeIn K cdv_is_number "is_number" = true) (k_is_number : PySem.W.keepIn K (.ref A_is_number) = true) (a_is_name : PySem.W.nsIn K mainGlobals "is_name" = some (some (.ref A_is_name))) (l_is_name : K.lookup A_is_name = some ⟨oc_is_name, od_is_name, .func (PySem.W.fnOf "is_name" "is_name" (defArgs s_is_name) (defBody s_is_name) (defScope s_is_name) .none kV_is_name doc_is_name pm_is_name an_is_name cdv_is_name ct_is_name), sl_is_name⟩) (c_is_name : PySem.W.codeIn K cdv_is_name "is_name" = true) (k_is_name : PySem.W.keepIn K (.ref A_is_name) = true) (a_leads : PySem.W.nsIn K mainGlobals "leads" = some (some (.ref A_leads))) (l_leads : K.lookup A_leads = some ⟨oc_leads, od_leads, .func (PySem.W.fnOf "leads" "leads" (defArgs s_leads) (defBody s_leads) (defScope s_leads) .none kV_leads doc_leads pm_leads an_leads cdv_leads ct_leads), sl_leads⟩) (c_leads : PySem.W.codeIn K cdv_leads "leads" = true) (k_leads : PySem.W.keepIn K (.ref A_leads) = true) (a_Rest_init : PySem.W.findIn K (.ref C_Rest) "__init__" = some (some (.ref A_Rest_init))) (i_Rest_init : PySem.W.isFn K (.ref A_Rest_init) = true) (l_Rest_init : K.lookup A_Rest_init = some ⟨oc_Rest_init, od_Rest_init, .func (PySem.W.fnOf "__init__" "Rest.__init__" (defArgs s_Rest_init) (defBody s_Rest_init) (defScope s_Rest_init) .none kV_Rest_init doc_Rest_init pm_Rest_init an_Rest_init cdv_Rest_init ct_Rest_init), sl_Rest_init⟩) (c_Rest_init : PySem.W.codeIn K cdv_Rest_init "Rest.__init__" = true) (k_Rest_init : PySem.W.keepIn K (.ref A_Rest_init) = true) (a_Rest_call : PySem.W.findIn K (.ref C_Rest) "__call__" = some (some (.ref A_Rest_call))) (i_Rest_call : PySem.W.isFn K (.ref A_Rest_call) = true) (l_Rest_call : K.lookup A_Rest_call = some ⟨oc_Rest_call, od_Rest_call, .func (PySem.W.fnOf "__call__" "Rest.__call__" (defArgs s_Rest_call) (defBody s_Rest_call) (defScope s_Rest_call) .none kV_Rest_call doc_Rest_call pm_Rest_call an_Rest_call cdv_Rest_call ct_Rest_call), sl_Rest_call⟩) (c_Rest_call : PySem.W.codeIn K cdv_Rest_call "Rest.__call__" = true) (k_Rest_call : PySem.W.keepIn K (.ref A_Rest_call) = true) (a_Rest_forms : PySem.W.findIn K (.ref C_Rest) "forms" = some (some (.ref A_Rest_forms))) (i_Rest_forms : PySem.W.isFn K (.ref A_Rest_forms) = true) (l_Rest_forms : K.lookup A_Rest_forms = some ⟨oc_Rest_forms, od_Rest_forms, .func (PySem.W.fnOf "forms" "Rest.forms" (defArgs s_Rest_forms) (defBody s_Rest_forms) (defScope s_Rest_forms) .none kV_Rest_forms doc_Rest_forms pm_Rest_forms an_Rest_forms cdv_Rest_forms ct_Rest_forms), sl_Rest_forms⟩) (c_Rest_forms : PySem.W.codeIn K cdv_Rest_forms "Rest.forms" = true) (k_Rest_forms : PySem.W.keepIn K (.ref A_Rest_forms) = true) (a_Rest_period : PySem.W.findIn K (.ref C_Rest) "period" = some (some (.ref A_Rest_period))) (i_Rest_period : PySem.W.isFn K (.ref A_Rest_period) = true) (l_Rest_period : K.lookup A_Rest_period = some ⟨oc_Rest_period, od_Rest_period, .func (PySem.W.fnOf "period" "Rest.period" (defArgs s_Rest_period) (defBody s_Rest_period) (defScope s_Rest_period) .none kV_Rest_period doc_Rest_period pm_Rest_period an_Rest_period cdv_Rest_period ct_Rest_period), sl_Rest_period⟩) (c_Rest_period : PySem.W.codeIn K cdv_Rest_period "Rest.period" = true) (k_Rest_period : PySem.W.keepIn K (.ref A_Rest_period) = true) (a_Rest_bend : PySem.W.findIn K (.ref C_Rest) "bend" = some (some (.ref A_Rest_bend))) (i_Rest_bend : PySem.W.isFn K (.ref A_Rest_bend) = true) (l_Rest_bend : K.lookup A_Rest_bend = some ⟨oc_Rest_bend, od_Rest_bend, .func (PySem.W.fnOf "bend" "Rest.bend" (defArgs s_Rest_bend) (defBody s_Rest_bend) (defScope s_Rest_bend) .none kV_Rest_bend doc_Rest_bend pm_Rest_bend an_Rest_bend cdv_Rest_bend ct_Rest_bend), sl_Rest_bend⟩) (c_Rest_bend : PySem.W.codeIn K cdv_Rest_bend "Rest.bend" = true) (k_Rest_bend : PySem.W.keepIn K (.ref A_Rest_bend) = true) (a_Rest_written : PySem.W.findIn K (.ref C_Rest) "written" = some (some (.ref A_Rest_written))) (i_Rest_written : PySem.W.isFn K (.ref A_Rest_written) = true) (l_Rest_written : K.lookup A_Rest_written = some ⟨oc_Rest_written, od_Rest_written, .func (PySem.W.fnOf "written" "Rest.written" (defArgs s_Rest_written) (defBody s_Rest_written) (defScope s_Rest_written) .none kV_Rest_written doc_Rest_written pm_Rest_written an_Rest_written cdv_Rest_written ct_Rest_written), sl_Rest_written⟩) (c_Rest_written : PySem.W.codeIn K cdv_Rest_written "Rest.written" = true) (k_Rest_written : PySem.W.keepIn K (.ref A_Rest_written) = true) (a_Window_init : PySem.W.findIn K (.ref C_Window) "__init__" = some (some (.ref A_Window_init))) (i_Window_init : PySem.W.isFn K (.ref A_Window_init) = true) (l_Window_init : K.lookup A_Window_init = some ⟨oc_Window_init, od_Window_init, .func (PySem.W.fnX "__init__" "Window.__init__" (defArgs s_Window_init) (defBody s_Window_init) (defScope s_Window_init) [("__class__", cc_Window_init)] .none kV_Window_init doc_Window_init pm_Window_init an_Window_init (.ref cda_Window_init) ct_Window_init), sl_Window_init⟩) (c_Window_init : PySem.W.codeIn K (.ref cda_Window_init) "Window.__init__" = true) (k_Window_init : PySem.W.keepIn K (.ref A_Window_init) = true) (cell_Window_init : K.lookup cc_Window_init = some ⟨cl_Window_init, cld_Window_init, .cell (some (.ref C_Window)), csl_Window_init⟩) (code_Window_init : K.lookup cda_Window_init = some ⟨ccl_Window_init, cdd_Window_init, .fields vs_Window_init, ccs_Window_init⟩) (vs_Window_init : vs_Window_init[2]? = some (.str file_Window_init tf_Window_init)) (fl_Window_init : ((P.main.file : Str) == file_Window_init) = true) (cd_Window_init : PySem.W.clsIn K C_Window = some cd_Window_init) (a_Window_after : PySem.W.findIn K (.ref C_Window) "_after" = some (some (.ref A_Window_after))) (i_Window_after : PySem.W.isFn K (.ref A_Window_after) = true) (l_Window_after : K.lookup A_Window_after = some ⟨oc_Window_after, od_Window_after, .func (PySem.W.fnOf "_after" "Window._after" (defArgs s_Window_after) (defBody s_Window_after) (defScope s_Window_after) .none kV_Window_after doc_Window_after pm_Window_after an_Window_after cdv_Window_after ct_Window_after), sl_Window_after⟩) (c_Window_after : PySem.W.codeIn K cdv_Window_after "Window._after" = true) (k_Window_after : PySem.W.keepIn K (.ref A_Window_after) = true) (a_Days_init : PySem.W.findIn K (.ref C_Days) "__init__" = some (some (.ref A_Days_init))) (i_Days_init : PySem.W.isFn K (.ref A_Days_init) = true) (l_Days_init : K.lookup A_Days_init = some ⟨oc_Days_init, od_Days_init, .func (PySem.W.fnX "__init__" "Days.__init__" (defArgs s_Days_init) (defBody s_Days_init) (defScope s_Days_init) [("__class__", cc_Days_init)] .none kV_Days_init doc_Days_init pm_Days_init an_Days_init (.ref cda_Days_init) ct_Days_init), sl_Days_init⟩) (c_Days_init : PySem.W.codeIn K (.ref cda_Days_init) "Days.__init__" = true) (k_Days_init : PySem.W.keepIn K (.ref A_Days_init) = true) (cell_Days_init : K.lookup cc_Days_init = some ⟨cl_Days_init, cld_Days_init, .cell (some (.ref C_Days)), csl_Days_init⟩) (code_Days_init : K.lookup cda_Days_init = some ⟨ccl_Days_init, cdd_Days_init, .fields vs_Days_init, ccs_Days_init⟩) (vs_Days_init : vs_Days_init[2]? = some (.str file_Days_init tf_Days_init)) (fl_Days_init : ((P.main.file : Str) == file_Days_init) = true) (cd_Days_init : PySem.W.clsIn K C_Days = some cd_Days_init) (a_Days_after : PySem.W.findIn K (.ref C_Days) "_after" = some (some (.ref A_Days_after))) (i_Days_after : PySem.W.isFn K (.ref A_Days_after) = true) (l_Days_after : K.lookup A_Days_after = some ⟨oc_Days_after, od_Days_after, .func (PySem.W.fnOf "_after" "Days._after" (defArgs s_Days_after) (defBody s_Days_after) (defScope s_Days_after) .none kV_Days_after doc_Days_after pm_Days_after an_Days_after cdv_Days_after ct_Days_after), sl_Days_after⟩) (c_Days_after : PySem.W.codeIn K cdv_Days_after "Days._after" = true) (k_Days_after : PySem.W.keepIn K (.ref A_Days_after) = true) (a_joined : PySem.W.nsIn K mainGlobals "joined" = some (some (.ref A_joined))) (l_joined : K.lookup A_joined = some ⟨oc_joined, od_joined, .func (PySem.W.fnOf "joined" "joined" (defArgs s_joined) (defBody s_joined) (defScope s_joined) .none kV_joined doc_joined pm_joined an_joined cdv_joined ct_joined), sl_joined⟩) (c_joined : PySem.W.codeIn K cdv_joined "joined" = true) (k_joined : PySem.W.keepIn K (.ref A_joined) = true) (a_Later_init : PySem.W.findIn K (.ref C_Later) "__init__" = some (some (.ref A_Later_init))) (i_Later_init : PySem.W.isFn K (.ref A_Later_init) = true) (l_Later_init : K.lookup A_Later_init = some ⟨oc_Later_init, od_Later_init, .func (PySem.W.fnX "__init__" "Later.__init__" (defArgs s_Later_init) (defBody s_Later_init) (defScope s_Later_init) [("__class__", cc_Later_init)] .none kV_Later_init doc_Later_init pm_Later_init an_Later_init (.ref cda_Later_init) ct_Later_init), sl_Later_init⟩) (c_Later_init : PySem.W.codeIn K (.ref cda_Later_init) "Later.__init__" = true) (k_Later_init : PySem.W.keepIn K (.ref A_Later_init) = true) (cell_Later_init : K.lookup cc_Later_init = some ⟨cl_Later_init, cld_Later_init, .cell (some (.ref C_Later)), csl_Later_init⟩) (code_Later_init : K.lookup cda_Later_init = some ⟨ccl_Later_init, cdd_Later_init, .fields vs_Later_init, ccs_Later_init⟩) (vs_Later_init : vs_Later_init[2]? = some (.str file_Later_init tf_Later_init)) (fl_Later_init : ((P.main.file : Str) == file_Later_init) = true) (cd_Later_init : PySem.W.clsIn K C_Later = some cd_Later_init) (a_Later_after : PySem.W.findIn K (.ref C_Later) "_after" = some (some (.ref A_Later_after))) (i_Later_after : PySem.W.isFn K (.ref A_Later_after) = true) (l_Later_after : K.lookup A_Later_after = some ⟨oc_Later_after, od_Later_after, .func (PySem.W.fnOf "_after" "Later._after" (defArgs s_Later_after) (defBody s_Later_after) (defScope s_Later_after) .none kV_Later_after doc_Later_after pm_Later_after an_Later_after cdv_Later_after ct_Later_after), sl_Later_after⟩) (c_Later_after : PySem.W.codeIn K cdv_Later_after "Later._after" = true) (k_Later_after : PySem.W.keepIn K (.ref A_Later_after) = true) (a_Sooner_init : PySem.W.findIn K (.ref C_Sooner) "__init__" = some (some (.ref A_Sooner_init))) (i_Sooner_init : PySem.W.isFn K (.ref A_Sooner_init) = true) (l_Sooner_init : K.lookup A_Sooner_init = some ⟨oc_Sooner_init, od_Sooner_init, .func (PySem.W.fnX "__init__" "Sooner.__init__" (defArgs s_Sooner_init) (defBody s_Sooner_init) (defScope s_Sooner_init) [("__class__", cc_Sooner_init)] .none kV_Sooner_init doc_Sooner_init pm_Sooner_init an_Sooner_init (.ref cda_Sooner_init) ct_Sooner_init), sl_Sooner_init⟩) (c_Sooner_init : PySem.W.codeIn K (.ref cda_Sooner_init) "Sooner.__init__" = true) (k_Sooner_init : PySem.W.keepIn K (.ref A_Sooner_init) = true) (cell_Sooner_init : K.lookup cc_Sooner_init = some ⟨cl_Sooner_init, cld_Sooner_init, .cell (some (.ref C_Sooner)), csl_Sooner_init⟩) (code_Sooner_init : K.lookup cda_Sooner_init = some ⟨ccl_Sooner_init, cdd_Sooner_init, .fields vs_Sooner_init, ccs_Sooner_init⟩) (vs_Sooner_init : vs_Sooner_init[2]? = some (.str file_Sooner_init tf_Sooner_init)) (fl_Sooner_init : ((P.main.file : Str) == file_Sooner_init) = true) (cd_Sooner_init : PySem.W.clsIn K C_Sooner = some cd_Sooner_init) (a_Sooner_after : PySem.W.findIn K (.ref C_Sooner) "_after" = some (some (.ref A_Sooner_after))) (i_Sooner_after : PySem.W.isFn K (.ref A_Sooner_after) = true) (l_Sooner_after : K.lookup A_Sooner_after = some ⟨oc_Sooner_after, od_Sooner_after, .func (PySem.W.fnOf "_after" "Sooner._after" (defArgs s_Sooner_after) (defBody s_Sooner_after) (defScope s_Sooner_after) .none kV_Sooner_after doc_Sooner_after pm_Sooner_after an_Sooner_after cdv_Sooner_after ct_Sooner_after), sl_Sooner_after⟩) (c_Sooner_after : PySem.W.codeIn K cdv_Sooner_after "Sooner._after" = true) (k_Sooner_after : PySem.W.keepIn K (.ref A_Sooner_after) = true) (a_Next_init : PySem.W.findIn K (.ref C_Next) "__init__" = some (some (.ref A_Next_init))) (i_Next_init : PySem.W.isFn K (.ref A_Next_init) = true) (l_Next_init : K.lookup A_Next_init = some ⟨oc_Next_init, od_Next_init, .func (PySem.W.fnX "__init__" "Next.__init__" (defArgs s_Next_init) (defBody s_Next_init) (defScope s_Next_init) [("__class__", cc_Next_init)] .none kV_Next_init doc_Next_init pm_Next_init an_Next_init (.ref cda_Next_init) ct_Next_init), sl_Next_init⟩) (c_Next_init : PySem.W.codeIn K (.ref cda_Next_init) "Next.__init__" = true) (k_Next_init : PySem.W.keepIn K (.ref A_Next_init) = true) (cell_Next_init : K.lookup cc_Next_init = some ⟨cl_Next_init, cld_Next_init, .cell (some (.ref C_Next)), csl_Next_init⟩) (code_Next_init : K.lookup cda_Next_init = some ⟨ccl_Next_init, cdd_Next_init, .fields vs_Next_init, ccs_Next_init⟩) (vs_Next_init : vs_Next_init[2]? = some (.str file_Next_init tf_Next_init)) (fl_Next_init : ((P.main.file : Str) == file_Next_init) = true) (cd_Next_init : PySem.W.clsIn K C_Next = some cd_Next_init) (a_Next_after : PySem.W.findIn K (.ref C_Next) "_after" = some (some (.ref A_Next_after))) (i_Next_after : PySem.W.isFn K (.ref A_Next_after) = true) (l_Next_after : K.lookup A_Next_after = some ⟨oc_Next_after, od_Next_after, .func (PySem.W.fnOf "_after" "Next._after" (defArgs s_Next_after) (defBody s_Next_after) (defScope s_Next_after) .none kV_Next_after doc_Next_after pm_Next_after an_Next_after cdv_Next_after ct_Next_after), sl_Next_after⟩) (c_Next_after : PySem.W.codeIn K cdv_Next_after "Next._after" = true) (k_Next_after : PySem.W.keepIn K (.ref A_Next_after) = true) (a_isrow : PySem.W.nsIn K mainGlobals "_is_row" = some (some (.ref A_isrow))) (l_isrow : K.lookup A_isrow = some ⟨oc_isrow, od_isrow, .func (PySem.W.fnOf "_is_row" "_is_row" (defArgs s_isrow) (defBody s_isrow) (defScope s_isrow) .none kV_isrow doc_isrow pm_isrow an_isrow cdv_isrow ct_isrow), sl_isrow⟩) (c_isrow : PySem.W.codeIn K cdv_isrow "_is_row" = true) (k_isrow : PySem.W.keepIn K (.ref A_isrow) = true) (a_alldists : PySem.W.nsIn K mainGlobals "_all_dists" = some (some (.ref A_alldists))) (l_alldists : K.lookup A_alldists = some ⟨oc_alldists, od_alldists, .func (PySem.W.fnOf "_all_dists" "_all_dists" (defArgs s_alldists) (defBody s_alldists) (defScope s_alldists) .none kV_alldists doc_alldists pm_alldists an_alldists cdv_alldists ct_alldists), sl_alldists⟩) (c_alldists : PySem.W.codeIn K cdv_alldists "_all_dists" = true) (k_alldists : PySem.W.keepIn K (.ref A_alldists) = true) (a_allkappas : PySem.W.nsIn K mainGlobals "_all_kappas" = some (some (.ref A_allkappas))) (l_allkappas : K.lookup A_allkappas = some ⟨oc_allkappas, od_allkappas, .func (PySem.W.fnOf "_all_kappas" "_all_kappas" (defArgs s_allkappas) (defBody s_allkappas) (defScope s_allkappas) .none kV_allkappas doc_allkappas pm_allkappas an_allkappas cdv_allkappas ct_allkappas), sl_allkappas⟩) (c_allkappas : PySem.W.codeIn K cdv_allkappas "_all_kappas" = true) (k_allkappas : PySem.W.keepIn K (.ref A_allkappas) = true) (a_Net_init : PySem.W.findIn K (.ref C_Net) "__init__" = some (some (.ref A_Net_init))) (i_Net_init : PySem.W.isFn K (.ref A_Net_init) = true) (l_Net_init : K.lookup A_Net_init = some ⟨oc_Net_init, od_Net_init, .func (PySem.W.fnOf "__init__" "Net.__init__" (defArgs s_Net_init) (defBody s_Net_init) (defScope s_Net_init) .none kV_Net_init doc_Net_init pm_Net_init an_Net_init cdv_Net_init ct_Net_init), sl_Net_init⟩) (c_Net_init : PySem.W.codeIn K cdv_Net_init "Net.__init__" = true) (k_Net_init : PySem.W.keepIn K (.ref A_Net_init) = true) (a_Net_row : PySem.W.findIn K (.ref C_Net) "_row" = some (some (.ref A_Net_row))) (i_Net_row : PySem.W.isFn K (.ref A_Net_row) = true) (l_Net_row : K.lookup A_Net_row = some ⟨oc_Net_row, od_Net_row, .func (PySem.W.fnOf "_row" "Net._row" (defArgs s_Net_row) (defBody s_Net_row) (defScope s_Net_row) .none kV_Net_row doc_Net_row pm_Net_row an_Net_row cdv_Net_row ct_Net_row), sl_Net_row⟩) (c_Net_row : PySem.W.codeIn K cdv_Net_row "Net._row" = true) (k_Net_row : PySem.W.keepIn K (.ref A_Net_row) = true) (a_Net_error_of : PySem.W.findIn K (.ref C_Net) "error_of" = some (some (.ref A_Net_error_of))) (i_Net_error_of : PySem.W.isFn K (.ref A_Net_error_of) = true) (l_Net_error_of : K.lookup A_Net_error_of = some ⟨oc_Net_error_of, od_Net_error_of, .func (PySem.W.fnOf "error_of" "Net.error_of" (defArgs s_Net_error_of) (defBody s_Net_error_of) (defScope s_Net_error_of) .none kV_Net_error_of doc_Net_error_of pm_Net_error_of an_Net_error_of cdv_Net_error_of ct_Net_error_of), sl_Net_error_of⟩) (c_Net_error_of : PySem.W.codeIn K cdv_Net_error_of "Net.error_of" = true) (k_Net_error_of : PySem.W.keepIn K (.ref A_Net_error_of) = true) (a_Net_kappa : PySem.W.findIn K (.ref C_Net) "kappa" = some (some (.ref A_Net_kappa))) (i_Net_kappa : PySem.W.isFn K (.ref A_Net_kappa) = true) (l_Net_kappa : K.lookup A_Net_kappa = some ⟨oc_Net_kappa, od_Net_kappa, .func (PySem.W.fnOf "kappa" "Net.kappa" (defArgs s_Net_kappa) (defBody s_Net_kappa) (defScope s_Net_kappa) .none kV_Net_kappa doc_Net_kappa pm_Net_kappa an_Net_kappa cdv_Net_kappa ct_Net_kappa), sl_Net_kappa⟩) (c_Net_kappa : PySem.W.codeIn K cdv_Net_kappa "Net.kappa" = true) (k_Net_kappa : PySem.W.keepIn K (.ref A_Net_kappa) = true) (a_box : PySem.W.nsIn K mainGlobals "_law_box" = some (some (.ref A_box))) (l_box : K.lookup A_box = some ⟨oc_box, od_box, .func (PySem.W.fnOf "_law_box" "_law_box" (defArgs s_box) (defBody s_box) (defScope s_box) .none kV_box doc_box pm_box an_box cdv_box ct_box), sl_box⟩) (c_box : PySem.W.codeIn K cdv_box "_law_box" = true) (k_box : PySem.W.keepIn K (.ref A_box) = true) (a_take : PySem.W.nsIn K mainGlobals "_law_take" = some (some (.ref A_take))) (l_take : K.lookup A_take = some ⟨oc_take, od_take, .func (PySem.W.fnOf "_law_take" "_law_take" (defArgs s_take) (defBody s_take) (defScope s_take) .none kV_take doc_take pm_take an_take cdv_take ct_take), sl_take⟩) (c_take : PySem.W.codeIn K cdv_take "_law_take" = true) (k_take : PySem.W.keepIn K (.ref A_take) = true) (a_plain_form : PySem.W.nsIn K mainGlobals "_law_plain_form" = some (some (.ref A_plain_form))) (l_plain_form : K.lookup A_plain_form = some ⟨oc_plain_form, od_plain_form, .func (PySem.W.fnOf "_law_plain_form" "_law_plain_form" (defArgs s_plain_form) (defBody s_plain_form) (defScope s_plain_form) .none kV_plain_form doc_plain_form pm_plain_form an_plain_form cdv_plain_form ct_plain_form), sl_plain_form⟩) (c_plain_form : PySem.W.codeIn K cdv_plain_form "_law_plain_form" = true) (k_plain_form : PySem.W.keepIn K (.ref A_plain_form) = true) (a_form : PySem.W.nsIn K mainGlobals "_law_form" = some (some (.ref A_form))) (l_form : K.lookup A_form = some ⟨oc_form, od_form, .func (PySem.W.fnOf "_law_form" "_law_form" (defArgs s_form) (defBody s_form) (defScope s_form) .none kV_form doc_form pm_form an_form cdv_form ct_form), sl_form⟩) (c_form : PySem.W.codeIn K cdv_form "_law_form" = true) (k_form : PySem.W.keepIn K (.ref A_form) = true) (a_after : PySem.W.nsIn K mainGlobals "_law_after" = some (some (.ref A_after))) (l_after : K.lookup A_after = some ⟨oc_after, od_after, .func (PySem.W.fnOf "_law_after" "_law_after" (defArgs s_after) (defBody s_after) (defScope s_after) .none kV_after doc_after pm_after an_after cdv_after ct_after), sl_after⟩) (c_after : PySem.W.codeIn K cdv_after "_law_after" = true) (k_after : PySem.W.keepIn K (.ref A_after) = true) (a_made : PySem.W.nsIn K mainGlobals "_law_made" = some (some (.ref A_made))) (l_made : K.lookup A_made = some ⟨oc_made, od_made, .func (PySem.W.fnOf "_law_made" "_law_made" (defArgs s_made) (defBody s_made) (defScope s_made) .none kV_made doc_made pm_made an_made cdv_made ct_made), sl_made⟩) (c_made : PySem.W.codeIn K cdv_made "_law_made" = true) (k_made : PySem.W.keepIn K (.ref A_made) = true) (a_rows : PySem.W.nsIn K mainGlobals "_law_rows" = some (some (.ref A_rows))) (l_rows : K.lookup A_rows = some ⟨oc_rows, od_rows, .func (PySem.W.fnOf "_law_rows" "_law_rows" (defArgs s_rows) (defBody s_rows) (defScope s_rows) .none kV_rows doc_rows pm_rows an_rows cdv_rows ct_rows), sl_rows⟩) (c_rows : PySem.W.codeIn K cdv_rows "_law_rows" = true) (k_rows : PySem.W.keepIn K (.ref A_rows) = true) (a_net : PySem.W.nsIn K mainGlobals "_law_net" = some (some (.ref A_net))) (l_net : K.lookup A_net = some ⟨oc_net, od_net, .func (PySem.W.fnOf "_law_net" "_law_net" (defArgs s_net) (defBody s_net) (defScope s_net) .none kV_net doc_net pm_net an_net cdv_net ct_net), sl_net⟩) (c_net : PySem.W.codeIn K cdv_net "_law_net" = true) (k_net : PySem.W.keepIn K (.ref A_net) = true) (a_row : PySem.W.nsIn K mainGlobals "_law_row" = some (some (.ref A_row))) (l_row : K.lookup A_row = some ⟨oc_row, od_row, .func (PySem.W.fnOf "_law_row" "_law_row" (defArgs s_row) (defBody s_row) (defScope s_row) .none kV_row doc_row pm_row an_row cdv_row ct_row), sl_row⟩) (c_row : PySem.W.codeIn K cdv_row "_law_row" = true) (k_row : PySem.W.keepIn K (.ref A_row) = true) (a_line : PySem.W.nsIn K mainGlobals "_law_line" = some (some (.ref A_line))) (l_line : K.lookup A_line = some ⟨oc_line, od_line, .func (PySem.W.fnOf "_law_line" "_law_line" (defArgs s_line) (defBody s_line) (defScope s_line) .none kV_line doc_line pm_line an_line cdv_line ct_line), sl_line⟩) (c_line : PySem.W.codeIn K cdv_line "_law_line" = true) (k_line : PySem.W.keepIn K (.ref A_line) = true) (a_far : PySem.W.nsIn K mainGlobals "_law_far" = some (some (.ref A_far))) (l_far : K.lookup A_far = some ⟨oc_far, od_far, .func (PySem.W.fnOf "_law_far" "_law_far" (defArgs s_far) (defBody s_far) (defScope s_far) .none kV_far doc_far pm_far an_far cdv_far ct_far), sl_far⟩) (c_far : PySem.W.codeIn K cdv_far "_law_far" = true) (k_far : PySem.W.keepIn K (.ref A_far) = true) (a_gap : PySem.W.nsIn K mainGlobals "_law_gap" = some (some (.ref A_gap))) (l_gap : K.lookup A_gap = some ⟨oc_gap, od_gap, .func (PySem.W.fnOf "_law_gap" "_law_gap" (defArgs s_gap) (defBody s_gap) (defScope s_gap) .none kV_gap doc_gap pm_gap an_gap cdv_gap ct_gap), sl_gap⟩) (c_gap : PySem.W.codeIn K cdv_gap "_law_gap" = true) (k_gap : PySem.W.keepIn K (.ref A_gap) = true) (a_need : PySem.W.nsIn K mainGlobals "_law_need" = some (some (.ref A_need))) (l_need : K.lookup A_need = some ⟨oc_need, od_need, .func (PySem.W.fnOf "_law_need" "_law_need" (defArgs s_need) (defBody s_need) (defScope s_need) .none kV_need doc_need pm_need an_need cdv_need ct_need), sl_need⟩) (c_need : PySem.W.codeIn K cdv_need "_law_need" = true) (k_need : PySem.W.keepIn K (.ref A_need) = true) (a_lleads : PySem.W.nsIn K mainGlobals "_law_leads" = some (some (.ref A_lleads))) (l_lleads : K.lookup A_lleads = some ⟨oc_lleads, od_lleads, .func (PySem.W.fnOf "_law_leads" "_law_leads" (defArgs s_lleads) (defBody s_lleads) (defScope s_lleads) .none kV_lleads doc_lleads pm_lleads an_lleads cdv_lleads ct_lleads), sl_lleads⟩) (c_lleads : PySem.W.codeIn K cdv_lleads "_law_leads" = true) (k_lleads : PySem.W.keepIn K (.ref A_lleads) = true) (a_chain : PySem.W.nsIn K mainGlobals "_law_chain" = some (some (.ref A_chain))) (l_chain : K.lookup A_chain = some ⟨oc_chain, od_chain, .func (PySem.W.fnOf "_law_chain" "_law_chain" (defArgs s_chain) (defBody s_chain) (defScope s_chain) .none kV_chain doc_chain pm_chain an_chain cdv_chain ct_chain), sl_chain⟩) (c_chain : PySem.W.codeIn K cdv_chain "_law_chain" = true) (k_chain : PySem.W.keepIn K (.ref A_chain) = true) (a_law : PySem.W.nsIn K mainGlobals "law" = some (some (.ref A_law))) (l_law : K.lookup A_law = some ⟨oc_law, od_law, .func (PySem.W.fnOf "law" "law" (defArgs s_law) (defBody s_law) (defScope s_law) .none kV_law doc_law pm_law an_law cdv_law ct_law), sl_law⟩) (c_law : PySem.W.codeIn K cdv_law "law" = true) (k_law : PySem.W.keepIn K (.ref A_law) = true) (top_super : (P.main.scope.names.lookup ("super" : Str)).isSome = false) (st_thirdparty : PySem.W.nsIn K cStatics "thirdparty.any" = some none) (z_isinstance : PySem.W.nsIn K mainGlobals "isinstance" = some none) (z_int : PySem.W.nsIn K mainGlobals "int" = some none) (z_bool : PySem.W.nsIn K mainGlobals "bool" = some none) (z_max : PySem.W.nsIn K mainGlobals "max" = some none) (z_list : PySem.W.nsIn K mainGlobals "list" = some none) (z_str : PySem.W.nsIn K mainGlobals "str" = some none) (z_enumerate : PySem.W.nsIn K mainGlobals "enumerate" = some none) (z_len : PySem.W.nsIn K mainGlobals "len" = some none) (z_tuple : PySem.W.nsIn K mainGlobals "tuple" = some none) (z_min : PySem.W.nsIn K mainGlobals "min" = some none) (z_range : PySem.W.nsIn K mainGlobals "range" = some none) (z_sum : PySem.W.nsIn K mainGlobals "sum" = some none) (z_reversed : PySem.W.nsIn K mainGlobals "reversed" = some none) (z_repr : PySem.W.nsIn K mainGlobals "repr" = some none) (z_super : PySem.W.nsIn K mainGlobals "super" = some none) (ac_PERIOD : PySem.W.nsIn K mainGlobals "PERIOD" = some (some (.int 2000 t_PERIOD))) (ab_lcm : PySem.W.nsIn K mainGlobals "lcm" = some (some (.builtin "math.lcm"))) (ac_FORMS : PySem.W.nsIn K mainGlobals "FORMS" = some (some (.int 6 t_FORMS))) (ac_BORDERS : PySem.W.nsIn K mainGlobals "BORDERS" = some (some (.int 12 t_BORDERS))) (ac_LETTERS : PySem.W.nsIn K mainGlobals "LETTERS" = some (some (.str "abcdefghijklmnopqrstuvwxyz" t_LETTERS))) (ac_DIGITS : PySem.W.nsIn K mainGlobals "DIGITS" = some (some (.str "0123456789" t_DIGITS))) (ac_MOST_ERROR : PySem.W.nsIn K mainGlobals "MOST_ERROR" = some (some (.int 100 t_MOST_ERROR))) (ac_MOST_PLACES : PySem.W.nsIn K mainGlobals "MOST_PLACES" = some (some (.int 12 t_MOST_PLACES))) (pg_Window : PySem.W.plainGet K C_Window Str.empty = true) (hd_Window : PySem.W.hasDictIn K C_Window = true) (po_Window : PySem.W.plainOver K C_Window = true) (sa_Window : PySem.W.findIn K (.ref C_Window) "__setattr__" = some (some (.builtin "object.__setattr__"))) (mk_Window : PySem.W.makesIn K C_Window = true) (kc_Window : PySem.W.keepIn K (.ref C_Window) = true) (th_Window : PySem.W.findIn K (.ref C_Window) "__class__" = some (some (.builtin "object.__class__"))) (tn_Window : PySem.W.specialIn K (.builtin "object.__class__") "__get__" = some (some (.builtin "getset_descriptor.__get__"))) (tk_Window : PySem.W.takesIn K (.builtin "object.__class__") = some true) (tm_Window : PySem.W.mroIn K C_Window (.type "object") = some true) (kt_Window_Rest : PySem.W.kitOne K (.ref C_Window) (.ref C_Rest) = some true) (su_Window : PySem.W.mroIn K C_Window (.ref C_Window) = some true) (sm_Window : PySem.W.ks_superIn K C_Window C_Window "__init__" = some (some (.ref A_Rest_init))) (sf_Window : PySem.W.fnIn K A_Rest_init = true) (st_Window : PySem.W.typeIn K (.ref A_Rest_init) = some (.type "function")) (no_Window_text : PySem.W.findIn K (.ref C_Window) "_text" = some none) (no_Window_forms : PySem.W.findIn K (.ref C_Window) "_forms" = some none) (no_Window_period : PySem.W.findIn K (.ref C_Window) "_period" = some none) (no_Window_bend : PySem.W.findIn K (.ref C_Window) "_bend" = some none) (no_Window_width : PySem.W.findIn K (.ref C_Window) "width" = some none) (me_Window_after : PySem.W.findIn K (.ref C_Window) "_after" = some (some (.ref A_Window_after))) (mi_Window_after : PySem.W.isFn K (.ref A_Window_after) = true) (me_Window_forms : PySem.W.findIn K (.ref C_Window) "forms" = some (some (.ref A_Rest_forms))) (mi_Window_forms : PySem.W.isFn K (.ref A_Rest_forms) = true) (me_Window_period : PySem.W.findIn K (.ref C_Window) "period" = some (some (.ref A_Rest_period))) (mi_Window_period : PySem.W.isFn K (.ref A_Rest_period) = true) (me_Window_bend : PySem.W.findIn K (.ref C_Window) "bend" = some (some (.ref A_Rest_bend))) (mi_Window_bend : PySem.W.isFn K (.ref A_Rest_bend) = true) (me_Window_written : PySem.W.findIn K (.ref C_Window) "written" = some (some (.ref A_Rest_written))) (mi_Window_written : PySem.W.isFn K (.ref A_Rest_written) = true) (co_Window : PySem.W.findIn K (.ref C_Window) "__call__" = some (some (.ref A_Rest_call))) (ci_Window : PySem.W.isFn K (.ref A_Rest_call) = true) (cf_Window : PySem.W.fnIn K A_Rest_call = true) (pg_Days : PySem.W.plainGet K C_Days Str.empty = true) (hd_Days : PySem.W.hasDictIn K C_Days = true) (po_Days : PySem.W.plainOver K C_Days = true) (sa_Days : PySem.W.findIn K (.ref C_Days) "__setattr__" = some (some (.builtin "object.__setattr__"))) (mk_Days : PySem.W.makesIn K C_Days = true) (kc_Days : PySem.W.keepIn K (.ref C_Days) = true) (th_Days : PySem.W.findIn K (.ref C_Days) "__class__" = some (some (.builtin "object.__class__"))) (tn_Days : PySem.W.specialIn K (.builtin "object.__class__") "__get__" = some (some (.builtin "getset_descriptor.__get__"))) (tk_Days : PySem.W.takesIn K (.builtin "object.__class__") = some true) (tm_Days : PySem.W.mroIn K C_Days (.type "object") = some true) (kt_Days_Rest : PySem.W.kitOne K (.ref C_Days) (.ref C_Rest) = some true) (su_Days : PySem.W.mroIn K C_Days (.ref C_Days) = some true) (sm_Days : PySem.W.ks_superIn K C_Days C_Days "__init__" = some (some (.ref A_Rest_init))) (sf_Days : PySem.W.fnIn K A_Rest_init = true) (st_Days : PySem.W.typeIn K (.ref A_Rest_init) = some (.type "function")) (no_Days_text : PySem.W.findIn K (.ref C_Days) "_text" = some none) (no_Days_forms : PySem.W.findIn K (.ref C_Days) "_forms" = some none) (no_Days_period : PySem.W.findIn K (.ref C_Days) "_period" = some none) (no_Days_bend : PySem.W.findIn K (.ref C_Days) "_bend" = some none) (no_Days_every : PySem.W.findIn K (.ref C_Days) "every" = some none) (no_Days_borders : PySem.W.findIn K (.ref C_Days) "_borders" = some none) (me_Days_after : PySem.W.findIn K (.ref C_Days) "_after" = some (some (.ref A_Days_after))) (mi_Days_after : PySem.W.isFn K (.ref A_Days_after) = true) (me_Days_forms : PySem.W.findIn K (.ref C_Days) "forms" = some (some (.ref A_Rest_forms))) (mi_Days_forms : PySem.W.isFn K (.ref A_Rest_forms) = true) (me_Days_period : PySem.W.findIn K (.ref C_Days) "period" = some (some (.ref A_Rest_period))) (mi_Days_period : PySem.W.isFn K (.ref A_Rest_period) = true) (me_Days_bend : PySem.W.findIn K (.ref C_Days) "bend" = some (some (.ref A_Rest_bend))) (mi_Days_bend : PySem.W.isFn K (.ref A_Rest_bend) = true) (me_Days_written : PySem.W.findIn K (.ref C_Days) "written" = some (some (.ref A_Rest_written))) (mi_Days_written : PySem.W.isFn K (.ref A_Rest_written) = true) (co_Days : PySem.W.findIn K (.ref C_Days) "__call__" = some (some (.ref A_Rest_call))) (ci_Days : PySem.W.isFn K (.ref A_Rest_call) = true) (cf_Days : PySem.W.fnIn K A_Rest_call = true) (pg_Later : PySem.W.plainGet K C_Later Str.empty = true) (hd_Later : PySem.W.hasDictIn K C_Later = true) (po_Later : PySem.W.plainOver K C_Later = true) (sa_Later : PySem.W.findIn K (.ref C_Later) "__setattr__" = some (some (.builtin "object.__setattr__"))) (mk_Later : PySem.W.makesIn K C_Later = true) (kc_Later : PySem.W.keepIn K (.ref C_Later) = true) (th_Later : PySem.W.findIn K (.ref C_Later) "__class__" = some (some (.builtin "object.__class__"))) (tn_Later : PySem.W.specialIn K (.builtin "object.__class__") "__get__" = some (some (.builtin "getset_descriptor.__get__"))) (tk_Later : PySem.W.takesIn K (.builtin "object.__class__") = some true) (tm_Later : PySem.W.mroIn K C_Later (.type "object") = some true) (kt_Later_Rest : PySem.W.kitOne K (.ref C_Later) (.ref C_Rest) = some true) (su_Later : PySem.W.mroIn K C_Later (.ref C_Later) = some true) (sm_Later : PySem.W.ks_superIn K C_Later C_Later "__init__" = some (some (.ref A_Rest_init))) (sf_Later : PySem.W.fnIn K A_Rest_init = true) (st_Later : PySem.W.typeIn K (.ref A_Rest_init) = some (.type "function")) (no_Later_text : PySem.W.findIn K (.ref C_Later) "_text" = some none) (no_Later_forms : PySem.W.findIn K (.ref C_Later) "_forms" = some none) (no_Later_period : PySem.W.findIn K (.ref C_Later) "_period" = some none) (no_Later_bend : PySem.W.findIn K (.ref C_Later) "_bend" = some none) (no_Later_first : PySem.W.findIn K (.ref C_Later) "first" = some none) (no_Later_second : PySem.W.findIn K (.ref C_Later) "second" = some none) (me_Later_after : PySem.W.findIn K (.ref C_Later) "_after" = some (some (.ref A_Later_after))) (mi_Later_after : PySem.W.isFn K (.ref A_Later_after) = true) (me_Later_forms : PySem.W.findIn K (.ref C_Later) "forms" = some (some (.ref A_Rest_forms))) (mi_Later_forms : PySem.W.isFn K (.ref A_Rest_forms) = true) (me_Later_period : PySem.W.findIn K (.ref C_Later) "period" = some (some (.ref A_Rest_period))) (mi_Later_period : PySem.W.isFn K (.ref A_Rest_period) = true) (me_Later_bend : PySem.W.findIn K (.ref C_Later) "bend" = some (some (.ref A_Rest_bend))) (mi_Later_bend : PySem.W.isFn K (.ref A_Rest_bend) = true) (me_Later_written : PySem.W.findIn K (.ref C_Later) "written" = some (some (.ref A_Rest_written))) (mi_Later_written : PySem.W.isFn K (.ref A_Rest_written) = true) (co_Later : PySem.W.findIn K (.ref C_Later) "__call__" = some (some (.ref A_Rest_call))) (ci_Later : PySem.W.isFn K (.ref A_Rest_call) = true) (cf_Later : PySem.W.fnIn K A_Rest_call = true) (pg_Sooner : PySem.W.plainGet K C_Sooner Str.empty = true) (hd_Sooner : PySem.W.hasDictIn K C_Sooner = true) (po_Sooner : PySem.W.plainOver K C_Sooner = true) (sa_Sooner : PySem.W.findIn K (.ref C_Sooner) "__setattr__" = some (some (.builtin "object.__setattr__"))) (mk_Sooner : PySem.W.makesIn K C_Sooner = true) (kc_Sooner : PySem.W.keepIn K (.ref C_Sooner) = true) (th_Sooner : PySem.W.findIn K (.ref C_Sooner) "__class__" = some (some (.builtin "object.__class__"))) (tn_Sooner : PySem.W.specialIn K (.builtin "object.__class__") "__get__" = some (some (.builtin "getset_descriptor.__get__"))) (tk_Sooner : PySem.W.takesIn K (.builtin "object.__class__") = some true) (tm_Sooner : PySem.W.mroIn K C_Sooner (.type "object") = some true) (kt_Sooner_Rest : PySem.W.kitOne K (.ref C_Sooner) (.ref C_Rest) = some true) (su_Sooner : PySem.W.mroIn K C_Sooner (.ref C_Sooner) = some true) (sm_Sooner : PySem.W.ks_superIn K C_Sooner C_Sooner "__init__" = some (some (.ref A_Rest_init))) (sf_Sooner : PySem.W.fnIn K A_Rest_init = true) (st_Sooner : PySem.W.typeIn K (.ref A_Rest_init) = some (.type "function")) (no_Sooner_text : PySem.W.findIn K (.ref C_Sooner) "_text" = some none) (no_Sooner_forms : PySem.W.findIn K (.ref C_Sooner) "_forms" = some none) (no_Sooner_period : PySem.W.findIn K (.ref C_Sooner) "_period" = some none) (no_Sooner_bend : PySem.W.findIn K (.ref C_Sooner) "_bend" = some none) (no_Sooner_first : PySem.W.findIn K (.ref C_Sooner) "first" = some none) (no_Sooner_second : PySem.W.findIn K (.ref C_Sooner) "second" = some none) (me_Sooner_after : PySem.W.findIn K (.ref C_Sooner) "_after" = some (some (.ref A_Sooner_after))) (mi_Sooner_after : PySem.W.isFn K (.ref A_Sooner_after) = true) (me_Sooner_forms : PySem.W.findIn K (.ref C_Sooner) "forms" = some (some (.ref A_Rest_forms))) (mi_Sooner_forms : PySem.W.isFn K (.ref A_Rest_forms) = true) (me_Sooner_period : PySem.W.findIn K (.ref C_Sooner) "period" = some (some (.ref A_Rest_period))) (mi_Sooner_period : PySem.W.isFn K (.ref A_Rest_period) = true) (me_Sooner_bend : PySem.W.findIn K (.ref C_Sooner) "bend" = some (some (.ref A_Rest_bend))) (mi_Sooner_bend : PySem.W.isFn K (.ref A_Rest_bend) = true) (me_Sooner_written : PySem.W.findIn K (.ref C_Sooner) "written" = some (some (.ref A_Rest_written))) (mi_Sooner_written : PySem.W.isFn K (.ref A_Rest_written) = true) (co_Sooner : PySem.W.findIn K (.ref C_Sooner) "__call__" = some (some (.ref A_Rest_call))) (ci_Sooner : PySem.W.isFn K (.ref A_Rest_call) = true) (cf_Sooner : PySem.W.fnIn K A_Rest_call = true) (pg_Next : PySem.W.plainGet K C_Next Str.empty = true) (hd_Next : PySem.W.hasDictIn K C_Next = true) (po_Next : PySem.W.plainOver K C_Next = true) (sa_Next : PySem.W.findIn K (.ref C_Next) "__setattr__" = some (some (.builtin "object.__setattr__"))) (mk_Next : PySem.W.makesIn K C_Next = true) (kc_Next : PySem.W.keepIn K (.ref C_Next) = true) (th_Next : PySem.W.findIn K (.ref C_Next) "__class__" = some (some (.builtin "object.__class__"))) (tn_Next : PySem.W.specialIn K (.builtin "object.__class__") "__get__" = some (some (.builtin "getset_descriptor.__get__"))) (tk_Next : PySem.W.takesIn K (.builtin "object.__class__") = some true) (tm_Next : PySem.W.mroIn K C_Next (.type "object") = some true) (kt_Next_Rest : PySem.W.kitOne K (.ref C_Next) (.ref C_Rest) = some true) (su_Next : PySem.W.mroIn K C_Next (.ref C_Next) = some true) (sm_Next : PySem.W.ks_superIn K C_Next C_Next "__init__" = some (some (.ref A_Rest_init))) (sf_Next : PySem.W.fnIn K A_Rest_init = true) (st_Next : PySem.W.typeIn K (.ref A_Rest_init) = some (.type "function")) (no_Next_text : PySem.W.findIn K (.ref C_Next) "_text" = some none) (no_Next_forms : PySem.W.findIn K (.ref C_Next) "_forms" = some none) (no_Next_period : PySem.W.findIn K (.ref C_Next) "_period" = some none) (no_Next_bend : PySem.W.findIn K (.ref C_Next) "_bend" = some none) (no_Next_first : PySem.W.findIn K (.ref C_Next) "first" = some none) (no_Next_second : PySem.W.findIn K (.ref C_Next) "second" = some none) (me_Next_after : PySem.W.findIn K (.ref C_Next) "_after" = some (some (.ref A_Next_after))) (mi_Next_after : PySem.W.isFn K (.ref A_Next_after) = true) (me_Next_forms : PySem.W.findIn K (.ref C_Next) "forms" = some (some (.ref A_Rest_forms))) (mi_Next_forms : PySem.W.isFn K (.ref A_Rest_forms) = true) (me_Next_period : PySem.W.findIn K (.ref C_Next) "period" = some (some (.ref A_Rest_period))) (mi_Next_period : PySem.W.isFn K (.ref A_Rest_period) = true) (me_Next_bend : PySem.W.findIn K (.ref C_Next) "bend" = some (some (.ref A_Rest_bend))) (mi_Next_bend : PySem.W.isFn K (.ref A_Rest_bend) = true) (me_Next_written : PySem.W.findIn K (.ref C_Next) "written" = some (some (.ref A_Rest_written))) (mi_Next_written : PySem.W.isFn K (.ref A_Rest_written) = true) (co_Next : PySem.W.findIn K (.ref C_Next) "__call__" = some (some (.ref A_Rest_call))) (ci_Next : PySem.W.isFn K (.ref A_Rest_call) = true) (cf_Next : PySem.W.fnIn K A_Rest_call = true) (pg_Net : PySem.W.plainGet K C_Net Str.empty = true) (hd_Net : PySem.W.hasDictIn K C_Net = true) (po_Net : PySem.W.plainOver K C_Net = true) (sa_Net : PySem.W.findIn K (.ref C_Net) "__setattr__" = some (some (.builtin "object.__setattr__"))) (mk_Net : PySem.W.makesIn K C_Net = true) (kc_Net : PySem.W.keepIn K (.ref C_Net) = true) (no_Net_rest : PySem.W.findIn K (.ref C_Net) "rest" = some none) (no_Net_known : PySem.W.findIn K (.ref C_Net) "_known" = some none) (no_Net_dists : PySem.W.findIn K (.ref C_Net) "_dists" = some none) (no_Net_kappas : PySem.W.findIn K (.ref C_Net) "_kappas" = some none) (me_Net_row : PySem.W.findIn K (.ref C_Net) "_row" = some (some (.ref A_Net_row))) (mi_Net_row : PySem.W.isFn K (.ref A_Net_row) = true) (me_Net_error_of : PySem.W.findIn K (.ref C_Net) "error_of" = some (some (.ref A_Net_error_of))) (mi_Net_error_of : PySem.W.isFn K (.ref A_Net_error_of) = true) (me_Net_kappa : PySem.W.findIn K (.ref C_Net) "kappa" = some (some (.ref A_Net_kappa))) (mi_Net_kappa : PySem.W.isFn K (.ref A_Net_kappa) = true) : Tx K mg where
  C_Rest := C_Rest
  m_Rest := PySem.W.mg_of X G aC_Rest
  C_Window := C_Window
  m_Window := PySem.W.mg_of X G aC_Window
  C_Days := C_Days
  m_Days := PySem.W.mg_of X G aC_Days
  C_Later := C_Later
  m_Later := PySem.W.mg_of X G aC_Later
  C_Sooner := C_Sooner
  m_Sooner := PySem.W.mg_of X G aC_Sooner
  C_Next := C_Next
  m_Next := PySem.W.mg_of X G aC_Next
  C_Net := C_Net
  m_Net := PySem.W.mg_of X G aC_Net
  a_is_number := A_is_number
  fd_is_number := PySem.W.fnOf "is_number" "is_number" (defArgs s_is_number) (defBody s_is_number) (defScope s_is_number) .none kV_is_number doc_is_number pm_is_number an_is_number cdv_is_number ct_is_number
  F_is_number := fun_mk (st := s_is_number) l_is_number c_is_number k_is_number
  b_is_number := (fun_mk (st := s_is_number) l_is_number c_is_number k_is_number).binds (ps := P_is_number) fun _ _ _ _ _ _ us hl => match us, hl with | [_, _, _], _ => rfl
  k_is_number := k_is_number
  m_is_number := PySem.W.mg_of X G a_is_number
  a_is_name := A_is_name
  fd_is_name := PySem.W.fnOf "is_name" "is_name" (defArgs s_is_name) (defBody s_is_name) (defScope s_is_name) .none kV_is_name doc_is_name pm_is_name an_is_name cdv_is_name ct_is_name
  F_is_name := fun_mk (st := s_is_name) l_is_name c_is_name k_is_name
  b_is_name := (fun_mk (st := s_is_name) l_is_name c_is_name k_is_name).binds (ps := P_is_name) fun _ _ _ _ _ _ us hl => match us, hl with | [_], _ => rfl
  k_is_name := k_is_name
  m_is_name := PySem.W.mg_of X G a_is_name
  a_leads := A_leads
  fd_leads := PySem.W.fnOf "leads" "leads" (defArgs s_leads) (defBody s_leads) (defScope s_leads) .none kV_leads doc_leads pm_leads an_leads cdv_leads ct_leads
  F_leads := fun_mk (st := s_leads) l_leads c_leads k_leads
  b_leads := (fun_mk (st := s_leads) l_leads c_leads k_leads).binds (ps := P_leads) fun _ _ _ _ _ _ us hl => match us, hl with | [_, _, _], _ => rfl
  k_leads := k_leads
  m_leads := PySem.W.mg_of X G a_leads
  a_Rest_init := A_Rest_init
  fd_Rest_init := PySem.W.fnOf "__init__" "Rest.__init__" (defArgs s_Rest_init) (defBody s_Rest_init) (defScope s_Rest_init) .none kV_Rest_init doc_Rest_init pm_Rest_init an_Rest_init cdv_Rest_init ct_Rest_init
  F_Rest_init := fun_mk (st := s_Rest_init) l_Rest_init c_Rest_init k_Rest_init
  b_Rest_init := (fun_mk (st := s_Rest_init) l_Rest_init c_Rest_init k_Rest_init).binds (ps := P_Rest_init) fun _ _ _ _ _ _ us hl => match us, hl with | [_, _, _, _, _], _ => rfl
  k_Rest_init := k_Rest_init
  a_Rest_call := A_Rest_call
  fd_Rest_call := PySem.W.fnOf "__call__" "Rest.__call__" (defArgs s_Rest_call) (defBody s_Rest_call) (defScope s_Rest_call) .none kV_Rest_call doc_Rest_call pm_Rest_call an_Rest_call cdv_Rest_call ct_Rest_call
  F_Rest_call := fun_mk (st := s_Rest_call) l_Rest_call c_Rest_call k_Rest_call
  b_Rest_call := (fun_mk (st := s_Rest_call) l_Rest_call c_Rest_call k_Rest_call).binds (ps := P_Rest_call) fun _ _ _ _ _ _ us hl => match us, hl with | [_, _], _ => rfl
  k_Rest_call := k_Rest_call
  a_Rest_forms := A_Rest_forms
  fd_Rest_forms := PySem.W.fnOf "forms" "Rest.forms" (defArgs s_Rest_forms) (defBody s_Rest_forms) (defScope s_Rest_forms) .none kV_Rest_forms doc_Rest_forms pm_Rest_forms an_Rest_forms cdv_Rest_forms ct_Rest_forms
  F_Rest_forms := fun_mk (st := s_Rest_forms) l_Rest_forms c_Rest_forms k_Rest_forms
  b_Rest_forms := (fun_mk (st := s_Rest_forms) l_Rest_forms c_Rest_forms k_Rest_forms).binds (ps := P_Rest_forms) fun _ _ _ _ _ _ us hl => match us, hl with | [_], _ => rfl
  k_Rest_forms := k_Rest_forms
  a_Rest_period := A_Rest_period
  fd_Rest_period := PySem.W.fnOf "period" "Rest.period" (defArgs s_Rest_period) (defBody s_Rest_period) (defScope s_Rest_period) .none kV_Rest_period doc_Rest_period pm_Rest_period an_Rest_period cdv_Rest_period ct_Rest_period
  F_Rest_period := fun_mk (st := s_Rest_period) l_Rest_period c_Rest_period k_Rest_period
  b_Rest_period := (fun_mk (st := s_Rest_period) l_Rest_period c_Rest_period k_Rest_period).binds (ps := P_Rest_period) fun _ _ _ _ _ _ us hl => match us, hl with | [_], _ => rfl
  k_Rest_period := k_Rest_period
  a_Rest_bend := A_Rest_bend
  fd_Rest_bend := PySem.W.fnOf "bend" "Rest.bend" (defArgs s_Rest_bend) (defBody s_Rest_bend) (defScope s_Rest_bend) .none kV_Rest_bend doc_Rest_bend pm_Rest_bend an_Rest_bend cdv_Rest_bend ct_Rest_bend
  F_Rest_bend := fun_mk (st := s_Rest_bend) l_Rest_bend c_Rest_bend k_Rest_bend
  b_Rest_bend := (fun_mk (st := s_Rest_bend) l_Rest_bend c_Rest_bend k_Rest_bend).binds (ps := P_Rest_bend) fun _ _ _ _ _ _ us hl => match us, hl with | [_], _ => rfl
  k_Rest_bend := k_Rest_bend
  a_Rest_written := A_Rest_written
  fd_Rest_written := PySem.W.fnOf "written" "Rest.written" (defArgs s_Rest_written) (defBody s_Rest_written) (defScope s_Rest_written) .none kV_Rest_written doc_Rest_written pm_Rest_written an_Rest_written cdv_Rest_written ct_Rest_written
  F_Rest_written := fun_mk (st := s_Rest_written) l_Rest_written c_Rest_written k_Rest_written
  b_Rest_written := (fun_mk (st := s_Rest_written) l_Rest_written c_Rest_written k_Rest_written).binds (ps := P_Rest_written) fun _ _ _ _ _ _ us hl => match us, hl with | [_], _ => rfl
  k_Rest_written := k_Rest_written
  a_Window_init := A_Window_init
  cc_Window_init := cc_Window_init
  cda_Window_init := cda_Window_init
  fd_Window_init := PySem.W.fnX "__init__" "Window.__init__" (defArgs s_Window_init) (defBody s_Window_init) (defScope s_Window_init) [("__class__", cc_Window_init)] .none kV_Window_init doc_Window_init pm_Window_init an_Window_init (.ref cda_Window_init) ct_Window_init
  F_Window_init := funS_mk l_Window_init c_Window_init k_Window_init
  b_Window_init := (funS_mk l_Window_init c_Window_init k_Window_init).binds (st := s_Window_init) (ps := P_Window_init) fun _ _ _ _ _ us hl => match us, hl with | [_, _], _ => rfl
  ce_Window_init := ⟨_, _, _, cell_Window_init⟩
  sd_Window_init := ⟨⟨_, _, _, _, _, l_Window_init, rfl, rfl⟩, ⟨_, _, _, _, _, _, code_Window_init, vs_Window_init, fl_Window_init⟩, ⟨_, _, _, cell_Window_init⟩, ⟨_, cd_Window_init⟩, PySem.W.mg_none_of X G z_super, top_super, st_thirdparty⟩
  k_Window_init := k_Window_init
  a_Window_after := A_Window_after
  fd_Window_after := PySem.W.fnOf "_after" "Window._after" (defArgs s_Window_after) (defBody s_Window_after) (defScope s_Window_after) .none kV_Window_after doc_Window_after pm_Window_after an_Window_after cdv_Window_after ct_Window_after
  F_Window_after := fun_mk (st := s_Window_after) l_Window_after c_Window_after k_Window_after
  b_Window_after := (fun_mk (st := s_Window_after) l_Window_after c_Window_after k_Window_after).binds (ps := P_Window_after) fun _ _ _ _ _ _ us hl => match us, hl with | [_, _], _ => rfl
  k_Window_after := k_Window_after
  a_Days_init := A_Days_init
  cc_Days_init := cc_Days_init
  cda_Days_init := cda_Days_init
  fd_Days_init := PySem.W.fnX "__init__" "Days.__init__" (defArgs s_Days_init) (defBody s_Days_init) (defScope s_Days_init) [("__class__", cc_Days_init)] .none kV_Days_init doc_Days_init pm_Days_init an_Days_init (.ref cda_Days_init) ct_Days_init
  F_Days_init := funS_mk l_Days_init c_Days_init k_Days_init
  b_Days_init := (funS_mk l_Days_init c_Days_init k_Days_init).binds (st := s_Days_init) (ps := P_Days_init) fun _ _ _ _ _ us hl => match us, hl with | [_, _, _], _ => rfl
  ce_Days_init := ⟨_, _, _, cell_Days_init⟩
  sd_Days_init := ⟨⟨_, _, _, _, _, l_Days_init, rfl, rfl⟩, ⟨_, _, _, _, _, _, code_Days_init, vs_Days_init, fl_Days_init⟩, ⟨_, _, _, cell_Days_init⟩, ⟨_, cd_Days_init⟩, PySem.W.mg_none_of X G z_super, top_super, st_thirdparty⟩
  k_Days_init := k_Days_init
  a_Days_after := A_Days_after
  fd_Days_after := PySem.W.fnOf "_after" "Days._after" (defArgs s_Days_after) (defBody s_Days_after) (defScope s_Days_after) .none kV_Days_after doc_Days_after pm_Days_after an_Days_after cdv_Days_after ct_Days_after
  F_Days_after := fun_mk (st := s_Days_after) l_Days_after c_Days_after k_Days_after
  b_Days_after := (fun_mk (st := s_Days_after) l_Days_after c_Days_after k_Days_after).binds (ps := P_Days_after) fun _ _ _ _ _ _ us hl => match us, hl with | [_, _], _ => rfl
  k_Days_after := k_Days_after
  a_joined := A_joined
  fd_joined := PySem.W.fnOf "joined" "joined" (defArgs s_joined) (defBody s_joined) (defScope s_joined) .none kV_joined doc_joined pm_joined an_joined cdv_joined ct_joined
  F_joined := fun_mk (st := s_joined) l_joined c_joined k_joined
  b_joined := (fun_mk (st := s_joined) l_joined c_joined k_joined).binds (ps := P_joined) fun _ _ _ _ _ _ us hl => match us, hl with | [_, _, _], _ => rfl
  k_joined := k_joined
  m_joined := PySem.W.mg_of X G a_joined
  a_Later_init := A_Later_init
  cc_Later_init := cc_Later_init
  cda_Later_init := cda_Later_init
  fd_Later_init := PySem.W.fnX "__init__" "Later.__init__" (defArgs s_Later_init) (defBody s_Later_init) (defScope s_Later_init) [("__class__", cc_Later_init)] .none kV_Later_init doc_Later_init pm_Later_init an_Later_init (.ref cda_Later_init) ct_Later_init
  F_Later_init := funS_mk l_Later_init c_Later_init k_Later_init
  b_Later_init := (funS_mk l_Later_init c_Later_init k_Later_init).binds (st := s_Later_init) (ps := P_Later_init) fun _ _ _ _ _ us hl => match us, hl with | [_, _, _], _ => rfl
  ce_Later_init := ⟨_, _, _, cell_Later_init⟩
  sd_Later_init := ⟨⟨_, _, _, _, _, l_Later_init, rfl, rfl⟩, ⟨_, _, _, _, _, _, code_Later_init, vs_Later_init, fl_Later_init⟩, ⟨_, _, _, cell_Later_init⟩, ⟨_, cd_Later_init⟩, PySem.W.mg_none_of X G z_super, top_super, st_thirdparty⟩
  k_Later_init := k_Later_init
  a_Later_after := A_Later_after
  fd_Later_after := PySem.W.fnOf "_after" "Later._after" (defArgs s_Later_after) (defBody s_Later_after) (defScope s_Later_after) .none kV_Later_after doc_Later_after pm_Later_after an_Later_after cdv_Later_after ct_Later_after
  F_Later_after := fun_mk (st := s_Later_after) l_Later_after c_Later_after k_Later_after
  b_Later_after := (fun_mk (st := s_Later_after) l_Later_after c_Later_after k_Later_after).binds (ps := P_Later_after) fun _ _ _ _ _ _ us hl => match us, hl with | [_, _], _ => rfl
  k_Later_after := k_Later_after
  a_Sooner_init := A_Sooner_init
  cc_Sooner_init := cc_Sooner_init
  cda_Sooner_init := cda_Sooner_init
  fd_Sooner_init := PySem.W.fnX "__init__" "Sooner.__init__" (defArgs s_Sooner_init) (defBody s_Sooner_init) (defScope s_Sooner_init) [("__class__", cc_Sooner_init)] .none kV_Sooner_init doc_Sooner_init pm_Sooner_init an_Sooner_init (.ref cda_Sooner_init) ct_Sooner_init
  F_Sooner_init := funS_mk l_Sooner_init c_Sooner_init k_Sooner_init
  b_Sooner_init := (funS_mk l_Sooner_init c_Sooner_init k_Sooner_init).binds (st := s_Sooner_init) (ps := P_Sooner_init) fun _ _ _ _ _ us hl => match us, hl with | [_, _, _], _ => rfl
  ce_Sooner_init := ⟨_, _, _, cell_Sooner_init⟩
  sd_Sooner_init := ⟨⟨_, _, _, _, _, l_Sooner_init, rfl, rfl⟩, ⟨_, _, _, _, _, _, code_Sooner_init, vs_Sooner_init, fl_Sooner_init⟩, ⟨_, _, _, cell_Sooner_init⟩, ⟨_, cd_Sooner_init⟩, PySem.W.mg_none_of X G z_super, top_super, st_thirdparty⟩
  k_Sooner_init := k_Sooner_init
  a_Sooner_after := A_Sooner_after
  fd_Sooner_after := PySem.W.fnOf "_after" "Sooner._after" (defArgs s_Sooner_after) (defBody s_Sooner_after) (defScope s_Sooner_after) .none kV_Sooner_after doc_Sooner_after pm_Sooner_after an_Sooner_after cdv_Sooner_after ct_Sooner_after
  F_Sooner_after := fun_mk (st := s_Sooner_after) l_Sooner_after c_Sooner_after k_Sooner_after
  b_Sooner_after := (fun_mk (st := s_Sooner_after) l_Sooner_after c_Sooner_after k_Sooner_after).binds (ps := P_Sooner_after) fun _ _ _ _ _ _ us hl => match us, hl with | [_, _], _ => rfl
  k_Sooner_after := k_Sooner_after
  a_Next_init := A_Next_init
  cc_Next_init := cc_Next_init
  cda_Next_init := cda_Next_init
  fd_Next_init := PySem.W.fnX "__init__" "Next.__init__" (defArgs s_Next_init) (defBody s_Next_init) (defScope s_Next_init) [("__class__", cc_Next_init)] .none kV_Next_init doc_Next_init pm_Next_init an_Next_init (.ref cda_Next_init) ct_Next_init
  F_Next_init := funS_mk l_Next_init c_Next_init k_Next_init
  b_Next_init := (funS_mk l_Next_init c_Next_init k_Next_init).binds (st := s_Next_init) (ps := P_Next_init) fun _ _ _ _ _ us hl => match us, hl with | [_, _, _], _ => rfl
  ce_Next_init := ⟨_, _, _, cell_Next_init⟩
  sd_Next_init := ⟨⟨_, _, _, _, _, l_Next_init, rfl, rfl⟩, ⟨_, _, _, _, _, _, code_Next_init, vs_Next_init, fl_Next_init⟩, ⟨_, _, _, cell_Next_init⟩, ⟨_, cd_Next_init⟩, PySem.W.mg_none_of X G z_super, top_super, st_thirdparty⟩
  k_Next_init := k_Next_init
  a_Next_after := A_Next_after
  fd_Next_after := PySem.W.fnOf "_after" "Next._after" (defArgs s_Next_after) (defBody s_Next_after) (defScope s_Next_after) .none kV_Next_after doc_Next_after pm_Next_after an_Next_after cdv_Next_after ct_Next_after
  F_Next_after := fun_mk (st := s_Next_after) l_Next_after c_Next_after k_Next_after
  b_Next_after := (fun_mk (st := s_Next_after) l_Next_after c_Next_after k_Next_after).binds (ps := P_Next_after) fun _ _ _ _ _ _ us hl => match us, hl with | [_, _], _ => rfl
  k_Next_after := k_Next_after
  a_isrow := A_isrow
  fd_isrow := PySem.W.fnOf "_is_row" "_is_row" (defArgs s_isrow) (defBody s_isrow) (defScope s_isrow) .none kV_isrow doc_isrow pm_isrow an_isrow cdv_isrow ct_isrow
  F_isrow := fun_mk (st := s_isrow) l_isrow c_isrow k_isrow
  b_isrow := (fun_mk (st := s_isrow) l_isrow c_isrow k_isrow).binds (ps := P_isrow) fun _ _ _ _ _ _ us hl => match us, hl with | [_, _], _ => rfl
  k_isrow := k_isrow
  m_isrow := PySem.W.mg_of X G a_isrow
  a_alldists := A_alldists
  fd_alldists := PySem.W.fnOf "_all_dists" "_all_dists" (defArgs s_alldists) (defBody s_alldists) (defScope s_alldists) .none kV_alldists doc_alldists pm_alldists an_alldists cdv_alldists ct_alldists
  F_alldists := fun_mk (st := s_alldists) l_alldists c_alldists k_alldists
  b_alldists := (fun_mk (st := s_alldists) l_alldists c_alldists k_alldists).binds (ps := P_alldists) fun _ _ _ _ _ _ us hl => match us, hl with | [_], _ => rfl
  k_alldists := k_alldists
  m_alldists := PySem.W.mg_of X G a_alldists
  a_allkappas := A_allkappas
  fd_allkappas := PySem.W.fnOf "_all_kappas" "_all_kappas" (defArgs s_allkappas) (defBody s_allkappas) (defScope s_allkappas) .none kV_allkappas doc_allkappas pm_allkappas an_allkappas cdv_allkappas ct_allkappas
  F_allkappas := fun_mk (st := s_allkappas) l_allkappas c_allkappas k_allkappas
  b_allkappas := (fun_mk (st := s_allkappas) l_allkappas c_allkappas k_allkappas).binds (ps := P_allkappas) fun _ _ _ _ _ _ us hl => match us, hl with | [_, _], _ => rfl
  k_allkappas := k_allkappas
  m_allkappas := PySem.W.mg_of X G a_allkappas
  a_Net_init := A_Net_init
  fd_Net_init := PySem.W.fnOf "__init__" "Net.__init__" (defArgs s_Net_init) (defBody s_Net_init) (defScope s_Net_init) .none kV_Net_init doc_Net_init pm_Net_init an_Net_init cdv_Net_init ct_Net_init
  F_Net_init := fun_mk (st := s_Net_init) l_Net_init c_Net_init k_Net_init
  bs_Net_init := fun a r us => match us with | [] => rfl | _ :: _ => rfl
  k_Net_init := k_Net_init
  a_Net_row := A_Net_row
  fd_Net_row := PySem.W.fnOf "_row" "Net._row" (defArgs s_Net_row) (defBody s_Net_row) (defScope s_Net_row) .none kV_Net_row doc_Net_row pm_Net_row an_Net_row cdv_Net_row ct_Net_row
  F_Net_row := fun_mk (st := s_Net_row) l_Net_row c_Net_row k_Net_row
  b_Net_row := (fun_mk (st := s_Net_row) l_Net_row c_Net_row k_Net_row).binds (ps := P_Net_row) fun _ _ _ _ _ _ us hl => match us, hl with | [_, _], _ => rfl
  k_Net_row := k_Net_row
  a_Net_error_of := A_Net_error_of
  fd_Net_error_of := PySem.W.fnOf "error_of" "Net.error_of" (defArgs s_Net_error_of) (defBody s_Net_error_of) (defScope s_Net_error_of) .none kV_Net_error_of doc_Net_error_of pm_Net_error_of an_Net_error_of cdv_Net_error_of ct_Net_error_of
  F_Net_error_of := fun_mk (st := s_Net_error_of) l_Net_error_of c_Net_error_of k_Net_error_of
  b_Net_error_of := (fun_mk (st := s_Net_error_of) l_Net_error_of c_Net_error_of k_Net_error_of).binds (ps := P_Net_error_of) fun _ _ _ _ _ _ us hl => match us, hl with | [_, _], _ => rfl
  k_Net_error_of := k_Net_error_of
  a_Net_kappa := A_Net_kappa
  fd_Net_kappa := PySem.W.fnOf "kappa" "Net.kappa" (defArgs s_Net_kappa) (defBody s_Net_kappa) (defScope s_Net_kappa) .none kV_Net_kappa doc_Net_kappa pm_Net_kappa an_Net_kappa cdv_Net_kappa ct_Net_kappa
  F_Net_kappa := fun_mk (st := s_Net_kappa) l_Net_kappa c_Net_kappa k_Net_kappa
  b_Net_kappa := (fun_mk (st := s_Net_kappa) l_Net_kappa c_Net_kappa k_Net_kappa).binds (ps := P_Net_kappa) fun _ _ _ _ _ _ us hl => match us, hl with | [_, _, _], _ => rfl
  k_Net_kappa := k_Net_kappa
  a_box := A_box
  fd_box := PySem.W.fnOf "_law_box" "_law_box" (defArgs s_box) (defBody s_box) (defScope s_box) .none kV_box doc_box pm_box an_box cdv_box ct_box
  F_box := fun_mk (st := s_box) l_box c_box k_box
  b_box := (fun_mk (st := s_box) l_box c_box k_box).binds (ps := P_box) fun _ _ _ _ _ _ us hl => match us, hl with | [_], _ => rfl
  k_box := k_box
  m_box := PySem.W.mg_of X G a_box
  a_take := A_take
  fd_take := PySem.W.fnOf "_law_take" "_law_take" (defArgs s_take) (defBody s_take) (defScope s_take) .none kV_take doc_take pm_take an_take cdv_take ct_take
  F_take := fun_mk (st := s_take) l_take c_take k_take
  b_take := (fun_mk (st := s_take) l_take c_take k_take).binds (ps := P_take) fun _ _ _ _ _ _ us hl => match us, hl with | [_, _], _ => rfl
  k_take := k_take
  m_take := PySem.W.mg_of X G a_take
  a_plain_form := A_plain_form
  fd_plain_form := PySem.W.fnOf "_law_plain_form" "_law_plain_form" (defArgs s_plain_form) (defBody s_plain_form) (defScope s_plain_form) .none kV_plain_form doc_plain_form pm_plain_form an_plain_form cdv_plain_form ct_plain_form
  F_plain_form := fun_mk (st := s_plain_form) l_plain_form c_plain_form k_plain_form
  b_plain_form := (fun_mk (st := s_plain_form) l_plain_form c_plain_form k_plain_form).binds (ps := P_plain_form) fun _ _ _ _ _ _ us hl => match us, hl with | [_], _ => rfl
  k_plain_form := k_plain_form
  m_plain_form := PySem.W.mg_of X G a_plain_form
  a_form := A_form
  fd_form := PySem.W.fnOf "_law_form" "_law_form" (defArgs s_form) (defBody s_form) (defScope s_form) .none kV_form doc_form pm_form an_form cdv_form ct_form
  F_form := fun_mk (st := s_form) l_form c_form k_form
  b_form := (fun_mk (st := s_form) l_form c_form k_form).binds (ps := P_form) fun _ _ _ _ _ _ us hl => match us, hl with | [_], _ => rfl
  k_form := k_form
  m_form := PySem.W.mg_of X G a_form
  a_after := A_after
  fd_after := PySem.W.fnOf "_law_after" "_law_after" (defArgs s_after) (defBody s_after) (defScope s_after) .none kV_after doc_after pm_after an_after cdv_after ct_after
  F_after := fun_mk (st := s_after) l_after c_after k_after
  b_after := (fun_mk (st := s_after) l_after c_after k_after).binds (ps := P_after) fun _ _ _ _ _ _ us hl => match us, hl with | [_, _], _ => rfl
  k_after := k_after
  m_after := PySem.W.mg_of X G a_after
  a_made := A_made
  fd_made := PySem.W.fnOf "_law_made" "_law_made" (defArgs s_made) (defBody s_made) (defScope s_made) .none kV_made doc_made pm_made an_made cdv_made ct_made
  F_made := fun_mk (st := s_made) l_made c_made k_made
  b_made := (fun_mk (st := s_made) l_made c_made k_made).binds (ps := P_made) fun _ _ _ _ _ _ us hl => match us, hl with | [_], _ => rfl
  k_made := k_made
  m_made := PySem.W.mg_of X G a_made
  a_rows := A_rows
  fd_rows := PySem.W.fnOf "_law_rows" "_law_rows" (defArgs s_rows) (defBody s_rows) (defScope s_rows) .none kV_rows doc_rows pm_rows an_rows cdv_rows ct_rows
  F_rows := fun_mk (st := s_rows) l_rows c_rows k_rows
  b_rows := (fun_mk (st := s_rows) l_rows c_rows k_rows).binds (ps := P_rows) fun _ _ _ _ _ _ us hl => match us, hl with | [_, _, _, _], _ => rfl
  k_rows := k_rows
  m_rows := PySem.W.mg_of X G a_rows
  a_net := A_net
  fd_net := PySem.W.fnOf "_law_net" "_law_net" (defArgs s_net) (defBody s_net) (defScope s_net) .none kV_net doc_net pm_net an_net cdv_net ct_net
  F_net := fun_mk (st := s_net) l_net c_net k_net
  b_net := (fun_mk (st := s_net) l_net c_net k_net).binds (ps := P_net) fun _ _ _ _ _ _ us hl => match us, hl with | [_, _], _ => rfl
  k_net := k_net
  m_net := PySem.W.mg_of X G a_net
  a_row := A_row
  fd_row := PySem.W.fnOf "_law_row" "_law_row" (defArgs s_row) (defBody s_row) (defScope s_row) .none kV_row doc_row pm_row an_row cdv_row ct_row
  F_row := fun_mk (st := s_row) l_row c_row k_row
  b_row := (fun_mk (st := s_row) l_row c_row k_row).binds (ps := P_row) fun _ _ _ _ _ _ us hl => match us, hl with | [_, _], _ => rfl
  k_row := k_row
  m_row := PySem.W.mg_of X G a_row
  a_line := A_line
  fd_line := PySem.W.fnOf "_law_line" "_law_line" (defArgs s_line) (defBody s_line) (defScope s_line) .none kV_line doc_line pm_line an_line cdv_line ct_line
  F_line := fun_mk (st := s_line) l_line c_line k_line
  b_line := (fun_mk (st := s_line) l_line c_line k_line).binds (ps := P_line) fun _ _ _ _ _ _ us hl => match us, hl with | [_, _], _ => rfl
  k_line := k_line
  m_line := PySem.W.mg_of X G a_line
  a_far := A_far
  fd_far := PySem.W.fnOf "_law_far" "_law_far" (defArgs s_far) (defBody s_far) (defScope s_far) .none kV_far doc_far pm_far an_far cdv_far ct_far
  F_far := fun_mk (st := s_far) l_far c_far k_far
  b_far := (fun_mk (st := s_far) l_far c_far k_far).binds (ps := P_far) fun _ _ _ _ _ _ us hl => match us, hl with | [_, _, _], _ => rfl
  k_far := k_far
  m_far := PySem.W.mg_of X G a_far
  a_gap := A_gap
  fd_gap := PySem.W.fnOf "_law_gap" "_law_gap" (defArgs s_gap) (defBody s_gap) (defScope s_gap) .none kV_gap doc_gap pm_gap an_gap cdv_gap ct_gap
  F_gap := fun_mk (st := s_gap) l_gap c_gap k_gap
  b_gap := (fun_mk (st := s_gap) l_gap c_gap k_gap).binds (ps := P_gap) fun _ _ _ _ _ _ us hl => match us, hl with | [_, _, _], _ => rfl
  k_gap := k_gap
  m_gap := PySem.W.mg_of X G a_gap
  a_need := A_need
  fd_need := PySem.W.fnOf "_law_need" "_law_need" (defArgs s_need) (defBody s_need) (defScope s_need) .none kV_need doc_need pm_need an_need cdv_need ct_need
  F_need := fun_mk (st := s_need) l_need c_need k_need
  b_need := (fun_mk (st := s_need) l_need c_need k_need).binds (ps := P_need) fun _ _ _ _ _ _ us hl => match us, hl with | [_, _, _, _], _ => rfl
  k_need := k_need
  m_need := PySem.W.mg_of X G a_need
  a_lleads := A_lleads
  fd_lleads := PySem.W.fnOf "_law_leads" "_law_leads" (defArgs s_lleads) (defBody s_lleads) (defScope s_lleads) .none kV_lleads doc_lleads pm_lleads an_lleads cdv_lleads ct_lleads
  F_lleads := fun_mk (st := s_lleads) l_lleads c_lleads k_lleads
  b_lleads := (fun_mk (st := s_lleads) l_lleads c_lleads k_lleads).binds (ps := P_lleads) fun _ _ _ _ _ _ us hl => match us, hl with | [_, _, _, _], _ => rfl
  k_lleads := k_lleads
  m_lleads := PySem.W.mg_of X G a_lleads
  a_chain := A_chain
  fd_chain := PySem.W.fnOf "_law_chain" "_law_chain" (defArgs s_chain) (defBody s_chain) (defScope s_chain) .none kV_chain doc_chain pm_chain an_chain cdv_chain ct_chain
  F_chain := fun_mk (st := s_chain) l_chain c_chain k_chain
  b_chain := (fun_mk (st := s_chain) l_chain c_chain k_chain).binds (ps := P_chain) fun _ _ _ _ _ _ us hl => match us, hl with | [_, _, _], _ => rfl
  k_chain := k_chain
  m_chain := PySem.W.mg_of X G a_chain
  a_law := A_law
  fd_law := PySem.W.fnOf "law" "law" (defArgs s_law) (defBody s_law) (defScope s_law) .none kV_law doc_law pm_law an_law cdv_law ct_law
  F_law := fun_mk (st := s_law) l_law c_law k_law
  b_law := (fun_mk (st := s_law) l_law c_law k_law).binds (ps := P_law) fun _ _ _ _ _ _ us hl => match us, hl with | [_], _ => rfl
  k_law := k_law
  m_law := PySem.W.mg_of X G a_law
  n_isinstance := PySem.W.mg_none_of X G z_isinstance
  n_int := PySem.W.mg_none_of X G z_int
  n_bool := PySem.W.mg_none_of X G z_bool
  n_max := PySem.W.mg_none_of X G z_max
  n_list := PySem.W.mg_none_of X G z_list
  n_str := PySem.W.mg_none_of X G z_str
  n_enumerate := PySem.W.mg_none_of X G z_enumerate
  n_len := PySem.W.mg_none_of X G z_len
  n_tuple := PySem.W.mg_none_of X G z_tuple
  n_min := PySem.W.mg_none_of X G z_min
  n_range := PySem.W.mg_none_of X G z_range
  n_sum := PySem.W.mg_none_of X G z_sum
  n_reversed := PySem.W.mg_none_of X G z_reversed
  n_repr := PySem.W.mg_none_of X G z_repr
  n_super := PySem.W.mg_none_of X G z_super
  t_PERIOD := t_PERIOD
  m_PERIOD := PySem.W.mg_of X G ac_PERIOD
  r_PERIOD := ⟨_, rfl⟩
  m_lcm := PySem.W.mg_of X G ab_lcm
  t_FORMS := t_FORMS
  m_FORMS := PySem.W.mg_of X G ac_FORMS
  r_FORMS := ⟨_, rfl⟩
  t_BORDERS := t_BORDERS
  m_BORDERS := PySem.W.mg_of X G ac_BORDERS
  r_BORDERS := ⟨_, rfl⟩
  t_LETTERS := t_LETTERS
  m_LETTERS := PySem.W.mg_of X G ac_LETTERS
  r_LETTERS := ⟨_, rfl⟩
  t_DIGITS := t_DIGITS
  m_DIGITS := PySem.W.mg_of X G ac_DIGITS
  r_DIGITS := ⟨_, rfl⟩
  t_MOST_ERROR := t_MOST_ERROR
  m_MOST_ERROR := PySem.W.mg_of X G ac_MOST_ERROR
  r_MOST_ERROR := ⟨_, rfl⟩
  t_MOST_PLACES := t_MOST_PLACES
  m_MOST_PLACES := PySem.W.mg_of X G ac_MOST_PLACES
  r_MOST_PLACES := ⟨_, rfl⟩
  kbm_leads_demand_other := ⟨fun s us ws _ h => by (rcases us with _ | ⟨u0, _ | ⟨za, zsa⟩⟩ <;> rcases ws with _ | ⟨w0, _ | ⟨w1, _ | ⟨zb, zsb⟩⟩⟩ <;> first | exact .of_eq rfl | exact absurd h (fun z => Nat.noConfusion (show (0 : Nat) = Nat.succ _ from z))), fun r1 r2 => by (cases r1 with | nil => exact .nil | cons g0 r1 => (cases r1 with | nil => (cases r2 with | nil => exact .nil | cons h0 r2 => (cases r2 with | nil => exact .nil | cons h1 r2 => (cases r2 with | nil => exact (.cons g0 (.cons h0 (.cons h1 .nil))) | cons _ _ => exact .nil))) | cons _ _ => exact .nil))⟩
  cl_Window := ⟨pg_Window, hd_Window, po_Window, sa_Window⟩
  mk_Window := ⟨mk_Window, a_Window_init, i_Window_init, kc_Window⟩
  ty_Window := ⟨⟨pg_Window, hd_Window, po_Window, sa_Window⟩, th_Window, tn_Window, tk_Window, tm_Window⟩
  kt_Window_Rest := kt_Window_Rest
  su_Window := ⟨su_Window, sm_Window, sf_Window, st_Window⟩
  no_Window_text := no_Window_text
  no_Window_forms := no_Window_forms
  no_Window_period := no_Window_period
  no_Window_bend := no_Window_bend
  no_Window_width := no_Window_width
  me_Window_after := ⟨me_Window_after, mi_Window_after, k_Window_after⟩
  me_Window_forms := ⟨me_Window_forms, mi_Window_forms, k_Rest_forms⟩
  me_Window_period := ⟨me_Window_period, mi_Window_period, k_Rest_period⟩
  me_Window_bend := ⟨me_Window_bend, mi_Window_bend, k_Rest_bend⟩
  me_Window_written := ⟨me_Window_written, mi_Window_written, k_Rest_written⟩
  co_Window := ⟨co_Window, ci_Window, cf_Window⟩
  cl_Days := ⟨pg_Days, hd_Days, po_Days, sa_Days⟩
  mk_Days := ⟨mk_Days, a_Days_init, i_Days_init, kc_Days⟩
  ty_Days := ⟨⟨pg_Days, hd_Days, po_Days, sa_Days⟩, th_Days, tn_Days, tk_Days, tm_Days⟩
  kt_Days_Rest := kt_Days_Rest
  su_Days := ⟨su_Days, sm_Days, sf_Days, st_Days⟩
  no_Days_text := no_Days_text
  no_Days_forms := no_Days_forms
  no_Days_period := no_Days_period
  no_Days_bend := no_Days_bend
  no_Days_every := no_Days_every
  no_Days_borders := no_Days_borders
  me_Days_after := ⟨me_Days_after, mi_Days_after, k_Days_after⟩
  me_Days_forms := ⟨me_Days_forms, mi_Days_forms, k_Rest_forms⟩
  me_Days_period := ⟨me_Days_period, mi_Days_period, k_Rest_period⟩
  me_Days_bend := ⟨me_Days_bend, mi_Days_bend, k_Rest_bend⟩
  me_Days_written := ⟨me_Days_written, mi_Days_written, k_Rest_written⟩
  co_Days := ⟨co_Days, ci_Days, cf_Days⟩
  cl_Later := ⟨pg_Later, hd_Later, po_Later, sa_Later⟩
  mk_Later := ⟨mk_Later, a_Later_init, i_Later_init, kc_Later⟩
  ty_Later := ⟨⟨pg_Later, hd_Later, po_Later, sa_Later⟩, th_Later, tn_Later, tk_Later, tm_Later⟩
  kt_Later_Rest := kt_Later_Rest
  su_Later := ⟨su_Later, sm_Later, sf_Later, st_Later⟩
  no_Later_text := no_Later_text
  no_Later_forms := no_Later_forms
  no_Later_period := no_Later_period
  no_Later_bend := no_Later_bend
  no_Later_first := no_Later_first
  no_Later_second := no_Later_second
  me_Later_after := ⟨me_Later_after, mi_Later_after, k_Later_after⟩
  me_Later_forms := ⟨me_Later_forms, mi_Later_forms, k_Rest_forms⟩
  me_Later_period := ⟨me_Later_period, mi_Later_period, k_Rest_period⟩
  me_Later_bend := ⟨me_Later_bend, mi_Later_bend, k_Rest_bend⟩
  me_Later_written := ⟨me_Later_written, mi_Later_written, k_Rest_written⟩
  co_Later := ⟨co_Later, ci_Later, cf_Later⟩
  cl_Sooner := ⟨pg_Sooner, hd_Sooner, po_Sooner, sa_Sooner⟩
  mk_Sooner := ⟨mk_Sooner, a_Sooner_init, i_Sooner_init, kc_Sooner⟩
  ty_Sooner := ⟨⟨pg_Sooner, hd_Sooner, po_Sooner, sa_Sooner⟩, th_Sooner, tn_Sooner, tk_Sooner, tm_Sooner⟩
  kt_Sooner_Rest := kt_Sooner_Rest
  su_Sooner := ⟨su_Sooner, sm_Sooner, sf_Sooner, st_Sooner⟩
  no_Sooner_text := no_Sooner_text
  no_Sooner_forms := no_Sooner_forms
  no_Sooner_period := no_Sooner_period
  no_Sooner_bend := no_Sooner_bend
  no_Sooner_first := no_Sooner_first
  no_Sooner_second := no_Sooner_second
  me_Sooner_after := ⟨me_Sooner_after, mi_Sooner_after, k_Sooner_after⟩
  me_Sooner_forms := ⟨me_Sooner_forms, mi_Sooner_forms, k_Rest_forms⟩
  me_Sooner_period := ⟨me_Sooner_period, mi_Sooner_period, k_Rest_period⟩
  me_Sooner_bend := ⟨me_Sooner_bend, mi_Sooner_bend, k_Rest_bend⟩
  me_Sooner_written := ⟨me_Sooner_written, mi_Sooner_written, k_Rest_written⟩
  co_Sooner := ⟨co_Sooner, ci_Sooner, cf_Sooner⟩
  cl_Next := ⟨pg_Next, hd_Next, po_Next, sa_Next⟩
  mk_Next := ⟨mk_Next, a_Next_init, i_Next_init, kc_Next⟩
  ty_Next := ⟨⟨pg_Next, hd_Next, po_Next, sa_Next⟩, th_Next, tn_Next, tk_Next, tm_Next⟩
  kt_Next_Rest := kt_Next_Rest
  su_Next := ⟨su_Next, sm_Next, sf_Next, st_Next⟩
  no_Next_text := no_Next_text
  no_Next_forms := no_Next_forms
  no_Next_period := no_Next_period
  no_Next_bend := no_Next_bend
  no_Next_first := no_Next_first
  no_Next_second := no_Next_second
  me_Next_after := ⟨me_Next_after, mi_Next_after, k_Next_after⟩
  me_Next_forms := ⟨me_Next_forms, mi_Next_forms, k_Rest_forms⟩
  me_Next_period := ⟨me_Next_period, mi_Next_period, k_Rest_period⟩
  me_Next_bend := ⟨me_Next_bend, mi_Next_bend, k_Rest_bend⟩
  me_Next_written := ⟨me_Next_written, mi_Next_written, k_Rest_written⟩
  co_Next := ⟨co_Next, ci_Next, cf_Next⟩
  cl_Net := ⟨pg_Net, hd_Net, po_Net, sa_Net⟩
  mk_Net := ⟨mk_Net, a_Net_init, i_Net_init, kc_Net⟩
  no_Net_rest := no_Net_rest
  no_Net_known := no_Net_known
  no_Net_dists := no_Net_dists
  no_Net_kappas := no_Net_kappas
  me_Net_row := ⟨me_Net_row, mi_Net_row, k_Net_row⟩
  me_Net_error_of := ⟨me_Net_error_of, mi_Net_error_of, k_Net_error_of⟩
  me_Net_kappa := ⟨me_Net_kappa, mi_Net_kappa, k_Net_kappa⟩
theorem all_mk {w : World} {K : PySem.W.Frag} {h : Heap} {mg : Str → Option Value} {fa : Addr} (X : K.In h) (G : h.Ns mainGlobals mg) (hfa : mg "law" = some (.ref fa)) {C_Rest : Addr} {C_Window : Addr} {C_Days : Addr} {C_Later : Addr} {C_Sooner : Addr} {C_Next : Addr} {C_Net : Addr} {A_is_number : Addr} {oc_is_number kV_is_number doc_is_number pm_is_number ct_is_number : Value} {od_is_number an_is_number : Option Addr} {sl_is_number : Array (Option Value)} {cdv_is_number : Value} {A_is_name : Addr} {oc_is_name kV_is_name doc_is_name pm_is_name ct_is_name : Value} {od_is_name an_is_name : Option Addr} {sl_is_name : Array (Option Value)} {cdv_is_name : Value} {A_leads : Addr} {oc_leads kV_leads doc_leads pm_leads ct_leads : Value} {od_leads an_leads : Option Addr} {sl_leads : Array (Option Value)} {cdv_leads : Value} {A_Rest_init : Addr} {oc_Rest_init kV_Rest_init doc_Rest_init pm_Rest_init ct_Rest_init : Value} {od_Rest_init an_Rest_init : Option Addr} {sl_Rest_init : Array (Option Value)} {cdv_Rest_init : Value} {A_Rest_call : Addr} {oc_Rest_call kV_Rest_call doc_Rest_call pm_Rest_call ct_Rest_call : Value} {od_Rest_call an_Rest_call : Option Addr} {sl_Rest_call : Array (Option Value)} {cdv_Rest_call : Value} {A_Rest_forms : Addr} {oc_Rest_forms kV_Rest_forms doc_Rest_forms pm_Rest_forms ct_Rest_forms : Value} {od_Rest_forms an_Rest_forms : Option Addr} {sl_Rest_forms : Array (Option Value)} {cdv_Rest_forms : Value} {A_Rest_period : Addr} {oc_Rest_period kV_Rest_period doc_Rest_period pm_Rest_period ct_Rest_period : Value} {od_Rest_period an_Rest_period : Option Addr} {sl_Rest_period : Array (Option Value)} {cdv_Rest_period : Value} {A_Rest_bend : Addr} {oc_Rest_bend kV_Rest_bend doc_Rest_bend pm_Rest_bend ct_Rest_bend : Value} {od_Rest_bend an_Rest_bend : Option Addr} {sl_Rest_bend : Array (Option Value)} {cdv_Rest_bend : Value} {A_Rest_written : Addr} {oc_Rest_written kV_Rest_written doc_Rest_written pm_Rest_written ct_Rest_written : Value} {od_Rest_written an_Rest_written : Option Addr} {sl_Rest_written : Array (Option Value)} {cdv_Rest_written : Value} {A_Window_init : Addr} {oc_Window_init kV_Window_init doc_Window_init pm_Window_init ct_Window_init : Value} {od_Window_init an_Window_init : Option Addr} {sl_Window_init : Array (Option Value)} {cc_Window_init cda_Window_init : Addr} {cl_Window_init ccl_Window_init : Value} {cld_Window_init cdd_Window_init : Option Addr} {csl_Window_init ccs_Window_init : Array (Option Value)} {vs_Window_init : Array Value} {file_Window_init : Str} {tf_Window_init : Tok} {cd_Window_init : PySem.ClassData} {A_Window_after : Addr} {oc_Window_after kV_Window_after doc_Window_after pm_Window_after ct_Window_after : Value} {od_Window_after an_Window_after : Option Addr} {sl_Window_after : Array (Option Value)} {cdv_Window_after : Value} {A_Days_init : Addr} {oc_Days_init kV_Days_init doc_Days_init pm_Days_init ct_Days_init : Value} {od_Days_init an_Days_init : Option Addr} {sl_Days_init : Array (Option Value)} {cc_Days_init cda_Days_init : Addr} {cl_Days_init ccl_Days_init : Value} {cld_Days_init cdd_Days_init : Option Addr} {csl_Days_init ccs_Days_init : Array (Option Value)} {vs_Days_init : Array Value} {file_Days_init : Str} {tf_Days_init : Tok} {cd_Days_init : PySem.ClassData} {A_Days_after : Addr} {oc_Days_after kV_Days_after doc_Days_after pm_Days_after ct_Days_after : Value} {od_Days_after an_Days_after : Option Addr} {sl_Days_after : Array (Option Value)} {cdv_Days_after : Value} {A_joined : Addr} {oc_joined kV_joined doc_joined pm_joined ct_joined : Value} {od_joined an_joined : Option Addr} {sl_joined : Array (Option Value)} {cdv_joined : Value} {A_Later_init : Addr} {oc_Later_init kV_Later_init doc_Later_init pm_Later_init ct_Later_init : Value} {od_Later_init an_Later_init : Option Addr} {sl_Later_init : Array (Option Value)} {cc_Later_init cda_Later_init : Addr} {cl_Later_init ccl_Later_init : Value} {cld_Later_init cdd_Later_init : Option Addr} {csl_Later_init ccs_Later_init : Array (Option Value)} {vs_Later_init : Array Value} {file_Later_init : Str} {tf_Later_init : Tok} {cd_Later_init : PySem.ClassData} {A_Later_after : Addr} {oc_Later_after kV_Later_after doc_Later_after pm_Later_after ct_Later_after : Value} {od_Later_after an_Later_after : Option Addr} {sl_Later_after : Array (Option Value)} {cdv_Later_after : Value} {A_Sooner_init : Addr} {oc_Sooner_init kV_Sooner_init doc_Sooner_init pm_Sooner_init ct_Sooner_init : Value} {od_Sooner_init an_Sooner_init : Option Addr} {sl_Sooner_init : Array (Option Value)} {cc_Sooner_init cda_Sooner_init : Addr} {cl_Sooner_init ccl_Sooner_init : Value} {cld_Sooner_init cdd_Sooner_init : Option Addr} {csl_Sooner_init ccs_Sooner_init : Array (Option Value)} {vs_Sooner_init : Array Value} {file_Sooner_init : Str} {tf_Sooner_init : Tok} {cd_Sooner_init : PySem.ClassData} {A_Sooner_after : Addr} {oc_Sooner_after kV_Sooner_after doc_Sooner_after pm_Sooner_after ct_Sooner_after : Value} {od_Sooner_after an_Sooner_after : Option Addr} {sl_Sooner_after : Array (Option Value)} {cdv_Sooner_after : Value} {A_Next_init : Addr} {oc_Next_init kV_Next_init doc_Next_init pm_Next_init ct_Next_init : Value} {od_Next_init an_Next_init : Option Addr} {sl_Next_init : Array (Option Value)} {cc_Next_init cda_Next_init : Addr} {cl_Next_init ccl_Next_init : Value} {cld_Next_init cdd_Next_init : Option Addr} {csl_Next_init ccs_Next_init : Array (Option Value)} {vs_Next_init : Array Value} {file_Next_init : Str} {tf_Next_init : Tok} {cd_Next_init : PySem.ClassData} {A_Next_after : Addr} {oc_Next_after kV_Next_after doc_Next_after pm_Next_after ct_Next_after : Value} {od_Next_after an_Next_after : Option Addr} {sl_Next_after : Array (Option Value)} {cdv_Next_after : Value} {A_isrow : Addr} {oc_isrow kV_isrow doc_isrow pm_isrow ct_isrow : Value} {od_isrow an_isrow : Option Addr} {sl_isrow : Array (Option Value)} {cdv_isrow : Value} {A_alldists : Addr} {oc_alldists kV_alldists doc_alldists pm_alldists ct_alldists : Value} {od_alldists an_alldists : Option Addr} {sl_alldists : Array (Option Value)} {cdv_alldists : Value} {A_allkappas : Addr} {oc_allkappas kV_allkappas doc_allkappas pm_allkappas ct_allkappas : Value} {od_allkappas an_allkappas : Option Addr} {sl_allkappas : Array (Option Value)} {cdv_allkappas : Value} {A_Net_init : Addr} {oc_Net_init kV_Net_init doc_Net_init pm_Net_init ct_Net_init : Value} {od_Net_init an_Net_init : Option Addr} {sl_Net_init : Array (Option Value)} {cdv_Net_init : Value} {A_Net_row : Addr} {oc_Net_row kV_Net_row doc_Net_row pm_Net_row ct_Net_row : Value} {od_Net_row an_Net_row : Option Addr} {sl_Net_row : Array (Option Value)} {cdv_Net_row : Value} {A_Net_error_of : Addr} {oc_Net_error_of kV_Net_error_of doc_Net_error_of pm_Net_error_of ct_Net_error_of : Value} {od_Net_error_of an_Net_error_of : Option Addr} {sl_Net_error_of : Array (Option Value)} {cdv_Net_error_of : Value} {A_Net_kappa : Addr} {oc_Net_kappa kV_Net_kappa doc_Net_kappa pm_Net_kappa ct_Net_kappa : Value} {od_Net_kappa an_Net_kappa : Option Addr} {sl_Net_kappa : Array (Option Value)} {cdv_Net_kappa : Value} {A_box : Addr} {oc_box kV_box doc_box pm_box ct_box : Value} {od_box an_box : Option Addr} {sl_box : Array (Option Value)} {cdv_box : Value} {A_take : Addr} {oc_take kV_take doc_take pm_take ct_take : Value} {od_take an_take : Option Addr} {sl_take : Array (Option Value)} {cdv_take : Value} {A_plain_form : Addr} {oc_plain_form kV_plain_form doc_plain_form pm_plain_form ct_plain_form : Value} {od_plain_form an_plain_form : Option Addr} {sl_plain_form : Array (Option Value)} {cdv_plain_form : Value} {A_form : Addr} {oc_form kV_form doc_form pm_form ct_form : Value} {od_form an_form : Option Addr} {sl_form : Array (Option Value)} {cdv_form : Value} {A_after : Addr} {oc_after kV_after doc_after pm_after ct_after : Value} {od_after an_after : Option Addr} {sl_after : Array (Option Value)} {cdv_after : Value} {A_made : Addr} {oc_made kV_made doc_made pm_made ct_made : Value} {od_made an_made : Option Addr} {sl_made : Array (Option Value)} {cdv_made : Value} {A_rows : Addr} {oc_rows kV_rows doc_rows pm_rows ct_rows : Value} {od_rows an_rows : Option Addr} {sl_rows : Array (Option Value)} {cdv_rows : Value} {A_net : Addr} {oc_net kV_net doc_net pm_net ct_net : Value} {od_net an_net : Option Addr} {sl_net : Array (Option Value)} {cdv_net : Value} {A_row : Addr} {oc_row kV_row doc_row pm_row ct_row : Value} {od_row an_row : Option Addr} {sl_row : Array (Option Value)} {cdv_row : Value} {A_line : Addr} {oc_line kV_line doc_line pm_line ct_line : Value} {od_line an_line : Option Addr} {sl_line : Array (Option Value)} {cdv_line : Value} {A_far : Addr} {oc_far kV_far doc_far pm_far ct_far : Value} {od_far an_far : Option Addr} {sl_far : Array (Option Value)} {cdv_far : Value} {A_gap : Addr} {oc_gap kV_gap doc_gap pm_gap ct_gap : Value} {od_gap an_gap : Option Addr} {sl_gap : Array (Option Value)} {cdv_gap : Value} {A_need : Addr} {oc_need kV_need doc_need pm_need ct_need : Value} {od_need an_need : Option Addr} {sl_need : Array (Option Value)} {cdv_need : Value} {A_lleads : Addr} {oc_lleads kV_lleads doc_lleads pm_lleads ct_lleads : Value} {od_lleads an_lleads : Option Addr} {sl_lleads : Array (Option Value)} {cdv_lleads : Value} {A_chain : Addr} {oc_chain kV_chain doc_chain pm_chain ct_chain : Value} {od_chain an_chain : Option Addr} {sl_chain : Array (Option Value)} {cdv_chain : Value} {A_law : Addr} {oc_law kV_law doc_law pm_law ct_law : Value} {od_law an_law : Option Addr} {sl_law : Array (Option Value)} {cdv_law : Value} {t_PERIOD : Tok} {t_FORMS : Tok} {t_BORDERS : Tok} {t_LETTERS : Tok} {t_DIGITS : Tok} {t_MOST_ERROR : Tok} {t_MOST_PLACES : Tok}
    (aC_Rest : PySem.W.nsIn K mainGlobals "Rest" = some (some (.ref C_Rest))) (aC_Window : PySem.W.nsIn K mainGlobals "Window" = some (some (.ref C_Window))) (aC_Days : PySem.W.nsIn K mainGlobals "Days" = some (some (.ref C_Days))) (aC_Later : PySem.W.nsIn K mainGlobals "Later" = some (some (.ref C_Later))) (aC_Sooner : PySem.W.nsIn K mainGlobals "Sooner" = some (some (.ref C_Sooner))) (aC_Next : PySem.W.nsIn K mainGlobals "Next" = some (some (.ref C_Next))) (aC_Net : PySem.W.nsIn K mainGlobals "Net" = some (some (.ref C_Net))) (a_is_number : PySem.W.nsIn K mainGlobals "is_number" = some (some (.ref A_is_number))) (l_is_number : K.lookup A_is_number = some ⟨oc_is_number, od_is_number, .func (PySem.W.fnOf "is_number" "is_number" (defArgs s_is_number) (defBody s_is_number) (defScope s_is_number) .none kV_is_number doc_is_number pm_is_number an_is_number cdv_is_number ct_is_number), sl_is_number⟩) (c_is_number : PySem.W.codeIn K cdv_is_number "is_number" = true) (k_is_number : PySem.W.keepIn K (.ref A_is_number) = true) (a_is_name : PySem.W.nsIn K mainGlobals "is_name" = some (some (.ref A_is_name))) (l_is_name : K.lookup A_is_name = some ⟨oc_is_name, od_is_name, .func (PySem.W.fnOf "is_name" "is_name" (defArgs s_is_name) (defBody s_is_name) (defScope s_is_name) .none kV_is_name doc_is_name pm_is_name an_is_name cdv_is_name ct_is_name), sl_is_name⟩) (c_is_name : PySem.W.codeIn K cdv_is_name "is_name" = true) (k_is_name : PySem.W.keepIn K (.ref A_is_name) = true) (a_leads : PySem.W.nsIn K mainGlobals "leads" = some (some (.ref A_leads))) (l_leads : K.lookup A_leads = some ⟨oc_leads, od_leads, .func (PySem.W.fnOf "leads" "leads" (defArgs s_leads) (defBody s_leads) (defScope s_leads) .none kV_leads doc_leads pm_leads an_leads cdv_leads ct_leads), sl_leads⟩) (c_leads : PySem.W.codeIn K cdv_leads "leads" = true) (k_leads : PySem.W.keepIn K (.ref A_leads) = true) (a_Rest_init : PySem.W.findIn K (.ref C_Rest) "__init__" = some (some (.ref A_Rest_init))) (i_Rest_init : PySem.W.isFn K (.ref A_Rest_init) = true) (l_Rest_init : K.lookup A_Rest_init = some ⟨oc_Rest_init, od_Rest_init, .func (PySem.W.fnOf "__init__" "Rest.__init__" (defArgs s_Rest_init) (defBody s_Rest_init) (defScope s_Rest_init) .none kV_Rest_init doc_Rest_init pm_Rest_init an_Rest_init cdv_Rest_init ct_Rest_init), sl_Rest_init⟩) (c_Rest_init : PySem.W.codeIn K cdv_Rest_init "Rest.__init__" = true) (k_Rest_init : PySem.W.keepIn K (.ref A_Rest_init) = true) (a_Rest_call : PySem.W.findIn K (.ref C_Rest) "__call__" = some (some (.ref A_Rest_call))) (i_Rest_call : PySem.W.isFn K (.ref A_Rest_call) = true) (l_Rest_call : K.lookup A_Rest_call = some ⟨oc_Rest_call, od_Rest_call, .func (PySem.W.fnOf "__call__" "Rest.__call__" (defArgs s_Rest_call) (defBody s_Rest_call) (defScope s_Rest_call) .none kV_Rest_call doc_Rest_call pm_Rest_call an_Rest_call cdv_Rest_call ct_Rest_call), sl_Rest_call⟩) (c_Rest_call : PySem.W.codeIn K cdv_Rest_call "Rest.__call__" = true) (k_Rest_call : PySem.W.keepIn K (.ref A_Rest_call) = true) (a_Rest_forms : PySem.W.findIn K (.ref C_Rest) "forms" = some (some (.ref A_Rest_forms))) (i_Rest_forms : PySem.W.isFn K (.ref A_Rest_forms) = true) (l_Rest_forms : K.lookup A_Rest_forms = some ⟨oc_Rest_forms, od_Rest_forms, .func (PySem.W.fnOf "forms" "Rest.forms" (defArgs s_Rest_forms) (defBody s_Rest_forms) (defScope s_Rest_forms) .none kV_Rest_forms doc_Rest_forms pm_Rest_forms an_Rest_forms cdv_Rest_forms ct_Rest_forms), sl_Rest_forms⟩) (c_Rest_forms : PySem.W.codeIn K cdv_Rest_forms "Rest.forms" = true) (k_Rest_forms : PySem.W.keepIn K (.ref A_Rest_forms) = true) (a_Rest_period : PySem.W.findIn K (.ref C_Rest) "period" = some (some (.ref A_Rest_period))) (i_Rest_period : PySem.W.isFn K (.ref A_Rest_period) = true) (l_Rest_period : K.lookup A_Rest_period = some ⟨oc_Rest_period, od_Rest_period, .func (PySem.W.fnOf "period" "Rest.period" (defArgs s_Rest_period) (defBody s_Rest_period) (defScope s_Rest_period) .none kV_Rest_period doc_Rest_period pm_Rest_period an_Rest_period cdv_Rest_period ct_Rest_period), sl_Rest_period⟩) (c_Rest_period : PySem.W.codeIn K cdv_Rest_period "Rest.period" = true) (k_Rest_period : PySem.W.keepIn K (.ref A_Rest_period) = true) (a_Rest_bend : PySem.W.findIn K (.ref C_Rest) "bend" = some (some (.ref A_Rest_bend))) (i_Rest_bend : PySem.W.isFn K (.ref A_Rest_bend) = true) (l_Rest_bend : K.lookup A_Rest_bend = some ⟨oc_Rest_bend, od_Rest_bend, .func (PySem.W.fnOf "bend" "Rest.bend" (defArgs s_Rest_bend) (defBody s_Rest_bend) (defScope s_Rest_bend) .none kV_Rest_bend doc_Rest_bend pm_Rest_bend an_Rest_bend cdv_Rest_bend ct_Rest_bend), sl_Rest_bend⟩) (c_Rest_bend : PySem.W.codeIn K cdv_Rest_bend "Rest.bend" = true) (k_Rest_bend : PySem.W.keepIn K (.ref A_Rest_bend) = true) (a_Rest_written : PySem.W.findIn K (.ref C_Rest) "written" = some (some (.ref A_Rest_written))) (i_Rest_written : PySem.W.isFn K (.ref A_Rest_written) = true) (l_Rest_written : K.lookup A_Rest_written = some ⟨oc_Rest_written, od_Rest_written, .func (PySem.W.fnOf "written" "Rest.written" (defArgs s_Rest_written) (defBody s_Rest_written) (defScope s_Rest_written) .none kV_Rest_written doc_Rest_written pm_Rest_written an_Rest_written cdv_Rest_written ct_Rest_written), sl_Rest_written⟩) (c_Rest_written : PySem.W.codeIn K cdv_Rest_written "Rest.written" = true) (k_Rest_written : PySem.W.keepIn K (.ref A_Rest_written) = true) (a_Window_init : PySem.W.findIn K (.ref C_Window) "__init__" = some (some (.ref A_Window_init))) (i_Window_init : PySem.W.isFn K (.ref A_Window_init) = true) (l_Window_init : K.lookup A_Window_init = some ⟨oc_Window_init, od_Window_init, .func (PySem.W.fnX "__init__" "Window.__init__" (defArgs s_Window_init) (defBody s_Window_init) (defScope s_Window_init) [("__class__", cc_Window_init)] .none kV_Window_init doc_Window_init pm_Window_init an_Window_init (.ref cda_Window_init) ct_Window_init), sl_Window_init⟩) (c_Window_init : PySem.W.codeIn K (.ref cda_Window_init) "Window.__init__" = true) (k_Window_init : PySem.W.keepIn K (.ref A_Window_init) = true) (cell_Window_init : K.lookup cc_Window_init = some ⟨cl_Window_init, cld_Window_init, .cell (some (.ref C_Window)), csl_Window_init⟩) (code_Window_init : K.lookup cda_Window_init = some ⟨ccl_Window_init, cdd_Window_init, .fields vs_Window_init, ccs_Window_init⟩) (vs_Window_init : vs_Window_init[2]? = some (.str file_Window_init tf_Window_init)) (fl_Window_init : ((P.main.file : Str) == file_Window_init) = true) (cd_Window_init : PySem.W.clsIn K C_Window = some cd_Window_init) (a_Window_after : PySem.W.findIn K (.ref C_Window) "_after" = some (some (.ref A_Window_after))) (i_Window_after : PySem.W.isFn K (.ref A_Window_after) = true) (l_Window_after : K.lookup A_Window_after = some ⟨oc_Window_after, od_Window_after, .func (PySem.W.fnOf "_after" "Window._after" (defArgs s_Window_after) (defBody s_Window_after) (defScope s_Window_after) .none kV_Window_after doc_Window_after pm_Window_after an_Window_after cdv_Window_after ct_Window_after), sl_Window_after⟩) (c_Window_after : PySem.W.codeIn K cdv_Window_after "Window._after" = true) (k_Window_after : PySem.W.keepIn K (.ref A_Window_after) = true) (a_Days_init : PySem.W.findIn K (.ref C_Days) "__init__" = some (some (.ref A_Days_init))) (i_Days_init : PySem.W.isFn K (.ref A_Days_init) = true) (l_Days_init : K.lookup A_Days_init = some ⟨oc_Days_init, od_Days_init, .func (PySem.W.fnX "__init__" "Days.__init__" (defArgs s_Days_init) (defBody s_Days_init) (defScope s_Days_init) [("__class__", cc_Days_init)] .none kV_Days_init doc_Days_init pm_Days_init an_Days_init (.ref cda_Days_init) ct_Days_init), sl_Days_init⟩) (c_Days_init : PySem.W.codeIn K (.ref cda_Days_init) "Days.__init__" = true) (k_Days_init : PySem.W.keepIn K (.ref A_Days_init) = true) (cell_Days_init : K.lookup cc_Days_init = some ⟨cl_Days_init, cld_Days_init, .cell (some (.ref C_Days)), csl_Days_init⟩) (code_Days_init : K.lookup cda_Days_init = some ⟨ccl_Days_init, cdd_Days_init, .fields vs_Days_init, ccs_Days_init⟩) (vs_Days_init : vs_Days_init[2]? = some (.str file_Days_init tf_Days_init)) (fl_Days_init : ((P.main.file : Str) == file_Days_init) = true) (cd_Days_init : PySem.W.clsIn K C_Days = some cd_Days_init) (a_Days_after : PySem.W.findIn K (.ref C_Days) "_after" = some (some (.ref A_Days_after))) (i_Days_after : PySem.W.isFn K (.ref A_Days_after) = true) (l_Days_after : K.lookup A_Days_after = some ⟨oc_Days_after, od_Days_after, .func (PySem.W.fnOf "_after" "Days._after" (defArgs s_Days_after) (defBody s_Days_after) (defScope s_Days_after) .none kV_Days_after doc_Days_after pm_Days_after an_Days_after cdv_Days_after ct_Days_after), sl_Days_after⟩) (c_Days_after : PySem.W.codeIn K cdv_Days_after "Days._after" = true) (k_Days_after : PySem.W.keepIn K (.ref A_Days_after) = true) (a_joined : PySem.W.nsIn K mainGlobals "joined" = some (some (.ref A_joined))) (l_joined : K.lookup A_joined = some ⟨oc_joined, od_joined, .func (PySem.W.fnOf "joined" "joined" (defArgs s_joined) (defBody s_joined) (defScope s_joined) .none kV_joined doc_joined pm_joined an_joined cdv_joined ct_joined), sl_joined⟩) (c_joined : PySem.W.codeIn K cdv_joined "joined" = true) (k_joined : PySem.W.keepIn K (.ref A_joined) = true) (a_Later_init : PySem.W.findIn K (.ref C_Later) "__init__" = some (some (.ref A_Later_init))) (i_Later_init : PySem.W.isFn K (.ref A_Later_init) = true) (l_Later_init : K.lookup A_Later_init = some ⟨oc_Later_init, od_Later_init, .func (PySem.W.fnX "__init__" "Later.__init__" (defArgs s_Later_init) (defBody s_Later_init) (defScope s_Later_init) [("__class__", cc_Later_init)] .none kV_Later_init doc_Later_init pm_Later_init an_Later_init (.ref cda_Later_init) ct_Later_init), sl_Later_init⟩) (c_Later_init : PySem.W.codeIn K (.ref cda_Later_init) "Later.__init__" = true) (k_Later_init : PySem.W.keepIn K (.ref A_Later_init) = true) (cell_Later_init : K.lookup cc_Later_init = some ⟨cl_Later_init, cld_Later_init, .cell (some (.ref C_Later)), csl_Later_init⟩) (code_Later_init : K.lookup cda_Later_init = some ⟨ccl_Later_init, cdd_Later_init, .fields vs_Later_init, ccs_Later_init⟩) (vs_Later_init : vs_Later_init[2]? = some (.str file_Later_init tf_Later_init)) (fl_Later_init : ((P.main.file : Str) == file_Later_init) = true) (cd_Later_init : PySem.W.clsIn K C_Later = some cd_Later_init) (a_Later_after : PySem.W.findIn K (.ref C_Later) "_after" = some (some (.ref A_Later_after))) (i_Later_after : PySem.W.isFn K (.ref A_Later_after) = true) (l_Later_after : K.lookup A_Later_after = some ⟨oc_Later_after, od_Later_after, .func (PySem.W.fnOf "_after" "Later._after" (defArgs s_Later_after) (defBody s_Later_after) (defScope s_Later_after) .none kV_Later_after doc_Later_after pm_Later_after an_Later_after cdv_Later_after ct_Later_after), sl_Later_after⟩) (c_Later_after : PySem.W.codeIn K cdv_Later_after "Later._after" = true) (k_Later_after : PySem.W.keepIn K (.ref A_Later_after) = true) (a_Sooner_init : PySem.W.findIn K (.ref C_Sooner) "__init__" = some (some (.ref A_Sooner_init))) (i_Sooner_init : PySem.W.isFn K (.ref A_Sooner_init) = true) (l_Sooner_init : K.lookup A_Sooner_init = some ⟨oc_Sooner_init, od_Sooner_init, .func (PySem.W.fnX "__init__" "Sooner.__init__" (defArgs s_Sooner_init) (defBody s_Sooner_init) (defScope s_Sooner_init) [("__class__", cc_Sooner_init)] .none kV_Sooner_init doc_Sooner_init pm_Sooner_init an_Sooner_init (.ref cda_Sooner_init) ct_Sooner_init), sl_Sooner_init⟩) (c_Sooner_init : PySem.W.codeIn K (.ref cda_Sooner_init) "Sooner.__init__" = true) (k_Sooner_init : PySem.W.keepIn K (.ref A_Sooner_init) = true) (cell_Sooner_init : K.lookup cc_Sooner_init = some ⟨cl_Sooner_init, cld_Sooner_init, .cell (some (.ref C_Sooner)), csl_Sooner_init⟩) (code_Sooner_init : K.lookup cda_Sooner_init = some ⟨ccl_Sooner_init, cdd_Sooner_init, .fields vs_Sooner_init, ccs_Sooner_init⟩) (vs_Sooner_init : vs_Sooner_init[2]? = some (.str file_Sooner_init tf_Sooner_init)) (fl_Sooner_init : ((P.main.file : Str) == file_Sooner_init) = true) (cd_Sooner_init : PySem.W.clsIn K C_Sooner = some cd_Sooner_init) (a_Sooner_after : PySem.W.findIn K (.ref C_Sooner) "_after" = some (some (.ref A_Sooner_after))) (i_Sooner_after : PySem.W.isFn K (.ref A_Sooner_after) = true) (l_Sooner_after : K.lookup A_Sooner_after = some ⟨oc_Sooner_after, od_Sooner_after, .func (PySem.W.fnOf "_after" "Sooner._after" (defArgs s_Sooner_after) (defBody s_Sooner_after) (defScope s_Sooner_after) .none kV_Sooner_after doc_Sooner_after pm_Sooner_after an_Sooner_after cdv_Sooner_after ct_Sooner_after), sl_Sooner_after⟩) (c_Sooner_after : PySem.W.codeIn K cdv_Sooner_after "Sooner._after" = true) (k_Sooner_after : PySem.W.keepIn K (.ref A_Sooner_after) = true) (a_Next_init : PySem.W.findIn K (.ref C_Next) "__init__" = some (some (.ref A_Next_init))) (i_Next_init : PySem.W.isFn K (.ref A_Next_init) = true) (l_Next_init : K.lookup A_Next_init = some ⟨oc_Next_init, od_Next_init, .func (PySem.W.fnX "__init__" "Next.__init__" (defArgs s_Next_init) (defBody s_Next_init) (defScope s_Next_init) [("__class__", cc_Next_init)] .none kV_Next_init doc_Next_init pm_Next_init an_Next_init (.ref cda_Next_init) ct_Next_init), sl_Next_init⟩) (c_Next_init : PySem.W.codeIn K (.ref cda_Next_init) "Next.__init__" = true) (k_Next_init : PySem.W.keepIn K (.ref A_Next_init) = true) (cell_Next_init : K.lookup cc_Next_init = some ⟨cl_Next_init, cld_Next_init, .cell (some (.ref C_Next)), csl_Next_init⟩) (code_Next_init : K.lookup cda_Next_init = some ⟨ccl_Next_init, cdd_Next_init, .fields vs_Next_init, ccs_Next_init⟩) (vs_Next_init : vs_Next_init[2]? = some (.str file_Next_init tf_Next_init)) (fl_Next_init : ((P.main.file : Str) == file_Next_init) = true) (cd_Next_init : PySem.W.clsIn K C_Next = some cd_Next_init) (a_Next_after : PySem.W.findIn K (.ref C_Next) "_after" = some (some (.ref A_Next_after))) (i_Next_after : PySem.W.isFn K (.ref A_Next_after) = true) (l_Next_after : K.lookup A_Next_after = some ⟨oc_Next_after, od_Next_after, .func (PySem.W.fnOf "_after" "Next._after" (defArgs s_Next_after) (defBody s_Next_after) (defScope s_Next_after) .none kV_Next_after doc_Next_after pm_Next_after an_Next_after cdv_Next_after ct_Next_after), sl_Next_after⟩) (c_Next_after : PySem.W.codeIn K cdv_Next_after "Next._after" = true) (k_Next_after : PySem.W.keepIn K (.ref A_Next_after) = true) (a_isrow : PySem.W.nsIn K mainGlobals "_is_row" = some (some (.ref A_isrow))) (l_isrow : K.lookup A_isrow = some ⟨oc_isrow, od_isrow, .func (PySem.W.fnOf "_is_row" "_is_row" (defArgs s_isrow) (defBody s_isrow) (defScope s_isrow) .none kV_isrow doc_isrow pm_isrow an_isrow cdv_isrow ct_isrow), sl_isrow⟩) (c_isrow : PySem.W.codeIn K cdv_isrow "_is_row" = true) (k_isrow : PySem.W.keepIn K (.ref A_isrow) = true) (a_alldists : PySem.W.nsIn K mainGlobals "_all_dists" = some (some (.ref A_alldists))) (l_alldists : K.lookup A_alldists = some ⟨oc_alldists, od_alldists, .func (PySem.W.fnOf "_all_dists" "_all_dists" (defArgs s_alldists) (defBody s_alldists) (defScope s_alldists) .none kV_alldists doc_alldists pm_alldists an_alldists cdv_alldists ct_alldists), sl_alldists⟩) (c_alldists : PySem.W.codeIn K cdv_alldists "_all_dists" = true) (k_alldists : PySem.W.keepIn K (.ref A_alldists) = true) (a_allkappas : PySem.W.nsIn K mainGlobals "_all_kappas" = some (some (.ref A_allkappas))) (l_allkappas : K.lookup A_allkappas = some ⟨oc_allkappas, od_allkappas, .func (PySem.W.fnOf "_all_kappas" "_all_kappas" (defArgs s_allkappas) (defBody s_allkappas) (defScope s_allkappas) .none kV_allkappas doc_allkappas pm_allkappas an_allkappas cdv_allkappas ct_allkappas), sl_allkappas⟩) (c_allkappas : PySem.W.codeIn K cdv_allkappas "_all_kappas" = true) (k_allkappas : PySem.W.keepIn K (.ref A_allkappas) = true) (a_Net_init : PySem.W.findIn K (.ref C_Net) "__init__" = some (some (.ref A_Net_init))) (i_Net_init : PySem.W.isFn K (.ref A_Net_init) = true) (l_Net_init : K.lookup A_Net_init = some ⟨oc_Net_init, od_Net_init, .func (PySem.W.fnOf "__init__" "Net.__init__" (defArgs s_Net_init) (defBody s_Net_init) (defScope s_Net_init) .none kV_Net_init doc_Net_init pm_Net_init an_Net_init cdv_Net_init ct_Net_init), sl_Net_init⟩) (c_Net_init : PySem.W.codeIn K cdv_Net_init "Net.__init__" = true) (k_Net_init : PySem.W.keepIn K (.ref A_Net_init) = true) (a_Net_row : PySem.W.findIn K (.ref C_Net) "_row" = some (some (.ref A_Net_row))) (i_Net_row : PySem.W.isFn K (.ref A_Net_row) = true) (l_Net_row : K.lookup A_Net_row = some ⟨oc_Net_row, od_Net_row, .func (PySem.W.fnOf "_row" "Net._row" (defArgs s_Net_row) (defBody s_Net_row) (defScope s_Net_row) .none kV_Net_row doc_Net_row pm_Net_row an_Net_row cdv_Net_row ct_Net_row), sl_Net_row⟩) (c_Net_row : PySem.W.codeIn K cdv_Net_row "Net._row" = true) (k_Net_row : PySem.W.keepIn K (.ref A_Net_row) = true) (a_Net_error_of : PySem.W.findIn K (.ref C_Net) "error_of" = some (some (.ref A_Net_error_of))) (i_Net_error_of : PySem.W.isFn K (.ref A_Net_error_of) = true) (l_Net_error_of : K.lookup A_Net_error_of = some ⟨oc_Net_error_of, od_Net_error_of, .func (PySem.W.fnOf "error_of" "Net.error_of" (defArgs s_Net_error_of) (defBody s_Net_error_of) (defScope s_Net_error_of) .none kV_Net_error_of doc_Net_error_of pm_Net_error_of an_Net_error_of cdv_Net_error_of ct_Net_error_of), sl_Net_error_of⟩) (c_Net_error_of : PySem.W.codeIn K cdv_Net_error_of "Net.error_of" = true) (k_Net_error_of : PySem.W.keepIn K (.ref A_Net_error_of) = true) (a_Net_kappa : PySem.W.findIn K (.ref C_Net) "kappa" = some (some (.ref A_Net_kappa))) (i_Net_kappa : PySem.W.isFn K (.ref A_Net_kappa) = true) (l_Net_kappa : K.lookup A_Net_kappa = some ⟨oc_Net_kappa, od_Net_kappa, .func (PySem.W.fnOf "kappa" "Net.kappa" (defArgs s_Net_kappa) (defBody s_Net_kappa) (defScope s_Net_kappa) .none kV_Net_kappa doc_Net_kappa pm_Net_kappa an_Net_kappa cdv_Net_kappa ct_Net_kappa), sl_Net_kappa⟩) (c_Net_kappa : PySem.W.codeIn K cdv_Net_kappa "Net.kappa" = true) (k_Net_kappa : PySem.W.keepIn K (.ref A_Net_kappa) = true) (a_box : PySem.W.nsIn K mainGlobals "_law_box" = some (some (.ref A_box))) (l_box : K.lookup A_box = some ⟨oc_box, od_box, .func (PySem.W.fnOf "_law_box" "_law_box" (defArgs s_box) (defBody s_box) (defScope s_box) .none kV_box doc_box pm_box an_box cdv_box ct_box), sl_box⟩) (c_box : PySem.W.codeIn K cdv_box "_law_box" = true) (k_box : PySem.W.keepIn K (.ref A_box) = true) (a_take : PySem.W.nsIn K mainGlobals "_law_take" = some (some (.ref A_take))) (l_take : K.lookup A_take = some ⟨oc_take, od_take, .func (PySem.W.fnOf "_law_take" "_law_take" (defArgs s_take) (defBody s_take) (defScope s_take) .none kV_take doc_take pm_take an_take cdv_take ct_take), sl_take⟩) (c_take : PySem.W.codeIn K cdv_take "_law_take" = true) (k_take : PySem.W.keepIn K (.ref A_take) = true) (a_plain_form : PySem.W.nsIn K mainGlobals "_law_plain_form" = some (some (.ref A_plain_form))) (l_plain_form : K.lookup A_plain_form = some ⟨oc_plain_form, od_plain_form, .func (PySem.W.fnOf "_law_plain_form" "_law_plain_form" (defArgs s_plain_form) (defBody s_plain_form) (defScope s_plain_form) .none kV_plain_form doc_plain_form pm_plain_form an_plain_form cdv_plain_form ct_plain_form), sl_plain_form⟩) (c_plain_form : PySem.W.codeIn K cdv_plain_form "_law_plain_form" = true) (k_plain_form : PySem.W.keepIn K (.ref A_plain_form) = true) (a_form : PySem.W.nsIn K mainGlobals "_law_form" = some (some (.ref A_form))) (l_form : K.lookup A_form = some ⟨oc_form, od_form, .func (PySem.W.fnOf "_law_form" "_law_form" (defArgs s_form) (defBody s_form) (defScope s_form) .none kV_form doc_form pm_form an_form cdv_form ct_form), sl_form⟩) (c_form : PySem.W.codeIn K cdv_form "_law_form" = true) (k_form : PySem.W.keepIn K (.ref A_form) = true) (a_after : PySem.W.nsIn K mainGlobals "_law_after" = some (some (.ref A_after))) (l_after : K.lookup A_after = some ⟨oc_after, od_after, .func (PySem.W.fnOf "_law_after" "_law_after" (defArgs s_after) (defBody s_after) (defScope s_after) .none kV_after doc_after pm_after an_after cdv_after ct_after), sl_after⟩) (c_after : PySem.W.codeIn K cdv_after "_law_after" = true) (k_after : PySem.W.keepIn K (.ref A_after) = true) (a_made : PySem.W.nsIn K mainGlobals "_law_made" = some (some (.ref A_made))) (l_made : K.lookup A_made = some ⟨oc_made, od_made, .func (PySem.W.fnOf "_law_made" "_law_made" (defArgs s_made) (defBody s_made) (defScope s_made) .none kV_made doc_made pm_made an_made cdv_made ct_made), sl_made⟩) (c_made : PySem.W.codeIn K cdv_made "_law_made" = true) (k_made : PySem.W.keepIn K (.ref A_made) = true) (a_rows : PySem.W.nsIn K mainGlobals "_law_rows" = some (some (.ref A_rows))) (l_rows : K.lookup A_rows = some ⟨oc_rows, od_rows, .func (PySem.W.fnOf "_law_rows" "_law_rows" (defArgs s_rows) (defBody s_rows) (defScope s_rows) .none kV_rows doc_rows pm_rows an_rows cdv_rows ct_rows), sl_rows⟩) (c_rows : PySem.W.codeIn K cdv_rows "_law_rows" = true) (k_rows : PySem.W.keepIn K (.ref A_rows) = true) (a_net : PySem.W.nsIn K mainGlobals "_law_net" = some (some (.ref A_net))) (l_net : K.lookup A_net = some ⟨oc_net, od_net, .func (PySem.W.fnOf "_law_net" "_law_net" (defArgs s_net) (defBody s_net) (defScope s_net) .none kV_net doc_net pm_net an_net cdv_net ct_net), sl_net⟩) (c_net : PySem.W.codeIn K cdv_net "_law_net" = true) (k_net : PySem.W.keepIn K (.ref A_net) = true) (a_row : PySem.W.nsIn K mainGlobals "_law_row" = some (some (.ref A_row))) (l_row : K.lookup A_row = some ⟨oc_row, od_row, .func (PySem.W.fnOf "_law_row" "_law_row" (defArgs s_row) (defBody s_row) (defScope s_row) .none kV_row doc_row pm_row an_row cdv_row ct_row), sl_row⟩) (c_row : PySem.W.codeIn K cdv_row "_law_row" = true) (k_row : PySem.W.keepIn K (.ref A_row) = true) (a_line : PySem.W.nsIn K mainGlobals "_law_line" = some (some (.ref A_line))) (l_line : K.lookup A_line = some ⟨oc_line, od_line, .func (PySem.W.fnOf "_law_line" "_law_line" (defArgs s_line) (defBody s_line) (defScope s_line) .none kV_line doc_line pm_line an_line cdv_line ct_line), sl_line⟩) (c_line : PySem.W.codeIn K cdv_line "_law_line" = true) (k_line : PySem.W.keepIn K (.ref A_line) = true) (a_far : PySem.W.nsIn K mainGlobals "_law_far" = some (some (.ref A_far))) (l_far : K.lookup A_far = some ⟨oc_far, od_far, .func (PySem.W.fnOf "_law_far" "_law_far" (defArgs s_far) (defBody s_far) (defScope s_far) .none kV_far doc_far pm_far an_far cdv_far ct_far), sl_far⟩) (c_far : PySem.W.codeIn K cdv_far "_law_far" = true) (k_far : PySem.W.keepIn K (.ref A_far) = true) (a_gap : PySem.W.nsIn K mainGlobals "_law_gap" = some (some (.ref A_gap))) (l_gap : K.lookup A_gap = some ⟨oc_gap, od_gap, .func (PySem.W.fnOf "_law_gap" "_law_gap" (defArgs s_gap) (defBody s_gap) (defScope s_gap) .none kV_gap doc_gap pm_gap an_gap cdv_gap ct_gap), sl_gap⟩) (c_gap : PySem.W.codeIn K cdv_gap "_law_gap" = true) (k_gap : PySem.W.keepIn K (.ref A_gap) = true) (a_need : PySem.W.nsIn K mainGlobals "_law_need" = some (some (.ref A_need))) (l_need : K.lookup A_need = some ⟨oc_need, od_need, .func (PySem.W.fnOf "_law_need" "_law_need" (defArgs s_need) (defBody s_need) (defScope s_need) .none kV_need doc_need pm_need an_need cdv_need ct_need), sl_need⟩) (c_need : PySem.W.codeIn K cdv_need "_law_need" = true) (k_need : PySem.W.keepIn K (.ref A_need) = true) (a_lleads : PySem.W.nsIn K mainGlobals "_law_leads" = some (some (.ref A_lleads))) (l_lleads : K.lookup A_lleads = some ⟨oc_lleads, od_lleads, .func (PySem.W.fnOf "_law_leads" "_law_leads" (defArgs s_lleads) (defBody s_lleads) (defScope s_lleads) .none kV_lleads doc_lleads pm_lleads an_lleads cdv_lleads ct_lleads), sl_lleads⟩) (c_lleads : PySem.W.codeIn K cdv_lleads "_law_leads" = true) (k_lleads : PySem.W.keepIn K (.ref A_lleads) = true) (a_chain : PySem.W.nsIn K mainGlobals "_law_chain" = some (some (.ref A_chain))) (l_chain : K.lookup A_chain = some ⟨oc_chain, od_chain, .func (PySem.W.fnOf "_law_chain" "_law_chain" (defArgs s_chain) (defBody s_chain) (defScope s_chain) .none kV_chain doc_chain pm_chain an_chain cdv_chain ct_chain), sl_chain⟩) (c_chain : PySem.W.codeIn K cdv_chain "_law_chain" = true) (k_chain : PySem.W.keepIn K (.ref A_chain) = true) (a_law : PySem.W.nsIn K mainGlobals "law" = some (some (.ref A_law))) (l_law : K.lookup A_law = some ⟨oc_law, od_law, .func (PySem.W.fnOf "law" "law" (defArgs s_law) (defBody s_law) (defScope s_law) .none kV_law doc_law pm_law an_law cdv_law ct_law), sl_law⟩) (c_law : PySem.W.codeIn K cdv_law "law" = true) (k_law : PySem.W.keepIn K (.ref A_law) = true) (top_super : (P.main.scope.names.lookup ("super" : Str)).isSome = false) (st_thirdparty : PySem.W.nsIn K cStatics "thirdparty.any" = some none) (z_isinstance : PySem.W.nsIn K mainGlobals "isinstance" = some none) (z_int : PySem.W.nsIn K mainGlobals "int" = some none) (z_bool : PySem.W.nsIn K mainGlobals "bool" = some none) (z_max : PySem.W.nsIn K mainGlobals "max" = some none) (z_list : PySem.W.nsIn K mainGlobals "list" = some none) (z_str : PySem.W.nsIn K mainGlobals "str" = some none) (z_enumerate : PySem.W.nsIn K mainGlobals "enumerate" = some none) (z_len : PySem.W.nsIn K mainGlobals "len" = some none) (z_tuple : PySem.W.nsIn K mainGlobals "tuple" = some none) (z_min : PySem.W.nsIn K mainGlobals "min" = some none) (z_range : PySem.W.nsIn K mainGlobals "range" = some none) (z_sum : PySem.W.nsIn K mainGlobals "sum" = some none) (z_reversed : PySem.W.nsIn K mainGlobals "reversed" = some none) (z_repr : PySem.W.nsIn K mainGlobals "repr" = some none) (z_super : PySem.W.nsIn K mainGlobals "super" = some none) (ac_PERIOD : PySem.W.nsIn K mainGlobals "PERIOD" = some (some (.int 2000 t_PERIOD))) (ab_lcm : PySem.W.nsIn K mainGlobals "lcm" = some (some (.builtin "math.lcm"))) (ac_FORMS : PySem.W.nsIn K mainGlobals "FORMS" = some (some (.int 6 t_FORMS))) (ac_BORDERS : PySem.W.nsIn K mainGlobals "BORDERS" = some (some (.int 12 t_BORDERS))) (ac_LETTERS : PySem.W.nsIn K mainGlobals "LETTERS" = some (some (.str "abcdefghijklmnopqrstuvwxyz" t_LETTERS))) (ac_DIGITS : PySem.W.nsIn K mainGlobals "DIGITS" = some (some (.str "0123456789" t_DIGITS))) (ac_MOST_ERROR : PySem.W.nsIn K mainGlobals "MOST_ERROR" = some (some (.int 100 t_MOST_ERROR))) (ac_MOST_PLACES : PySem.W.nsIn K mainGlobals "MOST_PLACES" = some (some (.int 12 t_MOST_PLACES))) (pg_Window : PySem.W.plainGet K C_Window Str.empty = true) (hd_Window : PySem.W.hasDictIn K C_Window = true) (po_Window : PySem.W.plainOver K C_Window = true) (sa_Window : PySem.W.findIn K (.ref C_Window) "__setattr__" = some (some (.builtin "object.__setattr__"))) (mk_Window : PySem.W.makesIn K C_Window = true) (kc_Window : PySem.W.keepIn K (.ref C_Window) = true) (th_Window : PySem.W.findIn K (.ref C_Window) "__class__" = some (some (.builtin "object.__class__"))) (tn_Window : PySem.W.specialIn K (.builtin "object.__class__") "__get__" = some (some (.builtin "getset_descriptor.__get__"))) (tk_Window : PySem.W.takesIn K (.builtin "object.__class__") = some true) (tm_Window : PySem.W.mroIn K C_Window (.type "object") = some true) (kt_Window_Rest : PySem.W.kitOne K (.ref C_Window) (.ref C_Rest) = some true) (su_Window : PySem.W.mroIn K C_Window (.ref C_Window) = some true) (sm_Window : PySem.W.ks_superIn K C_Window C_Window "__init__" = some (some (.ref A_Rest_init))) (sf_Window : PySem.W.fnIn K A_Rest_init = true) (st_Window : PySem.W.typeIn K (.ref A_Rest_init) = some (.type "function")) (no_Window_text : PySem.W.findIn K (.ref C_Window) "_text" = some none) (no_Window_forms : PySem.W.findIn K (.ref C_Window) "_forms" = some none) (no_Window_period : PySem.W.findIn K (.ref C_Window) "_period" = some none) (no_Window_bend : PySem.W.findIn K (.ref C_Window) "_bend" = some none) (no_Window_width : PySem.W.findIn K (.ref C_Window) "width" = some none) (me_Window_after : PySem.W.findIn K (.ref C_Window) "_after" = some (some (.ref A_Window_after))) (mi_Window_after : PySem.W.isFn K (.ref A_Window_after) = true) (me_Window_forms : PySem.W.findIn K (.ref C_Window) "forms" = some (some (.ref A_Rest_forms))) (mi_Window_forms : PySem.W.isFn K (.ref A_Rest_forms) = true) (me_Window_period : PySem.W.findIn K (.ref C_Window) "period" = some (some (.ref A_Rest_period))) (mi_Window_period : PySem.W.isFn K (.ref A_Rest_period) = true) (me_Window_bend : PySem.W.findIn K (.ref C_Window) "bend" = some (some (.ref A_Rest_bend))) (mi_Window_bend : PySem.W.isFn K (.ref A_Rest_bend) = true) (me_Window_written : PySem.W.findIn K (.ref C_Window) "written" = some (some (.ref A_Rest_written))) (mi_Window_written : PySem.W.isFn K (.ref A_Rest_written) = true) (co_Window : PySem.W.findIn K (.ref C_Window) "__call__" = some (some (.ref A_Rest_call))) (ci_Window : PySem.W.isFn K (.ref A_Rest_call) = true) (cf_Window : PySem.W.fnIn K A_Rest_call = true) (pg_Days : PySem.W.plainGet K C_Days Str.empty = true) (hd_Days : PySem.W.hasDictIn K C_Days = true) (po_Days : PySem.W.plainOver K C_Days = true) (sa_Days : PySem.W.findIn K (.ref C_Days) "__setattr__" = some (some (.builtin "object.__setattr__"))) (mk_Days : PySem.W.makesIn K C_Days = true) (kc_Days : PySem.W.keepIn K (.ref C_Days) = true) (th_Days : PySem.W.findIn K (.ref C_Days) "__class__" = some (some (.builtin "object.__class__"))) (tn_Days : PySem.W.specialIn K (.builtin "object.__class__") "__get__" = some (some (.builtin "getset_descriptor.__get__"))) (tk_Days : PySem.W.takesIn K (.builtin "object.__class__") = some true) (tm_Days : PySem.W.mroIn K C_Days (.type "object") = some true) (kt_Days_Rest : PySem.W.kitOne K (.ref C_Days) (.ref C_Rest) = some true) (su_Days : PySem.W.mroIn K C_Days (.ref C_Days) = some true) (sm_Days : PySem.W.ks_superIn K C_Days C_Days "__init__" = some (some (.ref A_Rest_init))) (sf_Days : PySem.W.fnIn K A_Rest_init = true) (st_Days : PySem.W.typeIn K (.ref A_Rest_init) = some (.type "function")) (no_Days_text : PySem.W.findIn K (.ref C_Days) "_text" = some none) (no_Days_forms : PySem.W.findIn K (.ref C_Days) "_forms" = some none) (no_Days_period : PySem.W.findIn K (.ref C_Days) "_period" = some none) (no_Days_bend : PySem.W.findIn K (.ref C_Days) "_bend" = some none) (no_Days_every : PySem.W.findIn K (.ref C_Days) "every" = some none) (no_Days_borders : PySem.W.findIn K (.ref C_Days) "_borders" = some none) (me_Days_after : PySem.W.findIn K (.ref C_Days) "_after" = some (some (.ref A_Days_after))) (mi_Days_after : PySem.W.isFn K (.ref A_Days_after) = true) (me_Days_forms : PySem.W.findIn K (.ref C_Days) "forms" = some (some (.ref A_Rest_forms))) (mi_Days_forms : PySem.W.isFn K (.ref A_Rest_forms) = true) (me_Days_period : PySem.W.findIn K (.ref C_Days) "period" = some (some (.ref A_Rest_period))) (mi_Days_period : PySem.W.isFn K (.ref A_Rest_period) = true) (me_Days_bend : PySem.W.findIn K (.ref C_Days) "bend" = some (some (.ref A_Rest_bend))) (mi_Days_bend : PySem.W.isFn K (.ref A_Rest_bend) = true) (me_Days_written : PySem.W.findIn K (.ref C_Days) "written" = some (some (.ref A_Rest_written))) (mi_Days_written : PySem.W.isFn K (.ref A_Rest_written) = true) (co_Days : PySem.W.findIn K (.ref C_Days) "__call__" = some (some (.ref A_Rest_call))) (ci_Days : PySem.W.isFn K (.ref A_Rest_call) = true) (cf_Days : PySem.W.fnIn K A_Rest_call = true) (pg_Later : PySem.W.plainGet K C_Later Str.empty = true) (hd_Later : PySem.W.hasDictIn K C_Later = true) (po_Later : PySem.W.plainOver K C_Later = true) (sa_Later : PySem.W.findIn K (.ref C_Later) "__setattr__" = some (some (.builtin "object.__setattr__"))) (mk_Later : PySem.W.makesIn K C_Later = true) (kc_Later : PySem.W.keepIn K (.ref C_Later) = true) (th_Later : PySem.W.findIn K (.ref C_Later) "__class__" = some (some (.builtin "object.__class__"))) (tn_Later : PySem.W.specialIn K (.builtin "object.__class__") "__get__" = some (some (.builtin "getset_descriptor.__get__"))) (tk_Later : PySem.W.takesIn K (.builtin "object.__class__") = some true) (tm_Later : PySem.W.mroIn K C_Later (.type "object") = some true) (kt_Later_Rest : PySem.W.kitOne K (.ref C_Later) (.ref C_Rest) = some true) (su_Later : PySem.W.mroIn K C_Later (.ref C_Later) = some true) (sm_Later : PySem.W.ks_superIn K C_Later C_Later "__init__" = some (some (.ref A_Rest_init))) (sf_Later : PySem.W.fnIn K A_Rest_init = true) (st_Later : PySem.W.typeIn K (.ref A_Rest_init) = some (.type "function")) (no_Later_text : PySem.W.findIn K (.ref C_Later) "_text" = some none) (no_Later_forms : PySem.W.findIn K (.ref C_Later) "_forms" = some none) (no_Later_period : PySem.W.findIn K (.ref C_Later) "_period" = some none) (no_Later_bend : PySem.W.findIn K (.ref C_Later) "_bend" = some none) (no_Later_first : PySem.W.findIn K (.ref C_Later) "first" = some none) (no_Later_second : PySem.W.findIn K (.ref C_Later) "second" = some none) (me_Later_after : PySem.W.findIn K (.ref C_Later) "_after" = some (some (.ref A_Later_after))) (mi_Later_after : PySem.W.isFn K (.ref A_Later_after) = true) (me_Later_forms : PySem.W.findIn K (.ref C_Later) "forms" = some (some (.ref A_Rest_forms))) (mi_Later_forms : PySem.W.isFn K (.ref A_Rest_forms) = true) (me_Later_period : PySem.W.findIn K (.ref C_Later) "period" = some (some (.ref A_Rest_period))) (mi_Later_period : PySem.W.isFn K (.ref A_Rest_period) = true) (me_Later_bend : PySem.W.findIn K (.ref C_Later) "bend" = some (some (.ref A_Rest_bend))) (mi_Later_bend : PySem.W.isFn K (.ref A_Rest_bend) = true) (me_Later_written : PySem.W.findIn K (.ref C_Later) "written" = some (some (.ref A_Rest_written))) (mi_Later_written : PySem.W.isFn K (.ref A_Rest_written) = true) (co_Later : PySem.W.findIn K (.ref C_Later) "__call__" = some (some (.ref A_Rest_call))) (ci_Later : PySem.W.isFn K (.ref A_Rest_call) = true) (cf_Later : PySem.W.fnIn K A_Rest_call = true) (pg_Sooner : PySem.W.plainGet K C_Sooner Str.empty = true) (hd_Sooner : PySem.W.hasDictIn K C_Sooner = true) (po_Sooner : PySem.W.plainOver K C_Sooner = true) (sa_Sooner : PySem.W.findIn K (.ref C_Sooner) "__setattr__" = some (some (.builtin "object.__setattr__"))) (mk_Sooner : PySem.W.makesIn K C_Sooner = true) (kc_Sooner : PySem.W.keepIn K (.ref C_Sooner) = true) (th_Sooner : PySem.W.findIn K (.ref C_Sooner) "__class__" = some (some (.builtin "object.__class__"))) (tn_Sooner : PySem.W.specialIn K (.builtin "object.__class__") "__get__" = some (some (.builtin "getset_descriptor.__get__"))) (tk_Sooner : PySem.W.takesIn K (.builtin "object.__class__") = some true) (tm_Sooner : PySem.W.mroIn K C_Sooner (.type "object") = some true) (kt_Sooner_Rest : PySem.W.kitOne K (.ref C_Sooner) (.ref C_Rest) = some true) (su_Sooner : PySem.W.mroIn K C_Sooner (.ref C_Sooner) = some true) (sm_Sooner : PySem.W.ks_superIn K C_Sooner C_Sooner "__init__" = some (some (.ref A_Rest_init))) (sf_Sooner : PySem.W.fnIn K A_Rest_init = true) (st_Sooner : PySem.W.typeIn K (.ref A_Rest_init) = some (.type "function")) (no_Sooner_text : PySem.W.findIn K (.ref C_Sooner) "_text" = some none) (no_Sooner_forms : PySem.W.findIn K (.ref C_Sooner) "_forms" = some none) (no_Sooner_period : PySem.W.findIn K (.ref C_Sooner) "_period" = some none) (no_Sooner_bend : PySem.W.findIn K (.ref C_Sooner) "_bend" = some none) (no_Sooner_first : PySem.W.findIn K (.ref C_Sooner) "first" = some none) (no_Sooner_second : PySem.W.findIn K (.ref C_Sooner) "second" = some none) (me_Sooner_after : PySem.W.findIn K (.ref C_Sooner) "_after" = some (some (.ref A_Sooner_after))) (mi_Sooner_after : PySem.W.isFn K (.ref A_Sooner_after) = true) (me_Sooner_forms : PySem.W.findIn K (.ref C_Sooner) "forms" = some (some (.ref A_Rest_forms))) (mi_Sooner_forms : PySem.W.isFn K (.ref A_Rest_forms) = true) (me_Sooner_period : PySem.W.findIn K (.ref C_Sooner) "period" = some (some (.ref A_Rest_period))) (mi_Sooner_period : PySem.W.isFn K (.ref A_Rest_period) = true) (me_Sooner_bend : PySem.W.findIn K (.ref C_Sooner) "bend" = some (some (.ref A_Rest_bend))) (mi_Sooner_bend : PySem.W.isFn K (.ref A_Rest_bend) = true) (me_Sooner_written : PySem.W.findIn K (.ref C_Sooner) "written" = some (some (.ref A_Rest_written))) (mi_Sooner_written : PySem.W.isFn K (.ref A_Rest_written) = true) (co_Sooner : PySem.W.findIn K (.ref C_Sooner) "__call__" = some (some (.ref A_Rest_call))) (ci_Sooner : PySem.W.isFn K (.ref A_Rest_call) = true) (cf_Sooner : PySem.W.fnIn K A_Rest_call = true) (pg_Next : PySem.W.plainGet K C_Next Str.empty = true) (hd_Next : PySem.W.hasDictIn K C_Next = true) (po_Next : PySem.W.plainOver K C_Next = true) (sa_Next : PySem.W.findIn K (.ref C_Next) "__setattr__" = some (some (.builtin "object.__setattr__"))) (mk_Next : PySem.W.makesIn K C_Next = true) (kc_Next : PySem.W.keepIn K (.ref C_Next) = true) (th_Next : PySem.W.findIn K (.ref C_Next) "__class__" = some (some (.builtin "object.__class__"))) (tn_Next : PySem.W.specialIn K (.builtin "object.__class__") "__get__" = some (some (.builtin "getset_descriptor.__get__"))) (tk_Next : PySem.W.takesIn K (.builtin "object.__class__") = some true) (tm_Next : PySem.W.mroIn K C_Next (.type "object") = some true) (kt_Next_Rest : PySem.W.kitOne K (.ref C_Next) (.ref C_Rest) = some true) (su_Next : PySem.W.mroIn K C_Next (.ref C_Next) = some true) (sm_Next : PySem.W.ks_superIn K C_Next C_Next "__init__" = some (some (.ref A_Rest_init))) (sf_Next : PySem.W.fnIn K A_Rest_init = true) (st_Next : PySem.W.typeIn K (.ref A_Rest_init) = some (.type "function")) (no_Next_text : PySem.W.findIn K (.ref C_Next) "_text" = some none) (no_Next_forms : PySem.W.findIn K (.ref C_Next) "_forms" = some none) (no_Next_period : PySem.W.findIn K (.ref C_Next) "_period" = some none) (no_Next_bend : PySem.W.findIn K (.ref C_Next) "_bend" = some none) (no_Next_first : PySem.W.findIn K (.ref C_Next) "first" = some none) (no_Next_second : PySem.W.findIn K (.ref C_Next) "second" = some none) (me_Next_after : PySem.W.findIn K (.ref C_Next) "_after" = some (some (.ref A_Next_after))) (mi_Next_after : PySem.W.isFn K (.ref A_Next_after) = true) (me_Next_forms : PySem.W.findIn K (.ref C_Next) "forms" = some (some (.ref A_Rest_forms))) (mi_Next_forms : PySem.W.isFn K (.ref A_Rest_forms) = true) (me_Next_period : PySem.W.findIn K (.ref C_Next) "period" = some (some (.ref A_Rest_period))) (mi_Next_period : PySem.W.isFn K (.ref A_Rest_period) = true) (me_Next_bend : PySem.W.findIn K (.ref C_Next) "bend" = some (some (.ref A_Rest_bend))) (mi_Next_bend : PySem.W.isFn K (.ref A_Rest_bend) = true) (me_Next_written : PySem.W.findIn K (.ref C_Next) "written" = some (some (.ref A_Rest_written))) (mi_Next_written : PySem.W.isFn K (.ref A_Rest_written) = true) (co_Next : PySem.W.findIn K (.ref C_Next) "__call__" = some (some (.ref A_Rest_call))) (ci_Next : PySem.W.isFn K (.ref A_Rest_call) = true) (cf_Next : PySem.W.fnIn K A_Rest_call = true) (pg_Net : PySem.W.plainGet K C_Net Str.empty = true) (hd_Net : PySem.W.hasDictIn K C_Net = true) (po_Net : PySem.W.plainOver K C_Net = true) (sa_Net : PySem.W.findIn K (.ref C_Net) "__setattr__" = some (some (.builtin "object.__setattr__"))) (mk_Net : PySem.W.makesIn K C_Net = true) (kc_Net : PySem.W.keepIn K (.ref C_Net) = true) (no_Net_rest : PySem.W.findIn K (.ref C_Net) "rest" = some none) (no_Net_known : PySem.W.findIn K (.ref C_Net) "_known" = some none) (no_Net_dists : PySem.W.findIn K (.ref C_Net) "_dists" = some none) (no_Net_kappas : PySem.W.findIn K (.ref C_Net) "_kappas" = some none) (me_Net_row : PySem.W.findIn K (.ref C_Net) "_row" = some (some (.ref A_Net_row))) (mi_Net_row : PySem.W.isFn K (.ref A_Net_row) = true) (me_Net_error_of : PySem.W.findIn K (.ref C_Net) "error_of" = some (some (.ref A_Net_error_of))) (mi_Net_error_of : PySem.W.isFn K (.ref A_Net_error_of) = true) (me_Net_kappa : PySem.W.findIn K (.ref C_Net) "kappa" = some (some (.ref A_Net_kappa))) (mi_Net_kappa : PySem.W.isFn K (.ref A_Net_kappa) = true) :
    ∃ fd : FuncData, (∀ (s : Shared) (v : Value), BindsTo s fd ⟨[v], []⟩ [("_law_script", v)]) ∧ ∀ base : Heap, K.In base → base.Ns mainGlobals mg → FnG P w K mg base 20 fa fd ["_law_script"] (spLaw K) := by
  have e := hfa.symm.trans (PySem.W.mg_of X G a_law)
  cases e
  exact ⟨_, fun s v => .of_eq rfl, fun base _ _ => ok_law (tx_mk X G aC_Rest aC_Window aC_Days aC_Later aC_Sooner aC_Next aC_Net a_is_number l_is_number c_is_number k_is_number a_is_name l_is_name c_is_name k_is_name a_leads l_leads c_leads k_leads a_Rest_init i_Rest_init l_Rest_init c_Rest_init k_Rest_init a_Rest_call i_Rest_call l_Rest_call c_Rest_call k_Rest_call a_Rest_forms i_Rest_forms l_Rest_forms c_Rest_forms k_Rest_forms a_Rest_period i_Rest_period l_Rest_period c_Rest_period k_Rest_period a_Rest_bend i_Rest_bend l_Rest_bend c_Rest_bend k_Rest_bend a_Rest_written i_Rest_written l_Rest_written c_Rest_written k_Rest_written a_Window_init i_Window_init l_Window_init c_Window_init k_Window_init cell_Window_init code_Window_init vs_Window_init fl_Window_init cd_Window_init a_Window_after i_Window_after l_Window_after c_Window_after k_Window_after a_Days_init i_Days_init l_Days_init c_Days_init k_Days_init cell_Days_init code_Days_init vs_Days_init fl_Days_init cd_Days_init a_Days_after i_Days_after l_Days_after c_Days_after k_Days_after a_joined l_joined c_joined k_joined a_Later_init i_Later_init l_Later_init c_Later_init k_Later_init cell_Later_init code_Later_init vs_Later_init fl_Later_init cd_Later_init a_Later_after i_Later_after l_Later_after c_Later_after k_Later_after a_Sooner_init i_Sooner_init l_Sooner_init c_Sooner_init k_Sooner_init cell_Sooner_init code_Sooner_init vs_Sooner_init fl_Sooner_init cd_Sooner_init a_Sooner_after i_Sooner_after l_Sooner_after c_Sooner_after k_Sooner_after a_Next_init i_Next_init l_Next_init c_Next_init k_Next_init cell_Next_init code_Next_init vs_Next_init fl_Next_init cd_Next_init a_Next_after i_Next_after l_Next_after c_Next_after k_Next_after a_isrow l_isrow c_isrow k_isrow a_alldists l_alldists c_alldists k_alldists a_allkappas l_allkappas c_allkappas k_allkappas a_Net_init i_Net_init l_Net_init c_Net_init k_Net_init a_Net_row i_Net_row l_Net_row c_Net_row k_Net_row a_Net_error_of i_Net_error_of l_Net_error_of c_Net_error_of k_Net_error_of a_Net_kappa i_Net_kappa l_Net_kappa c_Net_kappa k_Net_kappa a_box l_box c_box k_box a_take l_take c_take k_take a_plain_form l_plain_form c_plain_form k_plain_form a_form l_form c_form k_form a_after l_after c_after k_after a_made l_made c_made k_made a_rows l_rows c_rows k_rows a_net l_net c_net k_net a_row l_row c_row k_row a_line l_line c_line k_line a_far l_far c_far k_far a_gap l_gap c_gap k_gap a_need l_need c_need k_need a_lleads l_lleads c_lleads k_lleads a_chain l_chain c_chain k_chain a_law l_law c_law k_law top_super st_thirdparty z_isinstance z_int z_bool z_max z_list z_str z_enumerate z_len z_tuple z_min z_range z_sum z_reversed z_repr z_super ac_PERIOD ab_lcm ac_FORMS ac_BORDERS ac_LETTERS ac_DIGITS ac_MOST_ERROR ac_MOST_PLACES pg_Window hd_Window po_Window sa_Window mk_Window kc_Window th_Window tn_Window tk_Window tm_Window kt_Window_Rest su_Window sm_Window sf_Window st_Window no_Window_text no_Window_forms no_Window_period no_Window_bend no_Window_width me_Window_after mi_Window_after me_Window_forms mi_Window_forms me_Window_period mi_Window_period me_Window_bend mi_Window_bend me_Window_written mi_Window_written co_Window ci_Window cf_Window pg_Days hd_Days po_Days sa_Days mk_Days kc_Days th_Days tn_Days tk_Days tm_Days kt_Days_Rest su_Days sm_Days sf_Days st_Days no_Days_text no_Days_forms no_Days_period no_Days_bend no_Days_every no_Days_borders me_Days_after mi_Days_after me_Days_forms mi_Days_forms me_Days_period mi_Days_period me_Days_bend mi_Days_bend me_Days_written mi_Days_written co_Days ci_Days cf_Days pg_Later hd_Later po_Later sa_Later mk_Later kc_Later th_Later tn_Later tk_Later tm_Later kt_Later_Rest su_Later sm_Later sf_Later st_Later no_Later_text no_Later_forms no_Later_period no_Later_bend no_Later_first no_Later_second me_Later_after mi_Later_after me_Later_forms mi_Later_forms me_Later_period mi_Later_period me_Later_bend mi_Later_bend me_Later_written mi_Later_written co_Later ci_Later cf_Later pg_Sooner hd_Sooner po_Sooner sa_Sooner mk_Sooner kc_Sooner th_Sooner tn_Sooner tk_Sooner tm_Sooner kt_Sooner_Rest su_Sooner sm_Sooner sf_Sooner st_Sooner no_Sooner_text no_Sooner_forms no_Sooner_period no_Sooner_bend no_Sooner_first no_Sooner_second me_Sooner_after mi_Sooner_after me_Sooner_forms mi_Sooner_forms me_Sooner_period mi_Sooner_period me_Sooner_bend mi_Sooner_bend me_Sooner_written mi_Sooner_written co_Sooner ci_Sooner cf_Sooner pg_Next hd_Next po_Next sa_Next mk_Next kc_Next th_Next tn_Next tk_Next tm_Next kt_Next_Rest su_Next sm_Next sf_Next st_Next no_Next_text no_Next_forms no_Next_period no_Next_bend no_Next_first no_Next_second me_Next_after mi_Next_after me_Next_forms mi_Next_forms me_Next_period mi_Next_period me_Next_bend mi_Next_bend me_Next_written mi_Next_written co_Next ci_Next cf_Next pg_Net hd_Net po_Net sa_Net mk_Net kc_Net no_Net_rest no_Net_known no_Net_dists no_Net_kappas me_Net_row mi_Net_row me_Net_error_of mi_Net_error_of me_Net_kappa mi_Net_kappa)⟩
theorem walk {q : Program} {loose : List Str} {XP : (Str → Option Value) → Heap → Prop} {YP : World → Heap → Prop} {d : DefRec} {K : Params → PySem.W.Frag} (hn : PySem.Challenge.rw_surelet_k80_whole_leads_are_transitive.most = some 63) (hdf : d.params.defaults = [])
    (hY : ∀ (w : World) (h : Heap), YP w h → (K w.params).In h)
    (F : ∀ (w : World) (mg : Str → Option Value) (fa : Addr) (h : Heap), (K w.params).In h → h.Ns mainGlobals mg → mg d.name = some (.ref fa) →
      ∃ fd : FuncData, (∀ (s : Shared) (u : Value), BindsTo s fd ⟨[u], []⟩ [("_law_script", u)]) ∧ ∀ base : Heap, (K w.params).In base → base.Ns mainGlobals mg → FnG P w (K w.params) mg base 20 fa fd ["_law_script"] (spLaw (K w.params))) :
    PySem.W.WalkO q loose XP YP PySem.Challenge.rw_surelet_k80_whole_leads_are_transitive.row.toRowW d [] (fun f vs => PySem.call f vs) :=
  walk_lawG (l := PySem.Challenge.rw_surelet_k80_whole_leads_are_transitive) (m := 63) (n := 20) (x := "_law_script") (sp := fun K => spLaw K) hn (by decide) hdf ⟨rfl, by decide, by decide⟩ hY F (fun _ _ a ns hl hS => ⟨a, ns, rfl, hS, hl, fun _ => rfl⟩)
end Law

open PySem PySem.W PyProof.Rows in
set_option maxRecDepth 100000 in
set_option maxHeartbeats 0 in
theorem PySem.Challenge.cw_surelet_k80_whole_leads_are_transitive_holds : PySem.Challenge.rw_surelet_k80_whole_leads_are_transitive.Holds := by
  w_on; o_law; k_head; (case hw => w_witness2)
  k_fill
  refine Law.walk rfl rfl (fun w h Y => PySem.W.kIn_of Y) ?F
  case F =>
    intro w mg fa h KX G hmg
    refine' Law.all_mk KX G hmg ?aC_Rest ?aC_Window ?aC_Days ?aC_Later ?aC_Sooner ?aC_Next ?aC_Net ?a_is_number ?l_is_number ?c_is_number ?k_is_number ?a_is_name ?l_is_name ?c_is_name ?k_is_name ?a_leads ?l_leads ?c_leads ?k_leads ?a_Rest_init ?i_Rest_init ?l_Rest_init ?c_Rest_init ?k_Rest_init ?a_Rest_call ?i_Rest_call ?l_Rest_call ?c_Rest_call ?k_Rest_call ?a_Rest_forms ?i_Rest_forms ?l_Rest_forms ?c_Rest_forms ?k_Rest_forms ?a_Rest_period ?i_Rest_period ?l_Rest_period ?c_Rest_period ?k_Rest_period ?a_Rest_bend ?i_Rest_bend ?l_Rest_bend ?c_Rest_bend ?k_Rest_bend ?a_Rest_written ?i_Rest_written ?l_Rest_written ?c_Rest_written ?k_Rest_written ?a_Window_init ?i_Window_init ?l_Window_init ?c_Window_init ?k_Window_init ?cell_Window_init ?code_Window_init ?vs_Window_init ?fl_Window_init ?cd_Window_init ?a_Window_after ?i_Window_after ?l_Window_after ?c_Window_after ?k_Window_after ?a_Days_init ?i_Days_init ?l_Days_init ?c_Days_init ?k_Days_init ?cell_Days_init ?code_Days_init ?vs_Days_init ?fl_Days_init ?cd_Days_init ?a_Days_after ?i_Days_after ?l_Days_after ?c_Days_after ?k_Days_after ?a_joined ?l_joined ?c_joined ?k_joined ?a_Later_init ?i_Later_init ?l_Later_init ?c_Later_init ?k_Later_init ?cell_Later_init ?code_Later_init ?vs_Later_init ?fl_Later_init ?cd_Later_init ?a_Later_after ?i_Later_after ?l_Later_after ?c_Later_after ?k_Later_after ?a_Sooner_init ?i_Sooner_init ?l_Sooner_init ?c_Sooner_init ?k_Sooner_init ?cell_Sooner_init ?code_Sooner_init ?vs_Sooner_init ?fl_Sooner_init ?cd_Sooner_init ?a_Sooner_after ?i_Sooner_after ?l_Sooner_after ?c_Sooner_after ?k_Sooner_after ?a_Next_init ?i_Next_init ?l_Next_init ?c_Next_init ?k_Next_init ?cell_Next_init ?code_Next_init ?vs_Next_init ?fl_Next_init ?cd_Next_init ?a_Next_after ?i_Next_after ?l_Next_after ?c_Next_after ?k_Next_after ?a_isrow ?l_isrow ?c_isrow ?k_isrow ?a_alldists ?l_alldists ?c_alldists ?k_alldists ?a_allkappas ?l_allkappas ?c_allkappas ?k_allkappas ?a_Net_init ?i_Net_init ?l_Net_init ?c_Net_init ?k_Net_init ?a_Net_row ?i_Net_row ?l_Net_row ?c_Net_row ?k_Net_row ?a_Net_error_of ?i_Net_error_of ?l_Net_error_of ?c_Net_error_of ?k_Net_error_of ?a_Net_kappa ?i_Net_kappa ?l_Net_kappa ?c_Net_kappa ?k_Net_kappa ?a_box ?l_box ?c_box ?k_box ?a_take ?l_take ?c_take ?k_take ?a_plain_form ?l_plain_form ?c_plain_form ?k_plain_form ?a_form ?l_form ?c_form ?k_form ?a_after ?l_after ?c_after ?k_after ?a_made ?l_made ?c_made ?k_made ?a_rows ?l_rows ?c_rows ?k_rows ?a_net ?l_net ?c_net ?k_net ?a_row ?l_row ?c_row ?k_row ?a_line ?l_line ?c_line ?k_line ?a_far ?l_far ?c_far ?k_far ?a_gap ?l_gap ?c_gap ?k_gap ?a_need ?l_need ?c_need ?k_need ?a_lleads ?l_lleads ?c_lleads ?k_lleads ?a_chain ?l_chain ?c_chain ?k_chain ?a_law ?l_law ?c_law ?k_law ?top_super ?st_thirdparty ?z_isinstance ?z_int ?z_bool ?z_max ?z_list ?z_str ?z_enumerate ?z_len ?z_tuple ?z_min ?z_range ?z_sum ?z_reversed ?z_repr ?z_super ?ac_PERIOD ?ab_lcm ?ac_FORMS ?ac_BORDERS ?ac_LETTERS ?ac_DIGITS ?ac_MOST_ERROR ?ac_MOST_PLACES ?pg_Window ?hd_Window ?po_Window ?sa_Window ?mk_Window ?kc_Window ?th_Window ?tn_Window ?tk_Window ?tm_Window ?kt_Window_Rest ?su_Window ?sm_Window ?sf_Window ?st_Window ?no_Window_text ?no_Window_forms ?no_Window_period ?no_Window_bend ?no_Window_width ?me_Window_after ?mi_Window_after ?me_Window_forms ?mi_Window_forms ?me_Window_period ?mi_Window_period ?me_Window_bend ?mi_Window_bend ?me_Window_written ?mi_Window_written ?co_Window ?ci_Window ?cf_Window ?pg_Days ?hd_Days ?po_Days ?sa_Days ?mk_Days ?kc_Days ?th_Days ?tn_Days ?tk_Days ?tm_Days ?kt_Days_Rest ?su_Days ?sm_Days ?sf_Days ?st_Days ?no_Days_text ?no_Days_forms ?no_Days_period ?no_Days_bend ?no_Days_every ?no_Days_borders ?me_Days_after ?mi_Days_after ?me_Days_forms ?mi_Days_forms ?me_Days_period ?mi_Days_period ?me_Days_bend ?mi_Days_bend ?me_Days_written ?mi_Days_written ?co_Days ?ci_Days ?cf_Days ?pg_Later ?hd_Later ?po_Later ?sa_Later ?mk_Later ?kc_Later ?th_Later ?tn_Later ?tk_Later ?tm_Later ?kt_Later_Rest ?su_Later ?sm_Later ?sf_Later ?st_Later ?no_Later_text ?no_Later_forms ?no_Later_period ?no_Later_bend ?no_Later_first ?no_Later_second ?me_Later_after ?mi_Later_after ?me_Later_forms ?mi_Later_forms ?me_Later_period ?mi_Later_period ?me_Later_bend ?mi_Later_bend ?me_Later_written ?mi_Later_written ?co_Later ?ci_Later ?cf_Later ?pg_Sooner ?hd_Sooner ?po_Sooner ?sa_Sooner ?mk_Sooner ?kc_Sooner ?th_Sooner ?tn_Sooner ?tk_Sooner ?tm_Sooner ?kt_Sooner_Rest ?su_Sooner ?sm_Sooner ?sf_Sooner ?st_Sooner ?no_Sooner_text ?no_Sooner_forms ?no_Sooner_period ?no_Sooner_bend ?no_Sooner_first ?no_Sooner_second ?me_Sooner_after ?mi_Sooner_after ?me_Sooner_forms ?mi_Sooner_forms ?me_Sooner_period ?mi_Sooner_period ?me_Sooner_bend ?mi_Sooner_bend ?me_Sooner_written ?mi_Sooner_written ?co_Sooner ?ci_Sooner ?cf_Sooner ?pg_Next ?hd_Next ?po_Next ?sa_Next ?mk_Next ?kc_Next ?th_Next ?tn_Next ?tk_Next ?tm_Next ?kt_Next_Rest ?su_Next ?sm_Next ?sf_Next ?st_Next ?no_Next_text ?no_Next_forms ?no_Next_period ?no_Next_bend ?no_Next_first ?no_Next_second ?me_Next_after ?mi_Next_after ?me_Next_forms ?mi_Next_forms ?me_Next_period ?mi_Next_period ?me_Next_bend ?mi_Next_bend ?me_Next_written ?mi_Next_written ?co_Next ?ci_Next ?cf_Next ?pg_Net ?hd_Net ?po_Net ?sa_Net ?mk_Net ?kc_Net ?no_Net_rest ?no_Net_known ?no_Net_dists ?no_Net_kappas ?me_Net_row ?mi_Net_row ?me_Net_error_of ?mi_Net_error_of ?me_Net_kappa ?mi_Net_kappa
    (case aC_Rest => k_is)
    (case aC_Window => k_is)
    (case aC_Days => k_is)
    (case aC_Later => k_is)
    (case aC_Sooner => k_is)
    (case aC_Next => k_is)
    (case aC_Net => k_is)
    (case a_is_number => k_is)
    (case l_is_number => k_is)
    (case c_is_number => k_is)
    (case k_is_number => k_is)
    (case a_is_name => k_is)
    (case l_is_name => k_is)
    (case c_is_name => k_is)
    (case k_is_name => k_is)
    (case a_leads => k_is)
    (case l_leads => k_is)
    (case c_leads => k_is)
    (case k_leads => k_is)
    (case a_Rest_init => k_is)
    (case i_Rest_init => k_is)
    (case l_Rest_init => k_is)
    (case c_Rest_init => k_is)
    (case k_Rest_init => k_is)
    (case a_Rest_call => k_is)
    (case i_Rest_call => k_is)
    (case l_Rest_call => k_is)
    (case c_Rest_call => k_is)
    (case k_Rest_call => k_is)
    (case a_Rest_forms => k_is)
    (case i_Rest_forms => k_is)
    (case l_Rest_forms => k_is)
    (case c_Rest_forms => k_is)
    (case k_Rest_forms => k_is)
    (case a_Rest_period => k_is)
    (case i_Rest_period => k_is)
    (case l_Rest_period => k_is)
    (case c_Rest_period => k_is)
    (case k_Rest_period => k_is)
    (case a_Rest_bend => k_is)
    (case i_Rest_bend => k_is)
    (case l_Rest_bend => k_is)
    (case c_Rest_bend => k_is)
    (case k_Rest_bend => k_is)
    (case a_Rest_written => k_is)
    (case i_Rest_written => k_is)
    (case l_Rest_written => k_is)
    (case c_Rest_written => k_is)
    (case k_Rest_written => k_is)
    (case a_Window_init => k_is)
    (case i_Window_init => k_is)
    (case l_Window_init => k_is)
    (case c_Window_init => k_is)
    (case k_Window_init => k_is)
    (case cell_Window_init => k_is)
    (case code_Window_init => k_is)
    (case vs_Window_init => exact rfl)
    (case fl_Window_init => decide +kernel)
    (case cd_Window_init => k_is)
    (case a_Window_after => k_is)
    (case i_Window_after => k_is)
    (case l_Window_after => k_is)
    (case c_Window_after => k_is)
    (case k_Window_after => k_is)
    (case a_Days_init => k_is)
    (case i_Days_init => k_is)
    (case l_Days_init => k_is)
    (case c_Days_init => k_is)
    (case k_Days_init => k_is)
    (case cell_Days_init => k_is)
    (case code_Days_init => k_is)
    (case vs_Days_init => exact rfl)
    (case fl_Days_init => decide +kernel)
    (case cd_Days_init => k_is)
    (case a_Days_after => k_is)
    (case i_Days_after => k_is)
    (case l_Days_after => k_is)
    (case c_Days_after => k_is)
    (case k_Days_after => k_is)
    (case a_joined => k_is)
    (case l_joined => k_is)
    (case c_joined => k_is)
    (case k_joined => k_is)
    (case a_Later_init => k_is)
    (case i_Later_init => k_is)
    (case l_Later_init => k_is)
    (case c_Later_init => k_is)
    (case k_Later_init => k_is)
    (case cell_Later_init => k_is)
    (case code_Later_init => k_is)
    (case vs_Later_init => exact rfl)
    (case fl_Later_init => decide +kernel)
    (case cd_Later_init => k_is)
    (case a_Later_after => k_is)
    (case i_Later_after => k_is)
    (case l_Later_after => k_is)
    (case c_Later_after => k_is)
    (case k_Later_after => k_is)
    (case a_Sooner_init => k_is)
    (case i_Sooner_init => k_is)
    (case l_Sooner_init => k_is)
    (case c_Sooner_init => k_is)
    (case k_Sooner_init => k_is)
    (case cell_Sooner_init => k_is)
    (case code_Sooner_init => k_is)
    (case vs_Sooner_init => exact rfl)
    (case fl_Sooner_init => decide +kernel)
    (case cd_Sooner_init => k_is)
    (case a_Sooner_after => k_is)
    (case i_Sooner_after => k_is)
    (case l_Sooner_after => k_is)
    (case c_Sooner_after => k_is)
    (case k_Sooner_after => k_is)
    (case a_Next_init => k_is)
    (case i_Next_init => k_is)
    (case l_Next_init => k_is)
    (case c_Next_init => k_is)
    (case k_Next_init => k_is)
    (case cell_Next_init => k_is)
    (case code_Next_init => k_is)
    (case vs_Next_init => exact rfl)
    (case fl_Next_init => decide +kernel)
    (case cd_Next_init => k_is)
    (case a_Next_after => k_is)
    (case i_Next_after => k_is)
    (case l_Next_after => k_is)
    (case c_Next_after => k_is)
    (case k_Next_after => k_is)
    (case a_isrow => k_is)
    (case l_isrow => k_is)
    (case c_isrow => k_is)
    (case k_isrow => k_is)
    (case a_alldists => k_is)
    (case l_alldists => k_is)
    (case c_alldists => k_is)
    (case k_alldists => k_is)
    (case a_allkappas => k_is)
    (case l_allkappas => k_is)
    (case c_allkappas => k_is)
    (case k_allkappas => k_is)
    (case a_Net_init => k_is)
    (case i_Net_init => k_is)
    (case l_Net_init => k_is)
    (case c_Net_init => k_is)
    (case k_Net_init => k_is)
    (case a_Net_row => k_is)
    (case i_Net_row => k_is)
    (case l_Net_row => k_is)
    (case c_Net_row => k_is)
    (case k_Net_row => k_is)
    (case a_Net_error_of => k_is)
    (case i_Net_error_of => k_is)
    (case l_Net_error_of => k_is)
    (case c_Net_error_of => k_is)
    (case k_Net_error_of => k_is)
    (case a_Net_kappa => k_is)
    (case i_Net_kappa => k_is)
    (case l_Net_kappa => k_is)
    (case c_Net_kappa => k_is)
    (case k_Net_kappa => k_is)
    (case a_box => k_is)
    (case l_box => k_is)
    (case c_box => k_is)
    (case k_box => k_is)
    (case a_take => k_is)
    (case l_take => k_is)
    (case c_take => k_is)
    (case k_take => k_is)
    (case a_plain_form => k_is)
    (case l_plain_form => k_is)
    (case c_plain_form => k_is)
    (case k_plain_form => k_is)
    (case a_form => k_is)
    (case l_form => k_is)
    (case c_form => k_is)
    (case k_form => k_is)
    (case a_after => k_is)
    (case l_after => k_is)
    (case c_after => k_is)
    (case k_after => k_is)
    (case a_made => k_is)
    (case l_made => k_is)
    (case c_made => k_is)
    (case k_made => k_is)
    (case a_rows => k_is)
    (case l_rows => k_is)
    (case c_rows => k_is)
    (case k_rows => k_is)
    (case a_net => k_is)
    (case l_net => k_is)
    (case c_net => k_is)
    (case k_net => k_is)
    (case a_row => k_is)
    (case l_row => k_is)
    (case c_row => k_is)
    (case k_row => k_is)
    (case a_line => k_is)
    (case l_line => k_is)
    (case c_line => k_is)
    (case k_line => k_is)
    (case a_far => k_is)
    (case l_far => k_is)
    (case c_far => k_is)
    (case k_far => k_is)
    (case a_gap => k_is)
    (case l_gap => k_is)
    (case c_gap => k_is)
    (case k_gap => k_is)
    (case a_need => k_is)
    (case l_need => k_is)
    (case c_need => k_is)
    (case k_need => k_is)
    (case a_lleads => k_is)
    (case l_lleads => k_is)
    (case c_lleads => k_is)
    (case k_lleads => k_is)
    (case a_chain => k_is)
    (case l_chain => k_is)
    (case c_chain => k_is)
    (case k_chain => k_is)
    (case a_law => k_is)
    (case l_law => k_is)
    (case c_law => k_is)
    (case k_law => k_is)
    (case top_super => decide +kernel)
    (case st_thirdparty => k_is)
    (case z_isinstance => k_is)
    (case z_int => k_is)
    (case z_bool => k_is)
    (case z_max => k_is)
    (case z_list => k_is)
    (case z_str => k_is)
    (case z_enumerate => k_is)
    (case z_len => k_is)
    (case z_tuple => k_is)
    (case z_min => k_is)
    (case z_range => k_is)
    (case z_sum => k_is)
    (case z_reversed => k_is)
    (case z_repr => k_is)
    (case z_super => k_is)
    (case ac_PERIOD => k_is)
    (case ab_lcm => k_is)
    (case ac_FORMS => k_is)
    (case ac_BORDERS => k_is)
    (case ac_LETTERS => k_is)
    (case ac_DIGITS => k_is)
    (case ac_MOST_ERROR => k_is)
    (case ac_MOST_PLACES => k_is)
    (case pg_Window => k_is)
    (case hd_Window => k_is)
    (case po_Window => k_is)
    (case sa_Window => k_is)
    (case mk_Window => k_is)
    (case kc_Window => k_is)
    (case th_Window => k_is)
    (case tn_Window => k_is)
    (case tk_Window => k_is)
    (case tm_Window => k_is)
    (case kt_Window_Rest => first | k_is | kernel_rfl)
    (case su_Window => k_is)
    (case sm_Window => first | ks_is | k_is)
    (case sf_Window => k_is)
    (case st_Window => k_is)
    (case no_Window_text => k_is)
    (case no_Window_forms => k_is)
    (case no_Window_period => k_is)
    (case no_Window_bend => k_is)
    (case no_Window_width => k_is)
    (case me_Window_after => k_is)
    (case mi_Window_after => k_is)
    (case me_Window_forms => k_is)
    (case mi_Window_forms => k_is)
    (case me_Window_period => k_is)
    (case mi_Window_period => k_is)
    (case me_Window_bend => k_is)
    (case mi_Window_bend => k_is)
    (case me_Window_written => k_is)
    (case mi_Window_written => k_is)
    (case co_Window => k_is)
    (case ci_Window => k_is)
    (case cf_Window => k_is)
    (case pg_Days => k_is)
    (case hd_Days => k_is)
    (case po_Days => k_is)
    (case sa_Days => k_is)
    (case mk_Days => k_is)
    (case kc_Days => k_is)
    (case th_Days => k_is)
    (case tn_Days => k_is)
    (case tk_Days => k_is)
    (case tm_Days => k_is)
    (case kt_Days_Rest => first | k_is | kernel_rfl)
    (case su_Days => k_is)
    (case sm_Days => first | ks_is | k_is)
    (case sf_Days => k_is)
    (case st_Days => k_is)
    (case no_Days_text => k_is)
    (case no_Days_forms => k_is)
    (case no_Days_period => k_is)
    (case no_Days_bend => k_is)
    (case no_Days_every => k_is)
    (case no_Days_borders => k_is)
    (case me_Days_after => k_is)
    (case mi_Days_after => k_is)
    (case me_Days_forms => k_is)
    (case mi_Days_forms => k_is)
    (case me_Days_period => k_is)
    (case mi_Days_period => k_is)
    (case me_Days_bend => k_is)
    (case mi_Days_bend => k_is)
    (case me_Days_written => k_is)
    (case mi_Days_written => k_is)
    (case co_Days => k_is)
    (case ci_Days => k_is)
    (case cf_Days => k_is)
    (case pg_Later => k_is)
    (case hd_Later => k_is)
    (case po_Later => k_is)
    (case sa_Later => k_is)
    (case mk_Later => k_is)
    (case kc_Later => k_is)
    (case th_Later => k_is)
    (case tn_Later => k_is)
    (case tk_Later => k_is)
    (case tm_Later => k_is)
    (case kt_Later_Rest => first | k_is | kernel_rfl)
    (case su_Later => k_is)
    (case sm_Later => first | ks_is | k_is)
    (case sf_Later => k_is)
    (case st_Later => k_is)
    (case no_Later_text => k_is)
    (case no_Later_forms => k_is)
    (case no_Later_period => k_is)
    (case no_Later_bend => k_is)
    (case no_Later_first => k_is)
    (case no_Later_second => k_is)
    (case me_Later_after => k_is)
    (case mi_Later_after => k_is)
    (case me_Later_forms => k_is)
    (case mi_Later_forms => k_is)
    (case me_Later_period => k_is)
    (case mi_Later_period => k_is)
    (case me_Later_bend => k_is)
    (case mi_Later_bend => k_is)
    (case me_Later_written => k_is)
    (case mi_Later_written => k_is)
    (case co_Later => k_is)
    (case ci_Later => k_is)
    (case cf_Later => k_is)
    (case pg_Sooner => k_is)
    (case hd_Sooner => k_is)
    (case po_Sooner => k_is)
    (case sa_Sooner => k_is)
    (case mk_Sooner => k_is)
    (case kc_Sooner => k_is)
    (case th_Sooner => k_is)
    (case tn_Sooner => k_is)
    (case tk_Sooner => k_is)
    (case tm_Sooner => k_is)
    (case kt_Sooner_Rest => first | k_is | kernel_rfl)
    (case su_Sooner => k_is)
    (case sm_Sooner => first | ks_is | k_is)
    (case sf_Sooner => k_is)
    (case st_Sooner => k_is)
    (case no_Sooner_text => k_is)
    (case no_Sooner_forms => k_is)
    (case no_Sooner_period => k_is)
    (case no_Sooner_bend => k_is)
    (case no_Sooner_first => k_is)
    (case no_Sooner_second => k_is)
    (case me_Sooner_after => k_is)
    (case mi_Sooner_after => k_is)
    (case me_Sooner_forms => k_is)
    (case mi_Sooner_forms => k_is)
    (case me_Sooner_period => k_is)
    (case mi_Sooner_period => k_is)
    (case me_Sooner_bend => k_is)
    (case mi_Sooner_bend => k_is)
    (case me_Sooner_written => k_is)
    (case mi_Sooner_written => k_is)
    (case co_Sooner => k_is)
    (case ci_Sooner => k_is)
    (case cf_Sooner => k_is)
    (case pg_Next => k_is)
    (case hd_Next => k_is)
    (case po_Next => k_is)
    (case sa_Next => k_is)
    (case mk_Next => k_is)
    (case kc_Next => k_is)
    (case th_Next => k_is)
    (case tn_Next => k_is)
    (case tk_Next => k_is)
    (case tm_Next => k_is)
    (case kt_Next_Rest => first | k_is | kernel_rfl)
    (case su_Next => k_is)
    (case sm_Next => first | ks_is | k_is)
    (case sf_Next => k_is)
    (case st_Next => k_is)
    (case no_Next_text => k_is)
    (case no_Next_forms => k_is)
    (case no_Next_period => k_is)
    (case no_Next_bend => k_is)
    (case no_Next_first => k_is)
    (case no_Next_second => k_is)
    (case me_Next_after => k_is)
    (case mi_Next_after => k_is)
    (case me_Next_forms => k_is)
    (case mi_Next_forms => k_is)
    (case me_Next_period => k_is)
    (case mi_Next_period => k_is)
    (case me_Next_bend => k_is)
    (case mi_Next_bend => k_is)
    (case me_Next_written => k_is)
    (case mi_Next_written => k_is)
    (case co_Next => k_is)
    (case ci_Next => k_is)
    (case cf_Next => k_is)
    (case pg_Net => k_is)
    (case hd_Net => k_is)
    (case po_Net => k_is)
    (case sa_Net => k_is)
    (case mk_Net => k_is)
    (case kc_Net => k_is)
    (case no_Net_rest => k_is)
    (case no_Net_known => k_is)
    (case no_Net_dists => k_is)
    (case no_Net_kappas => k_is)
    (case me_Net_row => k_is)
    (case mi_Net_row => k_is)
    (case me_Net_error_of => k_is)
    (case mi_Net_error_of => k_is)
    (case me_Net_kappa => k_is)
    (case mi_Net_kappa => k_is)

