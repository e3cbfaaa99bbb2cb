import PyProof.Rows.All
import Wide.All
import OpenK.AllK
import Wide.FinOn
import HandS.ForMost
import HandS.IsInst
import HandS.FStr
import HandS.Gcd
import HandS.Style
import HandS.Nested
import HandS.Walk
import KE.KSuper
import HandS.Star
import HandS.ExcInit
import HandS.TryMany
import HandS.ExcField
import HandS.ExcOwn
import HandS.WordsExc
import KE.KExcSuper
import HandS.Lambda
import KE.KCallOwn
import HandS.DeepEq
import HandS.Zip
import HandS.More
import HandS.Small
import HandS.Text
import HandS.Flow
import HandS.RaiseMore
import HandS.StrSplit
import HandS.ClsMeth
import HandS.Property
import PyProof.EnumMake
import PyProof.Draws
import PyProof.StrOps2
import KE.GoesMore
import KE.KTupSum
import HandS.TupAny
import HandS.MakeKwOnly
import HandS.MakeKw
import HandS.DictComp
import HandS.Conv
import HandS.EndTab
import PySem.Challenge.RW_surelet_k14_whole_disk_cells
set_option Elab.async false
set_option linter.all false
set_option maxRecDepth 100000
set_option maxHeartbeats 4000000
/-! Kit: my own layer over the hand layer: names by one check each, operations by values, the steps of a reading, the bag of a law. -/
namespace Kit
open PySem PySem.Spec PyProof.Rows L2

/-! ### names -/
def visB (sc : Scope) (x : Str) : Bool :=
  (match sc.names.lookup x with | some .local => true | some .cell => true | some .free => true | _ => false) && (!(x == ("__debug__" : Str)) && !(x == ("__classdict__" : Str)))
theorem visB_ok {sc : Scope} {x : Str} (h : visB sc x = true) : Vis sc x ∧ (x == ("__debug__" : Str)) = false ∧ (x == ("__classdict__" : Str)) = false := by
  unfold visB at h
  simp only [Bool.and_eq_true, Bool.not_eq_true'] at h
  obtain ⟨h1, h2, h3⟩ := h
  refine ⟨?_, h2, h3⟩
  unfold Vis
  split at h1
  · exact .inl (by assumption)
  · exact .inr (.inl (by assumption))
  · exact .inr (.inr (by assumption))
  · cases h1
def locB (sc : Scope) (x : Str) : Bool := match sc.names.lookup x with | some .local => true | _ => false
def celB (sc : Scope) (x : Str) : Bool := match sc.names.lookup x with | some .cell => true | _ => false
theorem locB_ok {sc : Scope} {x : Str} (h : locB sc x = true) : sc.names.lookup x = some .local := by
  unfold locB at h
  split at h
  · assumption
  · cases h
theorem celB_ok {sc : Scope} {x : Str} (h : celB sc x = true) : sc.names.lookup x = some .cell := by
  unfold celB at h
  split at h
  · assumption
  · cases h
section
variable {X : Cx}
theorem kv {i : Nat} {x : Str} {pos : Pos} (h : visB X.env.scope x = true) (hN : X.N[i]? = some x := by rfl) : PE X (.Name x pos) (tVar i) :=
  let ⟨a, b, c⟩ := visB_ok h
  pe_var hN a b c
theorem kgL {i : Nat} {x : Str} {pos : Pos} (hN : X.N.Nodup) (h : locB X.env.scope x = true) (hi : X.N[i]? = some x := by rfl) : PG X (.Name x pos) (gName i) :=
  pg_name hN hi (.inl (locB_ok h)) (.inr (locB_ok h))
theorem kgC {i : Nat} {x : Str} {pos : Pos} (hN : X.N.Nodup) (h : celB X.env.scope x = true) (hi : X.N[i]? = some x := by rfl) (hf : X.fn x = true := by rfl) : PG X (.Name x pos) (gName i) :=
  pg_name hN hi (.inr (celB_ok h)) (.inl hf)
theorem ks_setL {i : Nat} {x : Str} {e : Expr} {te : TE} {p' pos : Pos} (hN : X.N.Nodup) (h : locB X.env.scope x = true) (he : PE X e te) (hi : X.N[i]? = some x := by rfl) (hs : swapsWith e (some (.Name x p')) pos.line X.env = pure false := by rfl) :
    PS X (.Assign [.Name x p'] e pos) (tAsg te (gName i)) := ps_set hN hi (.inl (locB_ok h)) he hs (.inr (locB_ok h))
theorem ks_setC {i : Nat} {x : Str} {e : Expr} {te : TE} {p' pos : Pos} (hN : X.N.Nodup) (h : celB X.env.scope x = true) (he : PE X e te) (hi : X.N[i]? = some x := by rfl) (hs : swapsWith e (some (.Name x p')) pos.line X.env = pure false := by rfl) (hf : X.fn x = true := by rfl) :
    PS X (.Assign [.Name x p'] e pos) (tAsg te (gName i)) := ps_set hN hi (.inr (celB_ok h)) he hs (.inl hf)

/-! ### built-in names -/
section
variable {e : Expr} {es : List Expr} {t : TA} {p pos : Pos}
theorem kty_int (hg : Gl X "int") (hm : X.mg "int" = none) : PE X (.Name "int" pos) (tC (.ty "int")) := pe_bltn hg hm (u := .type "int") (by decide +kernel) rfl
theorem kty_bool (hg : Gl X "bool") (hm : X.mg "bool" = none) : PE X (.Name "bool" pos) (tC (.ty "bool")) := pe_bltn hg hm (u := .type "bool") (by decide +kernel) rfl
theorem kty_str (hg : Gl X "str") (hm : X.mg "str" = none) : PE X (.Name "str" pos) (tC (.ty "str")) := pe_bltn hg hm (u := .type "str") (by decide +kernel) rfl
theorem kty_list (hg : Gl X "list") (hm : X.mg "list" = none) : PE X (.Name "list" pos) (tC (.ty "list")) := pe_bltn hg hm (u := .type "list") (by decide +kernel) rfl
theorem kty_tuple (hg : Gl X "tuple") (hm : X.mg "tuple" = none) : PE X (.Name "tuple" pos) (tC (.ty "tuple")) := pe_bltn hg hm (u := .type "tuple") (by decide +kernel) rfl
theorem kty_dict (hg : Gl X "dict") (hm : X.mg "dict" = none) : PE X (.Name "dict" pos) (tC (.ty "dict")) := pe_bltn hg hm (u := .type "dict") (by decide +kernel) rfl
theorem kcls {x : Str} {C : Addr} (hg : Gl X x) (hm : X.mg x = some (.ref C)) (hd : (x == ("__debug__" : Str)) = false := by decide) : PE X (.Name x pos) (tC (.ref C)) := pe_glob (v := .ref C) hg hm rfl hd
theorem kcB {x : Str} {id : String} {r : List V → Hp → VK → Prop} (hv : bootBuiltins x = some (.builtin id)) (hn : x ≠ "__name__") (hdb : (x == ("__debug__" : Str)) = false) (hc : CallR X (.builtin id) r) (hg : Gl X x) (hm : X.mg x = none) (ha : PA X (e :: es) t)
    (he : starEach (e :: es) X.env = (false, eval e X.env) :: starEach es X.env := by rfl) (hpl : (backTo pos (starEach es X.env)).any (·.1) = false := by rfl) : PE X (.Call (.Name x p) (e :: es) [] pos) (tCB r t) := pe_callB hc hg hm hv ha hn hdb he hpl
theorem kcT {x : Str} {T : String} {r : List V → Hp → VK → Prop} (hv : bootBuiltins x = some (.type T)) (hn : x ≠ "__name__") (hdb : (x == ("__debug__" : Str)) = false) (hc : CallR X (.type T) r) (hg : Gl X x) (hm : X.mg x = none) (ha : PA X (e :: es) t)
    (he : starEach (e :: es) X.env = (false, eval e X.env) :: starEach es X.env := by rfl) (hpl : (backTo pos (starEach es X.env)).any (·.1) = false := by rfl) : PE X (.Call (.Name x p) (e :: es) [] pos) (tCB r t) := pe_callTy hc hg hm hv ha hn hdb he hpl
theorem b_len : bootBuiltins "len" = some (.builtin "len") := by decide +kernel
theorem b_isinstance : bootBuiltins "isinstance" = some (.builtin "isinstance") := by decide +kernel
theorem b_max : bootBuiltins "max" = some (.builtin "max") := by decide +kernel
theorem b_min : bootBuiltins "min" = some (.builtin "min") := by decide +kernel
theorem b_abs : bootBuiltins "abs" = some (.builtin "abs") := by decide +kernel
theorem b_all : bootBuiltins "all" = some (.builtin "all") := by decide +kernel
theorem b_any : bootBuiltins "any" = some (.builtin "any") := by decide +kernel
theorem b_sum : bootBuiltins "sum" = some (.builtin "sum") := by decide +kernel
theorem b_ord : bootBuiltins "ord" = some (.builtin "ord") := by decide +kernel
theorem b_sorted : bootBuiltins "sorted" = some (.builtin "sorted") := by decide +kernel
theorem b_int : bootBuiltins "int" = some (.type "int") := by decide +kernel
theorem b_str : bootBuiltins "str" = some (.type "str") := by decide +kernel
theorem b_bool : bootBuiltins "bool" = some (.type "bool") := by decide +kernel
theorem b_list : bootBuiltins "list" = some (.type "list") := by decide +kernel
theorem b_tuple : bootBuiltins "tuple" = some (.type "tuple") := by decide +kernel
theorem b_dict : bootBuiltins "dict" = some (.type "dict") := by decide +kernel
end

/-! ### operations by values -/
def rAddU : R2 := fun x y H Q => match x, y with
  | .int i, .int j => Q (.int (i + j)) H
  | .str a, .str b => a.length + b.length ≤ sizeLine ∧ Q (.str (a ++ b)) H
  | .ref a, .ref b => ∃ xs ys, H a = some (.lst xs) ∧ H b = some (.lst ys) ∧ xs.length + ys.length ≤ sizeLine ∧ ∀ p, H p = none → Q (.ref p) (upd H p (.lst (xs ++ ys)))
  | _, _ => False
theorem kop_add : OpR X (binaryOp .Add) rAddU := by
  intro pins s σ H x y v u Q I rx ry h
  cases x <;> cases y <;> first
    | exact h.elim
    | exact op_add pins s σ H _ _ v u Q I rx ry ⟨_, _, rfl, rfl, h⟩
    | exact op_add_str pins s σ H _ _ v u Q I rx ry ⟨_, _, rfl, rfl, h.1, h.2⟩
    | (obtain ⟨xs, ys, h1, h2, h3, h4⟩ := h; exact op_cat pins s σ H _ _ v u Q I rx ry ⟨_, _, xs, ys, rfl, rfl, h1, h2, h3, h4⟩)
/-- math.lcm of two numbers from 0 on, below 2 ^ 32 -/
def rLcm : List V → Hp → VK → Prop := fun vs H Q => ∃ a b : Int, vs = [.int a, .int b] ∧ 0 ≤ a ∧ a < 2 ^ 32 ∧ 0 ≤ b ∧ b < 2 ^ 32 ∧ Q (.int ((Nat.lcm a.natAbs b.natAbs : Nat) : Int)) H
theorem kcr_lcm : CallR X (.builtin "math.lcm") rLcm := by
  intro pins s σ H vs us Q I r h
  obtain ⟨a, b, rfl, ha, ha2, hb, hb2, q⟩ := h
  obtain ⟨t, u, rfl⟩ := Vals.int2 r
  have e : (Nat.lcm 1 a.natAbs).lcm b.natAbs = Nat.lcm a.natAbs b.natAbs := by rw [Nat.lcm_one_left]
  have hle : Nat.lcm a.natAbs b.natAbs < 2 ^ 64 := by
    by_cases h0 : a.natAbs = 0
    · rw [h0, Nat.lcm_zero_left]; decide
    · by_cases h1 : b.natAbs = 0
      · rw [h1, Nat.lcm_zero_right]; decide
      · have q1 : Nat.lcm a.natAbs b.natAbs ≤ a.natAbs * b.natAbs := Nat.le_of_dvd (Nat.mul_pos (by omega) (by omega)) (Nat.lcm_dvd (Nat.dvd_mul_right _ _) (Nat.dvd_mul_left _ _))
        have q2 : a.natAbs * b.natAbs < 2 ^ 32 * 2 ^ 32 := Nat.mul_lt_mul'' (by omega) (by omega)
        omega
  refine PySem.W.mg_lcm (by omega) (by omega) ?_ ?_
  · rw [e, Int.natAbs_natCast]
    by_cases h0 : Nat.lcm a.natAbs b.natAbs = 0
    · rw [h0]; decide
    · have : (Nat.lcm a.natAbs b.natAbs).log2 < 64 := (Nat.log2_lt h0).mpr hle
      exact Nat.lt_of_lt_of_le this (by decide)
  · rw [e]
    exact ⟨.int _, H, I.tok _, ⟨_, rfl⟩, q⟩
end


/-! ### rules with the written part told -/
section
variable {X : Cx}
/-- a statement whose ways meet in W -/
def tMeet (t u : TS) : TS := fun D σ H => ∃ W : L2.St → Hp → Prop, t { D with nx := W } σ H ∧ ∀ σ' H', W σ' H' → u D σ' H'
theorem kss_meet {st : Stmt} {rest : List Stmt} {t u : TS} (h1 : PS X st t) (h2 : PSs X rest u) : PSs X (st :: rest) (tMeet t u) := by
  refine ⟨fun pins s σ H D I h => ?_⟩
  obtain ⟨W, hw, hu⟩ := h
  refine wpAny_execs_cons (thn (h1.run pins s σ H _ I hw) fun f s' hf => ?_)
  cases f with
  | next =>
    obtain ⟨σ', H', I', q⟩ := hf
    exact h2.run pins s' σ' H' D I' (hu σ' H' q)
  | ret u => exact hf
  | brk => exact hf
  | cont => exact hf
theorem kix (K : PySem.W.Frag) (hK : X.K = K := by rfl) : IxR X (rIx K) := by subst hK; exact ix_seq
def rLenU (K : PySem.W.Frag) : List V → Hp → VK → Prop := fun xs H Q => ∃ x n, xs = [x] ∧ LenV K x H n ∧ Q (.int (n : Nat)) H
theorem kc_len (K : PySem.W.Frag) (hK : X.K = K := by rfl) : CallR X (.builtin "len") (rLenU K) := by subst hK; exact call_len
def rInt1 : List V → Hp → VK → Prop := fun xs H Q => match xs with
  | [.int i] => Q (.int i) H
  | [.bl k] => Q (.int (if k then 1 else 0)) H
  | _ => False
theorem kc_int : CallR X (.type "int") rInt1 := by
  intro pins s σ H xs us Q I r h
  match xs, r, h with
  | [.int i], r, h => exact call_int1 pins s σ H _ us Q I r (.inl ⟨i, rfl, h⟩)
  | [.bl k], r, h => exact call_int1 pins s σ H _ us Q I r (.inr ⟨k, rfl, h⟩)
def rBool1 : List V → Hp → VK → Prop := fun xs H Q => match xs with
  | [.int i] => Q (.bl (i != 0)) H
  | [.bl k] => Q (.bl k) H
  | _ => False
theorem kc_bool : CallR X (.type "bool") rBool1 := by
  intro pins s σ H xs us Q I r h
  match xs, r, h with
  | [.int i], r, h => exact call_bool1 pins s σ H _ us Q I r (.inl ⟨i, rfl, h⟩)
  | [.bl k], r, h => exact call_bool1 pins s σ H _ us Q I r (.inr ⟨k, rfl, h⟩)
def rStr1 : List V → Hp → VK → Prop := fun xs H Q => ∃ i : Int, xs = [.int i] ∧ i.natAbs.log2 < 1920 ∧ Q (.str (toString i)) H
theorem kc_str : CallR X (.type "str") rStr1 := call_str_int
def rListU (K : PySem.W.Frag) : List V → Hp → VK → Prop := fun xs H Q => ∃ p ys, xs = [.ref p] ∧ (SqL K H p ys ∨ SqT K H p ys) ∧ ∀ l, H l = none → Q (.ref l) (upd H l (.lst ys))
theorem kc_list (K : PySem.W.Frag) (hK : X.K = K := by rfl) : CallR X (.type "list") (rListU K) := by subst hK; exact call_list_of
def rTupleU (K : PySem.W.Frag) : List V → Hp → VK → Prop := fun xs H Q => ∃ p ys, xs = [.ref p] ∧ ((SqL K H p ys ∧ ∀ l, H l = none → Q (.ref l) (upd H l (.tup ys))) ∨ (SqT K H p ys ∧ Q (.ref p) H))
theorem kc_tuple (K : PySem.W.Frag) (hK : X.K = K := by rfl) : CallR X (.type "tuple") (rTupleU K) := by subst hK; exact call_tuple_of
theorem kc_isi (K : PySem.W.Frag) (hK : X.K = K := by rfl) : CallR X (.builtin "isinstance") (rIsi K) := by subst hK; exact call_isi
theorem kc_isiT (K : PySem.W.Frag) (hK : X.K = K := by rfl) : CallR X (.builtin "isinstance") (rIsiT K) := by subst hK; exact call_isiT
def rMax2 : List V → Hp → VK → Prop := fun xs H Q => match xs with
  | [.int i, .int j] => Q (.int (if j > i then j else i)) H
  | _ => False
theorem kc_max2 (hc : X.calm = true) : CallR X (.builtin "max") rMax2 := by
  intro pins s σ H xs us Q I r h
  match xs, r, h with
  | [.int i, .int j], r, h => exact call_max2 hc pins s σ H _ us Q I r ⟨i, j, rfl, h⟩
def rMin2 : List V → Hp → VK → Prop := fun xs H Q => match xs with
  | [.int i, .int j] => Q (.int (if j < i then j else i)) H
  | _ => False
theorem kc_min2 (hc : X.calm = true) : CallR X (.builtin "min") rMin2 := by
  intro pins s σ H xs us Q I r h
  match xs, r, h with
  | [.int i, .int j], r, h => exact call_min2 hc pins s σ H _ us Q I r ⟨i, j, rfl, h⟩
theorem kc_sum (K : PySem.W.Frag) (hc : X.calm = true) (hK : X.K = K := by rfl) : CallR X (.builtin "sum") (rSum K) := by subst hK; exact cr_sum hc
theorem ksl_list (K : PySem.W.Frag) (hK : X.K = K := by rfl) : SlR X (rSlL K) := by subst hK; exact sl_list
theorem kpi_list (K : PySem.W.Frag) {tg l : Expr} {tl : TE} (hl : PE X l tl) (hK : X.K = K := by rfl) : PI X tg l (iList K tl) := by subst hK; exact pi_list hl
theorem kpi_tup (K : PySem.W.Frag) {tg l : Expr} {tl : TE} (hl : PE X l tl) (hK : X.K = K := by rfl) : PI X tg l (iTup K tl) := by subst hK; exact pi_tup hl
theorem kpe_fld (K : PySem.W.Frag) {e : Expr} {f : Str} {ta : TE} {pos : Pos} (he : PE X e ta) (hK : X.K = K := by rfl) (hb : attributeBase e f X.env (eval e X.env) = eval e X.env := by rfl) : PE X (.Attribute e f pos) (tFld K ta f) := by subst hK; exact pe_fld he hb
theorem kps_fld (K : PySem.W.Frag) {o value : Expr} {f : Str} {ta tv : TE} {pos pos' : Pos} (ha : PE X o ta) (hv : PE X value tv) (hK : X.K = K := by rfl) (hs : swapsWith value (some (.Attribute o f pos')) pos.line X.env = pure false := by rfl) : PS X (.Assign [.Attribute o f pos'] value pos) (sFld K ta tv f) := by subst hK; exact ps_fld ha hv hs
def tTruU (K : PySem.W.Frag) (ta : TE) : TT := fun σ H Q => ta σ H fun x H' => ∃ k, TruV K x H' k ∧ Q k H'
theorem kpt_truth (K : PySem.W.Frag) {a : Expr} {ta : TE} (ha : PE X a ta) (hK : X.K = K := by rfl) (he : ∀ whole, isTrue a X.env whole = (do let v ← whole; standAt a.pos; holding [v] (truthy v)) := by intro _; rfl) : PT X a (tTruU K ta) := by subst hK; exact pt_truth ha he
theorem kop_in (K : PySem.W.Frag) (hK : X.K = K := by rfl) : OpR X (compareOp .In) (rIn K false) := by subst hK; exact op_in_seq
theorem kop_nin (K : PySem.W.Frag) (hK : X.K = K := by rfl) : OpR X (compareOp .NotIn) (rIn K true) := by subst hK; exact op_notIn_seq
theorem kpg_tup (K : PySem.W.Frag) (n : Nat) {es : List Expr} {k : Nat} {t : TGs} {pos : Pos} (hc : X.calm = true) (h : PGs X es t) (hK : X.K = K := by rfl) (hn : (assignEach es X.env).length = n := by rfl) (hst : (assignEach es X.env).findIdx? (·.1) = none := by rfl) : PG X (.Tuple es k pos) (gTup K n t) := by subst hK; exact pg_tup hc h hn hst
end

theorem small_size' {n : Nat} (h : n ≤ 1000000) : n ≤ sizeLine := Nat.le_trans h (by rw [sizeLine_eq]; decide)
/-! ### the steps of a reading -/
section
variable {σ : L2.St} {H : Hp} {Q : VK} {D : Ends} {t u : TS} {te ta tb : TE} {tt tu : TT} {tA tr : TA} {g : TG} {i : Nat} {v x y : V} {r : R2}
theorem k_seq (h : t { D with nx := u D } σ H) : tSeq t u D σ H := h
theorem k_asg (h : te σ H fun x H1 => g x σ H1 D.nx) : tAsg te g D σ H := h
theorem k_gName {Q : L2.St → Hp → Prop} (h : Q (σ.set i (some v)) H) : gName i v σ H Q := h
theorem k_drop (h : te σ H fun _ H1 => D.nx σ H1) : tDrop te D σ H := h
theorem k_ret (h : te σ H D.rt) : tRet te D σ H := h
theorem k_retN (h : D.rt .non H) : tRetN D σ H := h
theorem k_next (h : D.nx σ H) : tNext D σ H := h
theorem k_break (h : D.bk σ H) : tBreak D σ H := h
theorem k_cont (h : D.ct σ H) : tCont D σ H := h
theorem k_ifS (h : tt σ H fun b H1 => if b = true then t D σ H1 else u D σ H1) : tIfS tt t u D σ H := h
theorem k_var (h : σ[i]? = some (some v)) (k : Q v H) : tVar i σ H Q := ⟨v, h, k⟩
theorem k_c (k : Q v H) : tC v σ H Q := k
theorem k_op (h : ta σ H fun x H1 => tb σ H1 fun y H2 => r x y H2 Q) : tOp r ta tb σ H Q := h
theorem k_un {r : V → Hp → VK → Prop} (h : ta σ H fun x H1 => r x H1 Q) : tUn r ta σ H Q := h
theorem k_test {Q : Bool → Hp → Prop} (h : te σ H fun x H' => ∃ k, x = .bl k ∧ Q k H') : tTest te σ H Q := h
theorem k_B {Q : Bool → Hp → Prop} (h : te σ H fun x H' => ∃ k, x = .bl k ∧ Q k H') : tB te σ H Q := h
theorem k_bl {b : Bool} {Q : Bool → Prop} (h : Q b) : ∃ k, V.bl b = .bl k ∧ Q k := ⟨b, rfl, h⟩
theorem k_and {Q : Bool → Hp → Prop} (h : tt σ H fun c H1 => if c = true then tu σ H1 Q else Q false H1) : tAnd tt tu σ H Q := h
theorem k_or {Q : Bool → Hp → Prop} (h : tt σ H fun c H1 => if c = true then Q true H1 else tu σ H1 Q) : tOr tt tu σ H Q := h
theorem k_not {Q : Bool → Hp → Prop} (h : tt σ H fun c H1 => Q (!c) H1) : tNot tt σ H Q := h
theorem k_andV (h : ta σ H fun x H1 => ∃ c, x = .bl c ∧ if c = true then tb σ H1 Q else Q (.bl false) H1) : tAndV ta tb σ H Q := h
theorem k_orV (h : ta σ H fun x H1 => ∃ c, x = .bl c ∧ if c = true then Q (.bl true) H1 else tb σ H1 Q) : tOrV ta tb σ H Q := h
theorem k_notV (h : ta σ H fun x H1 => ∃ c, x = .bl c ∧ Q (.bl (!c)) H1) : tNotV ta σ H Q := h
theorem k_if (h : tt σ H fun c H1 => if c = true then ta σ H1 Q else tb σ H1 Q) : tIf tt ta tb σ H Q := h
theorem k_nil {Q : List V → Hp → Prop} (h : Q [] H) : tNil σ H Q := h
theorem k_cons {Q : List V → Hp → Prop} (h : ta σ H fun x H1 => tr σ H1 fun xs H2 => Q (x :: xs) H2) : tCons ta tr σ H Q := h
theorem k_CB {r : List V → Hp → VK → Prop} (h : tA σ H fun vs H1 => r vs H1 Q) : tCB r tA σ H Q := h
theorem k_call {sp : Sp} {dvs : List V} {E : XK} (h : tA σ H fun vs H1 => sp (vs ++ dvs) H1 Q E) : tCall sp dvs E tA σ H Q := h
theorem k_tup (h : tA σ H fun xs H1 => xs.length ≤ sizeLine ∧ ∀ p, H1 p = none → Q (.ref p) (upd H1 p (.tup xs))) : tTup tA σ H Q := h
theorem k_lst (h : tA σ H fun xs H1 => xs.length ≤ sizeLine ∧ ∀ p, H1 p = none → Q (.ref p) (upd H1 p (.lst xs))) : tLst tA σ H Q := h
theorem k_tru {K : PySem.W.Frag} {Q : Bool → Hp → Prop} (h : ta σ H fun x H' => ∃ k, TruV K x H' k ∧ Q k H') : (fun (σ : L2.St) (H : Hp) (Q : Bool → Hp → Prop) => ta σ H fun x H' => ∃ k, TruV K x H' k ∧ Q k H') σ H Q := h
theorem k_gSub {to ti : TE} {t : TSet} {Q : L2.St → Hp → Prop} (h : to σ H fun o H1 => ti σ H1 fun i H2 => t o i v H2 fun H3 => Q σ H3) : gSub to ti t v σ H Q := h
theorem k_par {i j : Nat} (h : tA σ H fun vs H1 => ∃ v w, vs = [v, w] ∧ D.nx ((σ.set i (some v)).set j (some w)) H1) : tPar i j tA D σ H := h
theorem k_pair {v w : V} {P : V → V → Prop} (h : P v w) : ∃ a b, [v, w] = [a, b] ∧ P a b := ⟨v, w, rfl, h⟩
theorem k_sl {r : V → Option Int → Option Int → Hp → VK → Prop} {tl th : TO} (h : te σ H fun x H1 => tl σ H1 fun l H2 => th σ H2 fun u H3 => r x l u H3 Q) : tSl r te tl th σ H Q := h
theorem k_noPart {Q : Option Int → Hp → Prop} (h : Q none H) : tNoPart σ H Q := h
theorem k_part {Q : Option Int → Hp → Prop} (h : te σ H fun x H1 => ∃ i, x = .int i ∧ Q (some i) H1) : tPart te σ H Q := h
theorem k_int {i : Int} {P : Int → Prop} (h : P i) : ∃ j, V.int i = .int j ∧ P j := ⟨i, rfl, h⟩

/-- values -/
theorem k_addI {i j : Int} (k : Q (.int (i + j)) H) : rAddU (.int i) (.int j) H Q := k
theorem k_I0 {f : Int → Int → V} {i j : Int} (k : Q (f i j) H) : rI0 f (.int i) (.int j) H Q := ⟨i, j, rfl, rfl, k⟩
theorem k_I {C : Int → Int → Prop} {f : Int → Int → V} {i j : Int} (c : C i j) (k : Q (f i j) H) : rI C f (.int i) (.int j) H Q := ⟨i, j, rfl, rfl, c, k⟩
theorem k_U {f : Int → V} {i : Int} (k : Q (f i) H) : rU f (.int i) H Q := ⟨i, rfl, k⟩
theorem k_eq {x y : V} (s : scal x y = true) (k : Q (.bl (decide (x = y))) H) : rEq x y H Q := ⟨s, k⟩
theorem k_ne {x y : V} (s : scal x y = true) (k : Q (.bl (!decide (x = y))) H) : rNe x y H Q := ⟨s, k⟩
theorem k_eqI {i j : Int} (k : Q (.bl (decide (i = j))) H) : rEq (.int i) (.int j) H Q := ⟨rfl, by
  have e : decide (V.int i = V.int j) = decide (i = j) := by simp
  rw [e]; exact k⟩
theorem k_neI {i j : Int} (k : Q (.bl (!decide (i = j))) H) : rNe (.int i) (.int j) H Q := ⟨rfl, by
  have e : decide (V.int i = V.int j) = decide (i = j) := by simp
  rw [e]; exact k⟩
theorem k_ixL {K : PySem.W.Frag} {p : Addr} {xs : List V} {i : Int} (h : SqL K H p xs) (a : atI xs i = some v) (k : Q v H) : rIx K (.ref p) (.int i) H Q := .inl ⟨p, xs, i, v, rfl, rfl, h, a, k⟩
theorem k_ixT {K : PySem.W.Frag} {p : Addr} {xs : List V} {i : Int} (h : SqT K H p xs) (a : atI xs i = some v) (k : Q v H) : rIx K (.ref p) (.int i) H Q := .inr (.inl ⟨p, xs, i, v, rfl, rfl, h, a, k⟩)
theorem k_ixS {K : PySem.W.Frag} {z : Str} {i : Int} {c : Nat} (h : z.length ≤ sizeLine) (a : atI z.cps.toList i = some c) (k : Q (.str ⟨#[c]⟩) H) : rIx K (.str z) (.int i) H Q := .inr (.inr ⟨z, i, c, rfl, rfl, h, a, k⟩)
theorem k_meet {σ : L2.St} {H : Hp} {D : Ends} {t u : TS} (W : L2.St → Hp → Prop) (h : t { D with nx := W } σ H) (k : ∀ σ' H', W σ' H' → u D σ' H') : tMeet t u D σ H := ⟨W, h, k⟩
theorem k_addL {p q : Addr} {xs ys : List V} {H : Hp} {Q : VK} (h1 : H p = some (.lst xs)) (h2 : H q = some (.lst ys)) (hz : xs.length + ys.length ≤ 1000000) (k : ∀ l, H l = none → Q (.ref l) (upd H l (.lst (xs ++ ys)))) : rAddU (.ref p) (.ref q) H Q := ⟨xs, ys, h1, h2, small_size' hz, k⟩
theorem k_addS {a b : Str} {H : Hp} {Q : VK} (hz : a.length + b.length ≤ 1000000) (k : Q (.str (a ++ b)) H) : rAddU (.str a) (.str b) H Q := ⟨small_size' hz, k⟩
theorem k_int1 {i : Int} (k : Q (.int i) H) : rInt1 [.int i] H Q := k
theorem k_lenL {K : PySem.W.Frag} {p : Addr} {xs : List V} (h : SqL K H p xs) (k : Q (.int (xs.length : Nat)) H) : rLenU K [.ref p] H Q := ⟨_, _, rfl, .inl ⟨xs, h, rfl⟩, k⟩
theorem k_lenT {K : PySem.W.Frag} {p : Addr} {xs : List V} (h : SqT K H p xs) (k : Q (.int (xs.length : Nat)) H) : rLenU K [.ref p] H Q := ⟨_, _, rfl, .inr ⟨xs, h, rfl⟩, k⟩
theorem k_lenS {K : PySem.W.Frag} {z : Str} (h : z.length ≤ sizeLine) (k : Q (.int (z.length : Nat)) H) : rLenU K [.str z] H Q := ⟨_, _, rfl, ⟨h, rfl⟩, k⟩
theorem k_max2 {i j : Int} (k : Q (.int (if j > i then j else i)) H) : rMax2 [.int i, .int j] H Q := k
theorem k_min2 {i j : Int} (k : Q (.int (if j < i then j else i)) H) : rMin2 [.int i, .int j] H Q := k
theorem k_setL {p : Addr} {xs : List V} {k : Int} {j : Nat} {w : V} {Q : Hp → Prop} (h : H p = some (.lst xs)) (e : ixN xs.length k = some j) (q : Q (upd H p (.lst (xs.set j w)))) : rSetL (.ref p) (.int k) w H Q := ⟨p, xs, k, j, rfl, rfl, h, e, q⟩
/-- tests whose answer is known, or open -/
theorem k_t {A B : Prop} (h : A) : if true = true then A else B := by rw [if_pos rfl]; exact h
theorem k_f {A B : Prop} (h : B) : if false = true then A else B := by rw [if_neg Bool.false_ne_true]; exact h
theorem k_t' {A B : Prop} (h : A) : if (!false) = true then A else B := k_t (B := B) h
theorem k_f' {A B : Prop} (h : B) : if (!true) = true then A else B := k_f (A := A) h
theorem k_o1 {b : Bool} {A B : Prop} (h : A) : if (true || b) = true then A else B := k_t (B := B) h
theorem k_o2 {A B : Prop} (h : A) : if (false || true) = true then A else B := k_t (B := B) h
theorem k_o3 {A B : Prop} (h : B) : if (false || false) = true then A else B := k_f (A := A) h
theorem k_o4 {b : Bool} {A B : Prop} (h : B) : if (!(true || b)) = true then A else B := k_f (A := A) h
theorem k_o5 {A B : Prop} (h : B) : if (!(false || true)) = true then A else B := k_f (A := A) h
theorem k_o6 {A B : Prop} (h : A) : if (!(false || false)) = true then A else B := k_t (B := B) h
theorem k_chain {r r' : R2} {tc : TE} (h : ta σ H fun x H1 => tb σ H1 fun y H2 => r x y H2 fun z H3 => ∃ k, z = .bl k ∧ (if k = true then tc σ H3 fun w' H4 => r' y w' H4 Q else Q (.bl false) H3)) : tChain r r' ta tb tc σ H Q := h
theorem k_dt {c : Prop} [Decidable c] {A B : Prop} (hc : c) (h : A) : if decide c = true then A else B := by rw [decide_eq_true hc]; exact k_t h
theorem k_df {c : Prop} [Decidable c] {A B : Prop} (hc : ¬ c) (h : B) : if decide c = true then A else B := by rw [decide_eq_false hc]; exact k_f h
theorem k_d {c : Prop} [Decidable c] {A B : Prop} (h1 : c → A) (h2 : ¬ c → B) : if decide c = true then A else B := by
  by_cases hc : c
  · exact k_dt hc (h1 hc)
  · exact k_df hc (h2 hc)
theorem k_nt {c : Prop} [Decidable c] {A B : Prop} (hc : c) (h : B) : if (!decide c) = true then A else B := by rw [decide_eq_true hc]; exact k_f h
theorem k_nf {c : Prop} [Decidable c] {A B : Prop} (hc : ¬ c) (h : A) : if (!decide c) = true then A else B := by rw [decide_eq_false hc]; exact k_t h
theorem k_n {c : Prop} [Decidable c] {A B : Prop} (h1 : c → B) (h2 : ¬ c → A) : if (!decide c) = true then A else B := by
  by_cases hc : c
  · exact k_nt hc (h1 hc)
  · exact k_nf hc (h2 hc)
theorem k_b {b : Bool} {A B : Prop} (h1 : b = true → A) (h2 : b = false → B) : if b = true then A else B := by
  cases b with
  | true => exact k_t (h1 rfl)
  | false => exact k_f (h2 rfl)
end

/-! ### heaps -/
theorem same_new {H : Hp} {p : Addr} {o : HO} (h : H p = none) : Same H (upd H p o) := fun a u e => by
  rw [upd_ne (ne_of_none e h)]
  exact e
theorem same_t {K : PySem.W.Frag} {H H' : Hp} {a : Addr} {xs : List V} (e : Same H H') (h : SqT K H a xs) : SqT K H' a xs := by
  rcases h with (h | ⟨o, h⟩) | h
  · exact .inl (.inl (e _ _ h))
  · exact .inl (.inr ⟨o, e _ _ h⟩)
  · exact .inr h
/-- over a heap G that does not know b, b's object put on top -/
theorem up_same {G : Hp} {b : Addr} {β : HO} (hb : G b = none) : Same G (upd G b β) := same_new hb
theorem up_get {G : Hp} {a b : Addr} {o β : HO} (hb : G b = none) (h : G a = some o) : upd G b β a = some o := same_new hb _ _ h
theorem up_none {G : Hp} {p b : Addr} {β : HO} (h : upd G b β p = none) : G p = none ∧ p ≠ b := by
  by_cases e : p = b
  · rw [e, upd_same] at h; cases h
  · rw [upd_ne e] at h; exact ⟨h, e⟩
theorem upd_swap {G : Hp} {a b : Addr} {o β : HO} (h : a ≠ b) : upd (upd G b β) a o = upd (upd G a o) b β := by
  funext c
  unfold upd
  by_cases h1 : c = a
  · subst h1
    simp [h]
  · simp [h1]
theorem up_new {G : Hp} {b : Addr} {β o : HO} {P : Addr → Hp → Prop} (hb : G b = none) (k : ∀ p G', G p = none → p ≠ b → G' = upd G p o → G' b = none → Same G G' → G' p = some o → P p (upd G' b β)) :
    ∀ p, upd G b β p = none → P p (upd (upd G b β) p o) := fun p hp => by
  obtain ⟨h1, h2⟩ := up_none hp
  rw [upd_swap h2]
  exact k p _ h1 h2 rfl (by rw [upd_ne (Ne.symm h2)]; exact hb) (same_new h1) upd_same
theorem k_setLu {G : Hp} {b : Addr} {xs ys : List V} {k : Int} {j : Nat} {w : V} {Q : Hp → Prop} (e : ixN xs.length k = some j) (ey : xs.set j w = ys) (q : Q (upd G b (.lst ys))) : rSetL (.ref b) (.int k) w (upd G b (.lst xs)) Q := by
  subst ey
  exact k_setL upd_same e (by rw [upd_upd]; exact q)
theorem upd_at {H H' : Hp} {p : Addr} {o : HO} (e : upd H p o = H') : H' p = some o := by rw [← e]; exact upd_same
theorem upd_sm {H H' : Hp} {p : Addr} {o : HO} (e : upd H p o = H') (n : H p = none) : Same H H' := by rw [← e]; exact same_new n
theorem split_up {G H' : Hp} {b : Addr} {β : HO} (hb : G b = none) (e : Same (upd G b β) H') : ∃ G', G' b = none ∧ Same G G' ∧ H' = upd G' b β := by
  refine ⟨fun a => if a = b then none else H' a, if_pos rfl, fun a o h => ?_, ?_⟩
  · show (if a = b then none else H' a) = some o
    have hne : a ≠ b := ne_of_none h hb
    rw [if_neg hne]
    exact e _ _ (up_get hb h)
  · funext a
    unfold upd
    by_cases h : a = b
    · rw [if_pos h, h]
      exact e _ _ upd_same
    · rw [if_neg h]
      show H' a = if a = b then none else H' a
      rw [if_neg h]
theorem kb_int_int : kitB "int" "int" = some true := by decide +kernel
theorem kb_int_bool : kitB "int" "bool" = some false := by decide +kernel
theorem kb_int_str : kitB "int" "str" = some false := by decide +kernel
theorem kb_int_list : kitB "int" "list" = some false := by decide +kernel
theorem kb_int_tuple : kitB "int" "tuple" = some false := by decide +kernel
theorem kb_int_dict : kitB "int" "dict" = some false := by decide +kernel
theorem kb_bool_int : kitB "bool" "int" = some true := by decide +kernel
theorem kb_bool_bool : kitB "bool" "bool" = some true := by decide +kernel
theorem kb_bool_str : kitB "bool" "str" = some false := by decide +kernel
theorem kb_bool_list : kitB "bool" "list" = some false := by decide +kernel
theorem kb_bool_tuple : kitB "bool" "tuple" = some false := by decide +kernel
theorem kb_bool_dict : kitB "bool" "dict" = some false := by decide +kernel
theorem kb_str_int : kitB "str" "int" = some false := by decide +kernel
theorem kb_str_bool : kitB "str" "bool" = some false := by decide +kernel
theorem kb_str_str : kitB "str" "str" = some true := by decide +kernel
theorem kb_str_list : kitB "str" "list" = some false := by decide +kernel
theorem kb_str_tuple : kitB "str" "tuple" = some false := by decide +kernel
theorem kb_str_dict : kitB "str" "dict" = some false := by decide +kernel
theorem kb_NoneType_int : kitB "NoneType" "int" = some false := by decide +kernel
theorem kb_NoneType_bool : kitB "NoneType" "bool" = some false := by decide +kernel
theorem kb_NoneType_str : kitB "NoneType" "str" = some false := by decide +kernel
theorem kb_NoneType_list : kitB "NoneType" "list" = some false := by decide +kernel
theorem kb_NoneType_tuple : kitB "NoneType" "tuple" = some false := by decide +kernel
theorem kb_NoneType_dict : kitB "NoneType" "dict" = some false := by decide +kernel
theorem kb_list_int : kitB "list" "int" = some false := by decide +kernel
theorem kb_list_bool : kitB "list" "bool" = some false := by decide +kernel
theorem kb_list_str : kitB "list" "str" = some false := by decide +kernel
theorem kb_list_list : kitB "list" "list" = some true := by decide +kernel
theorem kb_list_tuple : kitB "list" "tuple" = some false := by decide +kernel
theorem kb_list_dict : kitB "list" "dict" = some false := by decide +kernel
theorem kb_tuple_int : kitB "tuple" "int" = some false := by decide +kernel
theorem kb_tuple_bool : kitB "tuple" "bool" = some false := by decide +kernel
theorem kb_tuple_str : kitB "tuple" "str" = some false := by decide +kernel
theorem kb_tuple_list : kitB "tuple" "list" = some false := by decide +kernel
theorem kb_tuple_tuple : kitB "tuple" "tuple" = some true := by decide +kernel
theorem kb_tuple_dict : kitB "tuple" "dict" = some false := by decide +kernel
theorem kb_dict_int : kitB "dict" "int" = some false := by decide +kernel
theorem kb_dict_bool : kitB "dict" "bool" = some false := by decide +kernel
theorem kb_dict_str : kitB "dict" "str" = some false := by decide +kernel
theorem kb_dict_list : kitB "dict" "list" = some false := by decide +kernel
theorem kb_dict_tuple : kitB "dict" "tuple" = some false := by decide +kernel
theorem kb_dict_dict : kitB "dict" "dict" = some true := by decide +kernel
/-- isinstance of built-in types -/
theorem k_isi {K : PySem.W.Frag} {H : Hp} {v : V} {a T : String} {b : Bool} {Q : VK} (ty : TyX K H v (.type a)) (hk : kitB a T = some b) (k : Q (.bl b) H) : rIsi K [v, .ty T] H Q := ⟨v, .ty T, _, _, b, rfl, .ty T, ty, kit_ty hk, k⟩
theorem k_isiT {K : PySem.W.Frag} {H : Hp} {v : V} {p : Addr} {a T1 T2 : String} {b1 b2 : Bool} {Q : VK} (hp : H p = some (.tup [.ty T1, .ty T2])) (ty : TyX K H v (.type a)) (h1 : kitB a T1 = some b1) (h2 : kitB a T2 = some b2) (k : Q (.bl (b1 || b2)) H) : rIsiT K [v, .ref p] H Q :=
  ⟨v, p, _, _, _, b1 || b2, rfl, hp, .cons (.ty T1) (.cons (.ty T2) .nil), ty, kitAny_cons (kit_ty h1) (fun e => by subst e; exact kitAny_cons (kit_ty h2) (fun e => by subst e; exact kitAny_nil) (fun e => by subst e; rfl)) (fun e => by subst e; rfl), k⟩
/-- isinstance of an own instance -/
theorem k_isiO {K : PySem.W.Frag} {H : Hp} {v : V} {t : Value} {C : Addr} {b : Bool} {Q : VK} (ty : TyX K H v t) (hk : PySem.W.kitOne K t (.ref C) = some b) (k : Q (.bl b) H) : rIsi K [v, .ref C] H Q := ⟨v, .ref C, _, _, b, rfl, .own C, ty, hk, k⟩
theorem one_new {G : Hp} {o : HO} {P : Addr → Hp → Prop} (k : ∀ p G', G p = none → G' = upd G p o → Same G G' → G' p = some o → P p G') : ∀ p, G p = none → P p (upd G p o) := fun p hp => k p _ hp rfl (same_new hp) upd_same
theorem small_size {n : Nat} (h : n ≤ 1000000) : n ≤ sizeLine := Nat.le_trans h (by rw [sizeLine_eq]; decide)
theorem small_lt {n : Nat} (h : n ≤ 1000000) : n < sizeLine := Nat.lt_of_le_of_lt h (by rw [sizeLine_eq]; decide)

/-! ### fields by place: the names written, the values by place -/
def nin (x : Str) : List Str → Bool
  | [] => true
  | n :: r => !(n == x) && nin x r
def pos? (x : Str) : List Str → Option Nat
  | [] => none
  | n :: r => if n == x then some 0 else (pos? x r).map (· + 1)
abbrev FL (ns : List Str) (vs : List V) : List (Str × V) := ns.zip vs
theorem fl_get {x : Str} : ∀ {ns : List Str} {vs : List V} {i : Nat} {v : V}, pos? x ns = some i → vs[i]? = some v → (FL ns vs).lookup x = some v
  | [], _, _, _, h, _ => by cases h
  | n :: r, [], i, v, h, hv => by simp at hv
  | n :: r, w :: ws, i, v, h, hv => by
    unfold pos? at h
    show List.lookup x ((n, w) :: FL r ws) = some v
    rw [List.lookup_cons]
    by_cases e : n == x
    · rw [if_pos e] at h
      cases h
      have e' : (x == n) = true := by rw [beq_iff_eq] at e ⊢; exact e.symm
      rw [e']
      exact hv
    · rw [if_neg e] at h
      have e' : (x == n) = false := by
        rw [Bool.eq_false_iff]
        intro q
        rw [beq_iff_eq] at q
        exact e (by rw [q]; simp)
      rw [e']
      cases hp : pos? x r with
      | none => rw [hp] at h; cases h
      | some j =>
        rw [hp] at h
        cases h
        exact fl_get (ns := r) hp (by simpa using hv)
theorem fl_no {x : Str} : ∀ {ns : List Str} {vs : List V}, nin x ns = true → (FL ns vs).lookup x = none
  | [], _, _ => rfl
  | n :: r, [], _ => rfl
  | n :: r, w :: ws, h => by
    unfold nin at h
    simp only [Bool.and_eq_true, Bool.not_eq_true'] at h
    show List.lookup x ((n, w) :: FL r ws) = none
    have e' : (x == n) = false := by
      rw [Bool.eq_false_iff]
      intro q
      rw [beq_iff_eq] at q
      rw [q] at h
      simp at h
    rw [List.lookup_cons, e']
    exact fl_no h.2
theorem fl_put {x : Str} {v : V} : ∀ {ns : List Str} {vs : List V}, ns.length = vs.length → nin x ns = true → putF x v (FL ns vs) = FL (ns ++ [x]) (vs ++ [v])
  | [], [], _, _ => rfl
  | n :: r, w :: ws, hl, h => by
    unfold nin at h
    simp only [Bool.and_eq_true, Bool.not_eq_true'] at h
    have e' : ¬ n = x := fun q => by
      rw [q] at h
      simp at h
    show (if n = x then _ else (n, w) :: putF x v (FL r ws)) = _
    rw [if_neg e', fl_put (by simpa using hl) h.2]
    rfl
theorem fl_len {ns : List Str} {vs : List V} : (FL ns vs).length ≤ ns.length := by
  rw [List.length_zip]
  omega
section
variable {K : PySem.W.Frag} {σ : L2.St} {H : Hp} {Q : VK} {D : Ends} {ta tv : TE} {f : Str} {a C dx : Addr} {ns : List Str} {vs : List V} {v y : V}
def rFld (K : PySem.W.Frag) (f : Str) (x : V) (H : Hp) (Q : VK) : Prop := ∃ a C dx fs v, x = .ref a ∧ H a = some (.ins C dx fs) ∧ Cls K C ∧ NoAttr K C f ∧ fs.lookup f = some v ∧ Q v H
theorem k_fld (h : ta σ H fun x H1 => rFld K f x H1 Q) : tFld K ta f σ H Q := h
theorem k_fldAt {i : Nat} (h : H a = some (.ins C dx (FL ns vs))) (c : Cls K C) (n : NoAttr K C f) (hi : pos? f ns = some i) (hv : vs[i]? = some v) (q : Q v H) : rFld K f (.ref a) H Q := ⟨a, C, dx, _, v, rfl, h, c, n, fl_get hi hv, q⟩
def rPutF (K : PySem.W.Frag) (f : Str) (y x : V) (H : Hp) (Q : Hp → Prop) : Prop := ∃ a C dx fs, x = .ref a ∧ H a = some (.ins C dx fs) ∧ Cls K C ∧ NoAttr K C f ∧ fs.length < 1000 ∧ Q (upd H a (.ins C dx (putF f y fs)))
theorem k_putF (h : tv σ H fun y H1 => ta σ H1 fun x H2 => rPutF K f y x H2 fun H3 => D.nx σ H3) : sFld K ta tv f D σ H := h
theorem k_putAt {Q : Hp → Prop} (h : H a = some (.ins C dx (FL ns vs))) (c : Cls K C) (n : NoAttr K C f) (hl : ns.length = vs.length) (hn : nin f ns = true) (hs : ns.length < 1000) (q : Q (upd H a (.ins C dx (FL (ns ++ [f]) (vs ++ [y]))))) : rPutF K f y (.ref a) H Q :=
  ⟨a, C, dx, _, rfl, h, c, n, Nat.lt_of_le_of_lt fl_len hs, by rw [fl_put hl hn]; exact q⟩
/-- the same, the instance just laid on top -/
theorem k_putTop {Q : Hp → Prop} (c : Cls K C) (n : NoAttr K C f) (hl : ns.length = vs.length) (hn : nin f ns = true) (hs : ns.length < 1000) (q : Q (upd H a (.ins C dx (FL (ns ++ [f]) (vs ++ [y]))))) : rPutF K f y (.ref a) (upd H a (.ins C dx (FL ns vs))) Q :=
  k_putAt upd_same c n hl hn hs (by rw [upd_upd]; exact q)
end
theorem len_text {i : Int} {k : Nat} (hk : 0 < k) (h : i.natAbs < 10 ^ k) : (Str.ofString (toString i)).length ≤ k + 1 := by
  have e := PySem.int_text_length_le10 hk h
  rw [PySem.ofString_length]
  exact e
theorem log_text {i : Int} {k : Nat} (hk : k ≤ 1000) (h : i.natAbs < 2 ^ k) : i.natAbs.log2 < 1920 := by
  by_cases h0 : i.natAbs = 0
  · rw [h0]; decide
  · exact Nat.lt_of_lt_of_le ((Nat.log2_lt h0).mpr h) (by omega)

theorem k_disp {n : Nat} {P : Prop} (h : n ≤ 1000000) (k : P) : n ≤ sizeLine ∧ P := ⟨small_size h, k⟩
/-! ### loops -/
section
variable {K : PySem.W.Frag} {σ : L2.St} {H : Hp} {D : Ends} {wi : TI} {g : TG} {tb : TS} {tl : TE} {ta : TA} {a : Addr} {xs : List V}
def ForW (J : It) (g : TG) (tb : TS) (D : Ends) (σ : L2.St) (H1 : Hp) : Prop := ∃ W : Nat → Nat → L2.St → Hp → Prop, (∃ m, W 0 m σ H1) ∧ ∀ i m σ H, W i m σ H →
  (J.stop i H ∧ D.nx σ H) ∨ (J.go i H ∧ ∃ N : L2.St → Hp → Prop, (∀ σ' H', N σ' H' → ∃ m', m' < m ∧ W (i + 1) m' σ' H') ∧ ∀ x H', J.yld i H x H' → g x σ H' fun σ2 H2 => tb { D with nx := N, ct := N, bk := D.nx } σ2 H2)
theorem k_for (h : wi σ H fun J H1 => ForW J g tb D σ H1) : tFor wi g tb D σ H := h
def rIL (K : PySem.W.Frag) (R : It → Hp → Prop) (x : V) (H : Hp) : Prop := ∃ a, x = .ref a ∧ (∃ xs, SqL K H a xs) ∧ R (Itl K a) H
def rIT (K : PySem.W.Frag) (R : It → Hp → Prop) (x : V) (H : Hp) : Prop := ∃ a, x = .ref a ∧ (∃ xs, SqT K H a xs) ∧ R (Itt K a) H
theorem k_iList {R : It → Hp → Prop} (h : tl σ H fun x H1 => rIL K R x H1) : iList K tl σ H R := h
theorem k_iTup {R : It → Hp → Prop} (h : tl σ H fun x H1 => rIT K R x H1) : iTup K tl σ H R := h
theorem k_iL {R : It → Hp → Prop} (h : SqL K H a xs) (k : R (Itl K a) H) : rIL K R (.ref a) H := ⟨a, rfl, ⟨xs, h⟩, k⟩
theorem k_iT {R : It → Hp → Prop} (h : SqT K H a xs) (k : R (Itt K a) H) : rIT K R (.ref a) H := ⟨a, rfl, ⟨xs, h⟩, k⟩
theorem k_forList (xs : List V) (Pv : Nat → L2.St → Hp → Prop) (h0 : Pv 0 σ H) (hl : ∀ i σ H, i ≤ xs.length → Pv i σ H → SqL K H a xs)
    (hs : ∀ i x σ H, xs[i]? = some x → Pv i σ H → g x σ H fun σ2 H2 => tb { D with nx := Pv (i + 1), ct := Pv (i + 1), bk := D.nx } σ2 H2) (hd : ∀ σ H, Pv xs.length σ H → D.nx σ H) : ForW (Itl K a) g tb D σ H := for_list Pv h0 hl hs hd
theorem k_forTup (xs : List V) (Pv : Nat → L2.St → Hp → Prop) (h0 : Pv 0 σ H) (hl : ∀ i σ H, i ≤ xs.length → Pv i σ H → SqT K H a xs)
    (hs : ∀ i x σ H, xs[i]? = some x → Pv i σ H → g x σ H fun σ2 H2 => tb { D with nx := Pv (i + 1), ct := Pv (i + 1), bk := D.nx } σ2 H2) (hd : ∀ σ H, Pv xs.length σ H → D.nx σ H) : ForW (Itt K a) g tb D σ H := for_tup Pv h0 hl hs hd
def rR1 (R : It → Hp → Prop) (vs : List V) (H : Hp) : Prop := ∃ j : Int, vs = [.int j] ∧ -(2 ^ 62) ≤ j ∧ j < 2 ^ 62 ∧ R (Itr 0 j.toNat) H
def rR2 (R : It → Hp → Prop) (vs : List V) (H : Hp) : Prop := ∃ i j : Int, vs = [.int i, .int j] ∧ (-(2 ^ 62) ≤ i ∧ i < 2 ^ 62 ∧ -(2 ^ 62) ≤ j ∧ j < 2 ^ 62) ∧ R (Itr i (j - i).toNat) H
theorem k_rng1 {R : It → Hp → Prop} (h : ta σ H fun vs H1 => rR1 R vs H1) : iRng1 ta σ H R := h
theorem k_rng2 {R : It → Hp → Prop} (h : ta σ H fun vs H1 => rR2 R vs H1) : iRng2 ta σ H R := h
theorem k_r1 {R : It → Hp → Prop} {j : Int} (h : -(2 ^ 62) ≤ j ∧ j < 2 ^ 62) (k : R (Itr 0 j.toNat) H) : rR1 R [.int j] H := ⟨j, rfl, h.1, h.2, k⟩
theorem k_r2 {R : It → Hp → Prop} {i j : Int} (h : -(2 ^ 62) ≤ i ∧ i < 2 ^ 62 ∧ -(2 ^ 62) ≤ j ∧ j < 2 ^ 62) (k : R (Itr i (j - i).toNat) H) : rR2 R [.int i, .int j] H := ⟨i, j, rfl, h, k⟩
theorem k_forRange {lo : Int} {n : Nat} (Pv : Nat → L2.St → Hp → Prop) (h0 : Pv 0 σ H)
    (hs : ∀ i σ H, i < n → Pv i σ H → g (.int (lo + i)) σ H fun σ2 H2 => tb { D with nx := Pv (i + 1), ct := Pv (i + 1), bk := D.nx } σ2 H2) (hd : ∀ σ H, Pv n σ H → D.nx σ H) : ForW (Itr lo n) g tb D σ H := for_range Pv h0 hs hd
/-- comprehensions -/
def LcW (J : It) (g : TG) (tt : TT) (te : TE) (vs : List Nat) (σ : L2.St) (H1 : Hp) (D : Addr) (Qd : Hp → Prop) : Prop := ∃ W : Nat → Nat → Hp → Prop, (∃ m, W 0 m (upd H1 D (.lst []))) ∧ ∀ i m H, W i m H →
  (J.stop i H ∧ Qd H) ∨ (J.go i H ∧ ∃ Nx : Hp → Prop, (∀ H', Nx H' → ∃ m', m' < m ∧ W (i + 1) m' H') ∧ ∀ x H', J.yld i H x H' → g x (wipe σ vs) H' fun σ2 H2 => wipe σ2 vs = wipe σ vs ∧ tt σ2 H2 fun b H3 =>
    if b = true then te σ2 H3 fun y H4 => ∃ acc, H4 D = some (.lst acc) ∧ acc.length < sizeLine ∧ Nx (upd H4 D (.lst (acc ++ [y]))) else Nx H3)
theorem k_lc {tt : TT} {te : TE} {vs : List Nat} {Q : VK} (h : wi σ H fun J H1 => ∀ D, H1 D = none → LcW J g tt te vs σ H1 D (fun H2 => Q (.ref D) H2)) : tLc wi g tt te vs σ H Q := h
theorem k_lcList {tt : TT} {te : TE} {vs : List Nat} {D : Addr} {Qd : Hp → Prop} (xs : List V) (Pv : Nat → Hp → Prop) (h0 : Pv 0 (upd H D (.lst []))) (hl : ∀ i H, i ≤ xs.length → Pv i H → SqL K H a xs)
    (hs : ∀ i x H, xs[i]? = some x → Pv i H → g x (wipe σ vs) H fun σ2 H2 => wipe σ2 vs = wipe σ vs ∧ tt σ2 H2 fun b H3 =>
      if b = true then te σ2 H3 fun y H4 => ∃ acc, H4 D = some (.lst acc) ∧ acc.length < sizeLine ∧ Pv (i + 1) (upd H4 D (.lst (acc ++ [y]))) else Pv (i + 1) H3) (hd : ∀ H, Pv xs.length H → Qd H) : LcW (Itl K a) g tt te vs σ H D Qd := lc_list Pv h0 hl hs hd
theorem k_lcTup {tt : TT} {te : TE} {vs : List Nat} {D : Addr} {Qd : Hp → Prop} (xs : List V) (Pv : Nat → Hp → Prop) (h0 : Pv 0 (upd H D (.lst []))) (hl : ∀ i H, i ≤ xs.length → Pv i H → SqT K H a xs)
    (hs : ∀ i x H, xs[i]? = some x → Pv i H → g x (wipe σ vs) H fun σ2 H2 => wipe σ2 vs = wipe σ vs ∧ tt σ2 H2 fun b H3 =>
      if b = true then te σ2 H3 fun y H4 => ∃ acc, H4 D = some (.lst acc) ∧ acc.length < sizeLine ∧ Pv (i + 1) (upd H4 D (.lst (acc ++ [y]))) else Pv (i + 1) H3) (hd : ∀ H, Pv xs.length H → Qd H) : LcW (Itt K a) g tt te vs σ H D Qd := lc_tup Pv h0 hl hs hd
theorem k_lcRange {tt : TT} {te : TE} {vs : List Nat} {D : Addr} {Qd : Hp → Prop} {lo : Int} {n : Nat} (Pv : Nat → Hp → Prop) (h0 : Pv 0 (upd H D (.lst [])))
    (hs : ∀ i H, i < n → Pv i H → g (.int (lo + i)) (wipe σ vs) H fun σ2 H2 => wipe σ2 vs = wipe σ vs ∧ tt σ2 H2 fun b H3 =>
      if b = true then te σ2 H3 fun y H4 => ∃ acc, H4 D = some (.lst acc) ∧ acc.length < sizeLine ∧ Pv (i + 1) (upd H4 D (.lst (acc ++ [y]))) else Pv (i + 1) H3) (hd : ∀ H, Pv n H → Qd H) : LcW (Itr lo n) g tt te vs σ H D Qd := lc_range Pv h0 hs hd
theorem k_yes {Q : Bool → Hp → Prop} (h : Q true H) : tYes σ H Q := h
/-- a while by an invariant and a measure, the test read at once -/
theorem k_while {c : TT} (W : Nat → L2.St → Hp → Prop) (m : Nat) (h0 : W m σ H)
    (hs : ∀ m σ H, W m σ H → c σ H fun b H1 => if b = true then ∃ N : L2.St → Hp → Prop, (∀ σ' H', N σ' H' → ∃ m', m' < m ∧ W m' σ' H') ∧ tb { D with nx := N, ct := N, bk := D.nx } σ H1 else D.nx σ H1) : tWhile c tb D σ H := ⟨W, ⟨m, h0⟩, hs⟩
/-- list(..), tuple(..) of what is read -/
theorem k_listL {p : Addr} {ys : List V} {Q : VK} (h : SqL K H p ys) (k : ∀ l, H l = none → Q (.ref l) (upd H l (.lst ys))) : rListU K [.ref p] H Q := ⟨p, ys, rfl, .inl h, k⟩
theorem k_listT {p : Addr} {ys : List V} {Q : VK} (h : SqT K H p ys) (k : ∀ l, H l = none → Q (.ref l) (upd H l (.lst ys))) : rListU K [.ref p] H Q := ⟨p, ys, rfl, .inr h, k⟩
theorem k_tupleL {p : Addr} {ys : List V} {Q : VK} (h : SqL K H p ys) (k : ∀ l, H l = none → Q (.ref l) (upd H l (.tup ys))) : rTupleU K [.ref p] H Q := ⟨p, ys, rfl, .inl ⟨h, k⟩⟩
theorem k_slL {p : Addr} {ys : List V} {lo hi : Option Int} {Q : VK} (h : SqL K H p ys) (k : ∀ l, H l = none → Q (.ref l) (upd H l (.lst (cutV ys lo hi)))) : rSlL K (.ref p) lo hi H Q := ⟨p, ys, rfl, h, k⟩
end
theorem cut_ints {ns : List Int} {lo hi : Option Int} : ∃ ms : List Int, cutV (ns.map V.int) lo hi = ms.map V.int := by
  unfold cutV
  exact ⟨_, by rw [List.length_map, ← List.map_drop, ← List.map_take]⟩

/-! ### targets that are tuples; walks of any kind -/
section
variable {K : PySem.W.Frag} {σ : L2.St} {H : Hp} {D : Ends} {g : TG} {tb : TS} {n : Nat} {J : It} {G : Hp → Prop} {Y : Nat → Hp → V → Hp → Prop}
theorem k_gTup {p : Addr} {xs : List V} {t : TGs} {Q : L2.St → Hp → Prop} (h : SqT K H p xs) (hl : xs.length = n) (k : t xs σ H Q) : gTup K n t (.ref p) σ H Q := ⟨p, xs, rfl, h, hl, k⟩
theorem k_gCons {v : V} {r : List V} {t : TG} {u : TGs} {Q : L2.St → Hp → Prop} (k : t v σ H fun σ' H' => u r σ' H' Q) : gCons t u (v :: r) σ H Q := ⟨v, r, rfl, k⟩
theorem k_gNil {Q : L2.St → Hp → Prop} (k : Q σ H) : gNil [] σ H Q := ⟨rfl, k⟩
theorem k_forIt (w : Walk J n G Y) (Pv : Nat → L2.St → Hp → Prop) (h0 : Pv 0 σ H) (hG : ∀ i σ H, i ≤ n → Pv i σ H → G H)
    (hs : ∀ i x σ H H', i < n → Pv i σ H → Y i H x H' → g x σ H' fun σ2 H2 => tb { D with nx := Pv (i + 1), ct := Pv (i + 1), bk := D.nx } σ2 H2) (hd : ∀ σ H, Pv n σ H → D.nx σ H) : ForW J g tb D σ H := for_it w Pv h0 hG hs hd
theorem k_lcIt (w : Walk J n G Y) {tt : TT} {te : TE} {vs : List Nat} {D : Addr} {Qd : Hp → Prop} (Pv : Nat → Hp → Prop) (h0 : Pv 0 (upd H D (.lst []))) (hG : ∀ i H, i ≤ n → Pv i H → G H)
    (hs : ∀ i x H H', i < n → Pv i H → Y i H x H' → g x (wipe σ vs) H' fun σ2 H2 => wipe σ2 vs = wipe σ vs ∧ tt σ2 H2 fun b H3 =>
      if b = true then te σ2 H3 fun y H4 => ∃ acc, H4 D = some (.lst acc) ∧ acc.length < sizeLine ∧ Pv (i + 1) (upd H4 D (.lst (acc ++ [y]))) else Pv (i + 1) H3) (hd : ∀ H, Pv n H → Qd H) : LcW J g tt te vs σ H D Qd := lc_it w Pv h0 hG hs hd
theorem k_iEnum {ta : TA} {R : It → Hp → Prop} (h : ta σ H fun vs H1 => ∃ a xs, vs = [.ref a] ∧ SqL K H1 a xs ∧ R (Ite K a) H1) : iEnum K ta σ H R := h
theorem k_iZip {ta : TA} {R : It → Hp → Prop} (h : ta σ H fun vs H1 => ∃ a b xs ys, vs = [.ref a, .ref b] ∧ SqL K H1 a xs ∧ SqL K H1 b ys ∧ R (Itz K a b) H1) : iZip K ta σ H R := h
theorem kpi_enum {X : Cx} (K : PySem.W.Frag) {e : Expr} {ta : TA} {p pos tpos : Pos} {elts : List Expr} {kk : Nat} (hg : Gl X "enumerate") (hm : X.mg "enumerate" = none) (ha : PA X [e] ta) (hK : X.K = K := by rfl) (hs : starEach [e] X.env = [(false, eval e X.env)] := by rfl) :
    PI X (.Tuple elts kk tpos) (.Call (.Name "enumerate" p) [e] [] pos) (iEnum K ta) := by subst hK; exact pi_enum hg hm ha hs
end
def rJoin (K : PySem.W.Frag) (x : V) (y : V) (H : Hp) (Q : VK) : Prop := ∃ a p, ∃ ys : List Str, x = .str a ∧ [y] = [V.ref p] ∧ (SqL K H p (ys.map V.str) ∨ SqT K H p (ys.map V.str)) ∧ (ys.map (·.length)).sum + ys.length * a.length ≤ 16777216 ∧ Q (.str (Txt.join a ys)) H
def tJoinU (K : PySem.W.Frag) (to te : TE) : TE := fun σ H Q => to σ H fun x H1 => (∃ a, x = .str a) ∧ te σ H1 fun y H2 => rJoin K x y H2 Q
theorem kpe_join {X : Cx} (K : PySem.W.Frag) {o e : Expr} {to te : TE} {apos pos : Pos} (ho : PE X o to) (he : PE X e te) (hK : X.K = K := by rfl) (hs : starEach [e] X.env = [(false, eval e X.env)] := by rfl) (hbase : attributeBase o "join" X.env (eval o X.env) = eval o X.env := by rfl) (hline : (apos.endLine == pos.line) = true := by rfl) :
    PE X (.Call (.Attribute o "join" apos) [e] [] pos) (tJoinU K to te) := by subst hK; exact pe_join ho he hs hbase hline
theorem k_joinC {K : PySem.W.Frag} {σ : L2.St} {H : Hp} {Q : VK} {z : Str} {te : TE} (h : te σ H fun y H2 => rJoin K (.str z) y H2 Q) : tJoinU K (tC (.str z)) te σ H Q := ⟨⟨z, rfl⟩, h⟩
theorem k_joinL {K : PySem.W.Frag} {H : Hp} {Q : VK} {z : Str} {p : Addr} {ys : List Str} (h : SqL K H p (ys.map V.str)) (hz : (ys.map (·.length)).sum + ys.length * z.length ≤ 16777216) (k : ∀ out : Str, out = Txt.join z ys → Q (.str out) H) : rJoin K (.str z) (.ref p) H Q := ⟨z, p, ys, rfl, rfl, .inl h, hz, k _ rfl⟩
/-! ### f-strings, join -/
section
variable {σ : L2.St} {H : Hp} {te : TE}
theorem k_js {ts : List TE} {Q : VK} (h : tJs ts Str.empty σ H fun out H1 => Q (.str out) H1) : (fun (σ : L2.St) (H : Hp) (Q : VK) => tJs ts Str.empty σ H fun out H1 => Q (.str out) H1) σ H Q := h
theorem k_jsNil {acc : Str} {Q : Str → Hp → Prop} (h : Q acc H) : tJs [] acc σ H Q := h
theorem k_jsCons {ts : List TE} {acc : Str} {Q : Str → Hp → Prop} (h : te σ H fun x H1 => ∃ y : Str, x = .str y ∧ (acc ++ y).length ≤ sizeLine ∧ tJs ts (acc ++ y) σ H1 Q) : tJs (te :: ts) acc σ H Q := h
theorem k_jsV {acc z : Str} {P : Str → Prop} (h : (acc ++ z).length ≤ 1000000) (k : P z) : ∃ y : Str, V.str z = .str y ∧ (acc ++ y).length ≤ sizeLine ∧ P y := ⟨z, rfl, small_size h, k⟩
def rFmt (x : V) (H : Hp) (Q : VK) : Prop := (∃ y : Str, x = .str y ∧ y.length ≤ sizeLine ∧ Q (.str y) H) ∨ ∃ i : Int, x = .int i ∧ i.natAbs.log2 < 1920 ∧ Q (.str (toString i)) H
theorem k_fmt {Q : VK} (h : te σ H fun x H1 => rFmt x H1 Q) : tFmt te σ H Q := h
theorem k_fmtS {z : Str} {Q : VK} (h : z.length ≤ 1000000) (k : Q (.str z) H) : rFmt (.str z) H Q := .inl ⟨z, rfl, small_size h, k⟩
theorem k_fmtI {i : Int} {Q : VK} (h : i.natAbs < 2 ^ 64) (k : Q (.str (toString i)) H) : rFmt (.int i) H Q := .inr ⟨i, rfl, log_text (k := 64) (by decide) h, k⟩
theorem k_str1 {i : Int} {Q : VK} (h : i.natAbs < 2 ^ 64) (k : Q (.str (toString i)) H) : rStr1 [.int i] H Q := ⟨i, rfl, log_text (k := 64) (by decide) h, k⟩
end
theorem len_empty : Str.empty.length = 0 := by decide +kernel

/-! ### what changes one object alone -/
def SameBut (a : Addr) (H H' : Hp) : Prop := ∀ b o, b ≠ a → H b = some o → H' b = some o
theorem SameBut.refl (a : Addr) (H : Hp) : SameBut a H H := fun _ _ _ h => h
theorem SameBut.trans {a : Addr} {H H1 H2 : Hp} (x : SameBut a H H1) (y : SameBut a H1 H2) : SameBut a H H2 := fun b o n h => y b o n (x b o n h)
theorem SameBut.of {a : Addr} {H H' : Hp} (x : Same H H') : SameBut a H H' := fun b o _ h => x b o h
theorem SameBut.put {a : Addr} {H H' : Hp} {o : HO} (x : SameBut a H H') : SameBut a H (upd H' a o) := fun b u n h => by
  rw [upd_ne n]
  exact x b u n h
/-- the object was new: all is as it was -/
theorem SameBut.made {x dx : Addr} {H H' : Hp} {C : Addr} {fs : List (Str × V)} (hx : H x = none) (hd : H dx = none) (ne : dx ≠ x) (s : SameBut x (upd (upd H dx (.own x)) x (.ins C dx fs)) H') : Same H H' := fun b o h => by
  have n1 : b ≠ x := ne_of_none h hx
  have n2 : b ≠ dx := ne_of_none h hd
  exact s b o n1 (by rw [upd_ne n1, upd_ne n2]; exact h)
theorem cc_look {cc : Addr} : List.lookup ("__class__" : Str) [(("__class__" : Str), cc)] = some cc := by
  rw [List.lookup_cons]
  simp
end Kit

/-! Sup: methods of the program's own classes that say super().m(..): the def closes over its class. -/
namespace Kit
open PySem PySem.Spec PyProof.Rows L2

structure SupAt (K : PySem.W.Frag) (C D f2 : Addr) (name : Str) : Prop where
  sub : PySem.W.mroIn K C (.ref D) = some true
  m : PySem.W.ks_superIn K C D name = some (some (.ref f2))
  fn : PySem.W.fnIn K f2 = true
  ty : PySem.W.typeIn K (.ref f2) = some (.type "function")
structure SupDef (P : Program) (K : PySem.W.Frag) (mg : Str → Option Value) (f D cc cda : Addr) (sf : Str) : Prop where
  fn : ∃ oc od fd osl ar, K.lookup f = some ⟨oc, od, .func fd, osl⟩ ∧ (fd.params.posonlyargs ++ fd.params.args).head? = some ar ∧ ar.arg = sf
  code : ∃ ccl cdd vs ccs file tf, K.lookup cda = some ⟨ccl, cdd, .fields vs, ccs⟩ ∧ vs[2]? = some (.str file tf) ∧ ((P.main.file : Str) == file) = true
  cell : ∃ cl cld csl, K.lookup cc = some ⟨cl, cld, .cell (some (.ref D)), csl⟩
  cls : ∃ cdD, PySem.W.clsIn K D = some cdD
  sup : mg "super" = none
  top : (P.main.scope.names.lookup ("super" : Str)).isSome = false
  st : PySem.W.nsIn K cStatics "thirdparty.any" = some none

/-- a block, a statement, in the activation of the def whose whole body is told -/
structure PSA (X : Cx) (body sts : List Stmt) (t : TS) : Prop where
  go : ∀ (pins : List (Addr × Obj)) (s : Shared) (σ : L2.St) (H : Hp) (D : Ends), Inv X pins σ H s → t D σ H → PySem.wpAt (model X.prog X.w) X.A (.func body X.env) (execs sts X.env) (SP X pins D) X.xe s
structure PSt (X : Cx) (body : List Stmt) (st : Stmt) (t : TS) : Prop where
  go : ∀ (pins : List (Addr × Obj)) (s : Shared) (σ : L2.St) (H : Hp) (D : Ends), Inv X pins σ H s → t D σ H → PySem.wpAt (model X.prog X.w) X.A (.func body X.env) (exec st X.env) (SP X pins D) X.xe s
section
variable {X : Cx} {body rest sts : List Stmt} {st : Stmt} {t u : TS}
theorem psa_of (h : PSs X sts t) : PSA X body sts t := ⟨fun pins s σ H D I q => wpAt_of_wpAny (h.run pins s σ H D I q)⟩
theorem pst_of (h : PS X st t) : PSt X body st t := ⟨fun pins s σ H D I q => wpAt_of_wpAny (h.run pins s σ H D I q)⟩
theorem psa_cons (h1 : PSt X body st t) (h2 : PSA X body rest u) : PSA X body (st :: rest) (tSeq t u) := by
  refine ⟨fun pins s σ H D I q => ks_wpAt_execs_cons (ks_wpAt_mono (h1.go pins s σ H _ I q) (fun fl s' hf => ?_) fun _ _ z => z)⟩
  cases fl with
  | next =>
    obtain ⟨σ', H', I', q'⟩ := hf
    exact h2.go pins s' σ' H' D I' q'
  | ret v => exact hf
  | brk => exact hf
  | cont => exact hf
theorem psa_one (h1 : PSt X body st t) : PSA X body [st] t := by
  refine ⟨fun pins s σ H D I q => ks_wpAt_execs_cons (ks_wpAt_mono (h1.go pins s σ H _ I q) (fun fl s' hf => ?_) fun _ _ z => z)⟩
  cases fl with
  | next => exact wpAt_of_wpAny (wpAny_execs_nil hf)
  | ret v => exact hf
  | brk => exact hf
  | cont => exact hf

/-- super().m(e, ..) as a statement; self in the first slot -/
def tSup (K : PySem.W.Frag) (D : Addr) (name : Str) (f2 : Addr) (sp : Sp) (dvs : List V) (E : XK) (ta : TA) : TS := fun B σ H => ∃ a C dx fs, σ[0]? = some (some (V.ref a)) ∧ H a = some (.ins C dx fs) ∧ SupAt K C D f2 name ∧
  ∀ q, H q = none → ta σ (upd H q (.met f2 a)) fun vs H1 => H1 q = some (.met f2 a) ∧ sp (.ref a :: (vs ++ dvs)) H1 (fun _ H2 => B.nx σ H2) E
theorem pst_super {f D cc cda f2 : Addr} {self name : Str} {e : Expr} {es : List Expr} {ta : TA} {sp : Sp} {dvs : List V} {ds : List Value} {E : XK} {CX : CXT} {k : Nat} {fd2 : FuncData} {ps : List Str} {p0 p1 apos pos spos : Pos} {pl : Sem Bool}
    (S : SupDef X.prog X.K X.mg f D cc cda self) (hfu : X.env.func = some f) (hco : X.env.code = .ref cda) (hks : X.env.kindOf "super" = some .globalImplicit) (hkc : X.env.kindOf "__class__" = some .free) (hcc : X.env.cells.lookup ("__class__" : Str) = some cc)
    (hN : X.N[0]? = some self) (hv : X.env.scope.names.lookup self = some .local) (hn : (name == ("__class__" : Str)) = false)
    (F : FnOk X.prog X.w X.K X.mg X.base CX k f2 fd2 ps sp) (hr : Room k X.A) (hb : Binds X.K fd2 ps ds) (hd : Vals dvs ds) (hx : Passes CX X E) (ha : PA X (e :: es) ta)
    (hs : swapsWith (.Call (.Attribute (.Call (.Name "super" p0) [] [] p1) name apos) (e :: es) [] pos) none spos.line X.env = pure false := by rfl)
    (he0 : eval (.Call (.Attribute (.Call (.Name "super" p0) [] [] p1) name apos) (e :: es) [] pos) X.env = (do
      let ov ← attributeBase (.Call (.Name "super" p0) [] [] p1) name X.env (eval (.Call (.Name "super" p0) [] [] p1) X.env)
      standAt apos.atName
      let (f, first) ← holding [ov] (getMethod ov name pl)
      callWith pos f first (backTo pos (starEach (e :: es) X.env)) []) := by rfl)
    (he : starEach (e :: es) X.env = (false, eval e X.env) :: starEach es X.env := by rfl) (hpl : (backTo pos (starEach es X.env)).any (·.1) = false := by rfl) :
    PSt X body (.Expr (.Call (.Attribute (.Call (.Name "super" p0) [] [] p1) name apos) (e :: es) [] pos) spos) (tSup X.K D name f2 sp dvs E ta) := by
  refine ⟨fun pins s σ H B I h => ?_⟩
  obtain ⟨a, C, dx, fs, hσ, hH, SA, q⟩ := h
  obtain ⟨oc, od, fd, osl, ar, lkf, hhead, har⟩ := S.fn
  obtain ⟨ccl, cdd, vs, ccs, file, tf, lkc, hvs, hfile⟩ := S.code
  obtain ⟨cl, cld, csl, lkcell⟩ := S.cell
  obtain ⟨cdD, hD⟩ := S.cls
  have KI := I.kIn
  obtain ⟨mA, OM, _⟩ := ins_get I.hok hH
  obtain ⟨odx, IA, _⟩ := OM.look
  obtain ⟨oD, hD1, hD2⟩ : ∃ oD, s.heap.get? D = some oD ∧ oD.data = .cls cdD := by
    unfold PySem.W.clsIn at hD
    split at hD
    · rename_i c d cd' sl ho
      cases hD
      exact ⟨_, KI _ _ ho, rfl⟩
    · cases hD
  obtain ⟨m, hns, hloc⟩ := I.loc
  obtain ⟨u, ru, lk⟩ := hloc 0 self (.ref a) hN hσ (.inl hv)
  cases ru
  have hself : m self = some (.ref a) := by
    rcases lk with ⟨_, z⟩ | ⟨z, _⟩
    · exact z
    · have z' : X.env.scope.names.lookup self = some .cell ∨ X.env.scope.names.lookup self = some .free := z
      rw [hv] at z'
      rcases z' with z' | z' <;> cases z'
  refine ks_wpAt_Expr_any ?_ I.quiet hs
  refine ks_wpAt_MethodCall ?_ he0
  refine ks_wpAt_super_base (env := X.env) hks hkc hn hfu (KI _ _ lkf) rfl hhead hco (KI _ _ lkc) rfl hvs hfile S.top ?_
  obtain ⟨mb, hb1, hb2⟩ := I.mod.blt
  refine PySem.W.ks_loadName_global I.ok.kind hks (Calls.loadGlobal_builtin (by rw [I.ok.glob]; exact I.mod.glob.keeps I.bk) S.sup (by rw [I.ok.blt]; exact hb1.keeps I.bk) ((hb2 "super" (by decide)).trans (show bootBuiltins "super" = some (.type "super") by decide +kernel)) ⟨rfl, ?_⟩)
  refine wpAny_loadName_free I.ok.kind hkc hcc ⟨_, KI _ _ lkcell, rfl⟩ ?_
  rw [har]
  refine wpAny_loadName_local I.ok.kind hv hns hself ?_
  refine ks_wpAny_isType_cls hD1 hD2 ⟨rfl, ?_⟩
  obtain ⟨hp, g, dr, tk, os⟩ := s
  refine ks_wpAny_call_super hD1 hD2 IA.at_ IA.cls (fun c e => ?_) (PySem.W.looks_mroIn KI SA.sub) (fun h' e k => ?_)
  · have z := IA.no
    unfold PySem.W.notCls at z
    rw [e] at z
    exact Bool.noConfusion z
  have I1 : Inv X pins σ H ⟨h', g, dr, tk, os⟩ := I.kept (t' := tk) k
  have KI1 := I1.kIn
  have hm := SA.m
  unfold PySem.W.ks_superIn at hm
  obtain ⟨cd, hc⟩ : ∃ cd, PySem.W.clsIn X.K C = some cd := by
    cases hc : PySem.W.clsIn X.K C with
    | none => rw [hc] at hm; cases hm
    | some cd => exact ⟨cd, rfl⟩
  rw [hc] at hm
  obtain ⟨of, lof, hofc⟩ : ∃ of, X.K.lookup f2 = some of ∧ of.cls = .type "function" := by
    have ht' : (X.K.lookup f2).map (·.cls) = some (.type "function") := SA.ty
    cases z : X.K.lookup f2 with
    | none => rw [z] at ht'; cases ht'
    | some of => rw [z] at ht'; exact ⟨of, rfl, Option.some.inj ht'⟩
  refine ks_wpAny_getMethod_super e (PySem.W.looks_opaque KI1 S.st) (l₀ := cd.mro) ?_ rfl KI1 hm (KI1 _ _ lof) hofc (PySem.W.ks_ne KI IA hc) hn ?_
  · exact fun A Q E s k q => wpAny_bind ((PySem.W.looks_clsIn KI1 hc) A _ E s k (wpAny_pure q))
  have nq : H h'.objs.size = none := I1.hok.fresh (Nat.le_refl _)
  have hq0 : (h'.push { cls := .type "method", data := .fields #[.ref f2, .ref a] }).get? h'.objs.size = some (PySem.W.methodObj (.ref f2) (.ref a)) := Heap.get?_push_at rfl rfl
  have I2 : Inv X pins σ (upd H h'.objs.size (.met f2 a)) ⟨h'.push { cls := .type "method", data := .fields #[.ref f2, .ref a] }, g, dr, tk + 1, os⟩ :=
    I1.laid (t' := tk + 1) (a := h'.objs.size) (o := .met f2 a) (h' := h'.push { cls := .type "method", data := .fields #[.ref f2, .ref a] }) (fun b o e => Heap.get?_push_of_some _ e) (Nat.le_refl _) hq0
  have hq := q h'.objs.size nq
  generalize h'.objs.size = qa at *
  refine PySem.W.callWith_of (P := fun h => PySem.W.MethP X.K qa f2 (.ref a) h) (by rw [he]; show ((false || (backTo pos (starEach es X.env)).any (·.1)) || false) = false; rw [hpl]; rfl) (PySem.W.keeps_M SA.fn) ?_
  rw [he]
  refine PySem.Calls.evalArgs_plain ?_
  have hrun := ha.run pos pins _ σ _ _ I2 hq
  rw [he] at hrun
  refine thn hrun fun us s1 ⟨ws, H1, I3, r1, hqm, hsp⟩ => ?_
  have hmo : s1.heap.get? qa = some (PySem.W.methodObj (.ref f2) (.ref a)) := I3.hok qa _ hqm
  refine ⟨⟨hmo, I3.kIn⟩, wpAny_call (ks_codeAny_call_bound hmo ?_)⟩
  have r2 : Vals (V.ref a :: (ws ++ dvs)) (Value.ref a :: (us ++ ds)) := .cons rfl (r1.append hd)
  have hl : (Value.ref a :: us ++ ds).length = ps.length := by
    have e := r2.length
    rw [F.len _ _ _ _ hsp] at e
    exact e.symm
  refine codeAny_mono (F.run X.A X.stack s1 H1 ⟨Value.ref a :: us, []⟩ (Value.ref a :: (us ++ ds)) _ _ E hr I3.env0 (hb _ (Value.ref a :: us) I3.kIn hl) r2 hsp) fun r s' hq' => ?_
  cases r with
  | error er => exact hx pins σ H1 s1 er s' I3 hq'
  | ok fl =>
    cases fl with
    | ret v =>
      obtain ⟨x, H2, I4, rx, q4⟩ := I3.after hq'
      exact ⟨σ, H2, I4, q4⟩
    | next => exact False.elim hq'
    | brk => exact False.elim hq'
    | cont => exact False.elim hq'
end

theorem kpst_super (K : PySem.W.Frag) {f D cc cda f2 : Addr} {self name : Str} {e : Expr} {es : List Expr} {ta : TA} {sp : Sp} {dvs : List V} {ds : List Value} {E : XK} {CX : CXT} {k : Nat} {fd2 : FuncData} {ps : List Str} {p0 p1 apos pos spos : Pos} {pl : Sem Bool}
    (S : SupDef X.prog X.K X.mg f D cc cda self) (hfu : X.env.func = some f) (hco : X.env.code = .ref cda) (hks : X.env.kindOf "super" = some .globalImplicit) (hkc : X.env.kindOf "__class__" = some .free) (hcc : X.env.cells.lookup ("__class__" : Str) = some cc)
    (hN : X.N[0]? = some self) (hv : X.env.scope.names.lookup self = some .local) (hn : (name == ("__class__" : Str)) = false)
    (F : FnOk X.prog X.w X.K X.mg X.base CX k f2 fd2 ps sp) (hr : Room k X.A) (hb : Binds X.K fd2 ps ds) (hd : Vals dvs ds) (hx : Passes CX X E) (ha : PA X (e :: es) ta) (hK : X.K = K := by rfl)
    (hs : swapsWith (.Call (.Attribute (.Call (.Name "super" p0) [] [] p1) name apos) (e :: es) [] pos) none spos.line X.env = pure false := by rfl)
    (he0 : eval (.Call (.Attribute (.Call (.Name "super" p0) [] [] p1) name apos) (e :: es) [] pos) X.env = (do
      let ov ← attributeBase (.Call (.Name "super" p0) [] [] p1) name X.env (eval (.Call (.Name "super" p0) [] [] p1) X.env)
      standAt apos.atName
      let (f, first) ← holding [ov] (getMethod ov name pl)
      callWith pos f first (backTo pos (starEach (e :: es) X.env)) []) := by rfl)
    (he : starEach (e :: es) X.env = (false, eval e X.env) :: starEach es X.env := by rfl) (hpl : (backTo pos (starEach es X.env)).any (·.1) = false := by rfl) :
    PSt X body (.Expr (.Call (.Attribute (.Call (.Name "super" p0) [] [] p1) name apos) (e :: es) [] pos) spos) (tSup K D name f2 sp dvs E ta) := by
  subst hK
  exact pst_super S hfu hco hks hkc hcc hN hv hn F hr hb hd hx ha hs he0 he hpl
theorem k_sup {K : PySem.W.Frag} {D0 f2 a C dx : Addr} {name : Str} {sp : Sp} {dvs : List V} {E : XK} {ta : TA} {B : Ends} {σ : L2.St} {H : Hp} {fs : List (Str × V)} (h0 : σ[0]? = some (some (V.ref a))) (h1 : H a = some (.ins C dx fs)) (h2 : SupAt K C D0 f2 name)
    (k : ∀ q H', H q = none → H' = upd H q (.met f2 a) → Same H H' → H' q = some (.met f2 a) → ta σ H' fun vs H1 => H1 q = some (.met f2 a) ∧ sp (.ref a :: (vs ++ dvs)) H1 (fun _ H2 => B.nx σ H2) E) : tSup K D0 name f2 sp dvs E ta B σ H :=
  ⟨a, C, dx, fs, h0, h1, h2, fun q nq => k q _ nq rfl (same_new nq) upd_same⟩
theorem PSA.nox {X : Cx} {body sts : List Stmt} {t : TS} (h : PSA X.nox body sts t) : PSA X body sts t := ⟨fun pins s σ H D I hw =>
  ks_wpAt_mono (h.go pins s σ H D (I.wish _) hw) (fun _ _ q => q.unwish) fun _ _ z => False.elim z⟩

/-- a method that closes over its class, as it stands behind the top -/
structure FunS (K : PySem.W.Frag) (x qual : Str) (st : Stmt) (f : Addr) (fd : FuncData) (cc cda : Addr) : Prop where
  ex : ∃ (oc : Value) (od : Option Addr) (kV doc pm : Value) (an : Option Addr) (ct : Value) (osl : Array (Option Value)),
    fd = PySem.W.fnX x qual (defArgs st) (defBody st) (defScope st) [("__class__", cc)] .none kV doc pm an (.ref cda) ct ∧ K.lookup f = some ⟨oc, od, .func fd, osl⟩ ∧ PySem.W.codeIn K (.ref cda) qual = true
  kp : PySem.W.keepIn K (.ref f) = true
section
variable {P : Program} {w : World} {K : PySem.W.Frag} {mg : Str → Option Value} {base : Heap}
theorem funS_mk {x qual : Str} {st : Stmt} {f cc cda : Addr} {oc : Value} {od an : Option Addr} {osl : Array (Option Value)} {kV doc pm ct : Value} (l : K.lookup f = some ⟨oc, od, .func (PySem.W.fnX x qual (defArgs st) (defBody st) (defScope st) [("__class__", cc)] .none kV doc pm an (.ref cda) ct), osl⟩)
    (c : PySem.W.codeIn K (.ref cda) qual = true) (k : PySem.W.keepIn K (.ref f) = true) : FunS K x qual st f (PySem.W.fnX x qual (defArgs st) (defBody st) (defScope st) [("__class__", cc)] .none kV doc pm an (.ref cda) ct) cc cda := ⟨⟨oc, od, kV, doc, pm, an, ct, osl, rfl, l, c⟩, k⟩
theorem FunS.binds {x qual : Str} {st : Stmt} {f cc cda : Addr} {fd : FuncData} {ps : List Str} (F : FunS K x qual st f fd cc cda)
    (h : ∀ (kV doc pm : Value) (an : Option Addr) (ct : Value) (us : List Value), us.length = ps.length → bindArgs (PySem.W.fnX x qual (defArgs st) (defBody st) (defScope st) [("__class__", cc)] .none kV doc pm an (.ref cda) ct) ⟨us, []⟩ = pure (ps.zip us)) : Binds K fd ps [] := by
  obtain ⟨oc, od, kV, doc, pm, an, ct, osl, rfl, lk, hcd⟩ := F.ex
  exact .all (h kV doc pm an ct)
abbrev nfS (x qual : Str) (st : Stmt) (cc cda : Addr) : NdefX.NF := ⟨x, qual, defArgs st, defBody st, defScope st, [("__class__", cc)], cda⟩
theorem FunS.ok {x qual : Str} {st : Stmt} {f cc cda D0 : Addr} {fd : FuncData} {N ps : List Str} {k : Nat} {sp : Sp} {cl : Value} {cld : Option Addr} {csl : Array (Option Value)} (F : FunS K x qual st f fd cc cda) (S : NdefX.NScope N ps ["__class__"] (defScope st))
    (hcell : K.lookup cc = some ⟨cl, cld, .cell (some (.ref D0)), csl⟩) (hbn : Binds K fd ps []) (len : ∀ vs H Q E, sp vs H Q E → vs.length = ps.length)
    (hbody : ∀ (A : Around) (outer : List Env) (s : Shared) (H : Hp) (vs : List V) (Q : VK) (E : XK), Room k (A.deeper (NdefX.envF (nfS x qual st cc cda) f s.heap.objs.size)) → sp vs H Q E →
      ∃ t, PSA (NdefX.ncx CX0 P w K mg base N (nfS x qual st cc cda) f A outer s H E).nox (defBody st) (defBody st) t ∧ t { nx := fun _ H' => Q .non H', rt := Q } (NdefX.startF N vs [some (.ref D0)]) H) :
    FnOk P w K mg base CX0 (k + 1) f fd ps sp := by
  obtain ⟨oc, od, kV, doc, pm, an, ct, osl, efd, lk, hcd⟩ := F.ex
  refine ⟨len, fun A outer s H args us vs Q E hr e0 hb r hsp => ?_⟩
  have hl := len _ _ _ _ hsp
  have KB := e0.mod.kin
  have KX : K.In s.heap := KB.keeps fun b o e => (e0.bs b o e).1
  have lim : s.heap.NoLimit := e0.mod.nolimit.keeps fun b o e => (e0.bs b o e).1
  have hc1 := e0.bs _ _ (KB _ _ hcell)
  have CA : NdefX.CellsAt [("__class__", cc)] ["__class__"] [some (.ref D0)] s.heap H := by
    have key : ∀ y c, List.lookup y [(("__class__" : Str), cc)] = some c → y = "__class__" ∧ c = cc := fun y c e => by
      rw [List.lookup_cons] at e
      by_cases hy : y = "__class__"
      · subst hy
        simp at e
        exact ⟨rfl, e.symm⟩
      · have : (y == ("__class__" : Str)) = false := by simpa using hy
        rw [this] at e
        cases e
    refine ⟨rfl, fun y c e => ?_, fun x y c e1 e2 => ((key x c e1).1).trans ((key y c e2).1).symm, fun i y e => ?_⟩
    · obtain ⟨rfl, rfl⟩ := key y c e
      exact ⟨hc1.2, _, _, hc1.1, rfl⟩
    · have hi : i = 0 := by
        have := (List.getElem?_eq_some_iff.mp e).1
        simp at this
        exact this
      subst hi
      have ey : ("__class__" : Str) = y := Option.some.inj e
      subst ey
      refine ⟨cc, by simp, fun v ev => ?_⟩
      have ev' : V.ref D0 = v := Option.some.inj (Option.some.inj ev)
      subst ev'
      exact ⟨.ref D0, rfl, _, hc1.1, rfl⟩
  subst efd
  refine codeAny_call_function hr.depth (KX _ _ lk) rfl S.co S.gen rfl (PySem.W.codeRec_of KX hcd) (hb _ _ _ _ ?_)
  refine wpAny_newFunctionEnv S.nocell (fun ⟨n, _⟩ hy => S.par n (List.of_mem_zip hy).1) (fun h₁ hns hsb => ⟨lim.fresh _ hsb, ?_⟩) S.kind
  show codeAny _ _ (.func (defBody st) (NdefX.envF (nfS x qual st cc cda) f s.heap.objs.size)) _ _
  have kp : ∀ b o, s.heap.get? b = some o → h₁.get? b = some o := fun b o e => hsb.extBut b o (Nat.ne_of_lt (Heap.lt_size e)) (Heap.get?_push_of_some _ e)
  obtain ⟨t, ht, hq⟩ := hbody A outer s H vs Q E (hr.deeper _) hsp
  have I : Inv (NdefX.ncx CX0 P w K mg base N (nfS x qual st cc cda) f A outer s H E) [] (NdefX.startF N vs [some (.ref D0)]) H { s with heap := h₁, toks := s.toks + (ps.zip us).length } :=
    NdefX.inv_startN (F := nfS x qual st cc cda) S hr.hd e0 hl r CA hns kp
  refine ks_codeAny_funcAt (ks_wpAt_mono (ht.nox.go [] _ _ H _ I hq) (fun fl s' hs => ?_) fun e s' hs => hs)
  have fin : ∀ {σ' : L2.St} {H' : Hp} {v : V} {u : Value}, Inv (NdefX.ncx CX0 P w K mg base N (nfS x qual st cc cda) f A outer s H E) [] σ' H' s' → L2.RelV v u → Q v H' → CE outer P w H s Q u s' :=
    fun {σ' H' v u} J rv q => ⟨v, H', J.os, J.bare, J.base, J.hok, rv, q⟩
  cases fl with
  | ret u =>
    obtain ⟨v, σ', H', J, rv, q⟩ := hs
    exact fin J rv q
  | next =>
    obtain ⟨σ', H', J, q⟩ := hs
    exact fin (v := V.non) (u := Value.none) J rfl q
  | brk =>
    obtain ⟨_, _, _, q⟩ := hs
    exact False.elim q
  | cont =>
    obtain ⟨_, _, _, q⟩ := hs
    exact False.elim q
end

/-! ### methods found by the instance's own class -/
/-- for an instance of C the method m keeps sp -/
def Disp (X : Cx) (CX : CXT) (k : Nat) (m : Str) (R : Addr → Sp → Prop) : Prop :=
  ∀ C sp, R C sp → ∃ g fd ps, Cls X.K C ∧ Meth X.K C m g ∧ FnOk X.prog X.w X.K X.mg X.base CX k g fd ps sp ∧ Binds X.K fd ps []
def tMethP (R : Addr → Sp → Prop) (m : Str) (E : XK) (ta : TE) (t : TA) : TE := fun σ H Q => ta σ H fun x H1 => ∃ a C dx fs sp, x = V.ref a ∧ H1 a = some (.ins C dx fs) ∧ R C sp ∧ fs.lookup m = none ∧ t σ H1 fun vs H2 => sp (x :: vs) H2 Q E
section
variable {X : Cx} {CX : CXT} {k : Nat} {m : Str} {R : Addr → Sp → Prop} {E : XK} {o e : Expr} {es : List Expr} {ta : TE} {t : TA} {apos pos : Pos} {pl : Sem Bool}
theorem kpe_methP (hR : Disp X CX k m R) (hr : Room k X.A) (hx : Passes CX X E) (he : PE X o ta) (ha : PA X (e :: es) t)
    (hst : starEach (e :: es) X.env = (false, eval e X.env) :: starEach es X.env := by rfl) (hpl : (backTo pos (starEach es X.env)).any (·.1) = false := by rfl)
    (ht : eval (.Call (.Attribute o m apos) (e :: es) [] pos) X.env = (do
      let ov ← eval o X.env
      standAt apos.atName
      let (f, first) ← holding [ov] (getMethod ov m pl)
      callWith pos f first (backTo pos (starEach (e :: es) X.env)) (backToKw pos (keywordEach [] X.env))) := by rfl) :
    PE X (.Call (.Attribute o m apos) (e :: es) [] pos) (tMethP R m E ta t) := by
  refine ⟨fun pins s σ H Q I h => PySem.W.methodCall_KW (pl := pl) (thn (he.run pins s σ H _ I h) fun u s1 hu => ?_) ht⟩
  obtain ⟨x, H1, I1, rx, a, C, dx, fs, sp, ex, ea, hRC, l, q⟩ := hu
  subst ex
  obtain rfl : u = Value.ref a := rx
  obtain ⟨g, fd, ps, c, hm, F, hb⟩ := hR C sp hRC
  refine getmeth_ok I1 ea c hm l (PySem.W.callWith_K (first := [.ref a]) (h₀ := X.base) I.ok.mod.kin hm.kp (thn (ha.run pos pins s1 σ H1 _ I1 q) fun us s2 hv => ?_) hst hpl)
  obtain ⟨vs, H2, I2, r, q2⟩ := hv
  exact ⟨I2.kIn, run_fn (us := .ref a :: us) (vs := .ref a :: vs) (dvs := []) (ds := []) F hr hb .nil hx I2 (.cons rfl r) (by rw [List.append_nil]; exact q2)⟩
theorem kpe_methP0 (hR : Disp X CX k m R) (hr : Room k X.A) (hx : Passes CX X E) (he : PE X o ta)
    (ht : eval (.Call (.Attribute o m apos) [] [] pos) X.env = (do
      let ov ← eval o X.env
      standAt apos.atName
      let (f, first) ← holding [ov] (getMethod ov m pl)
      callWith pos f first (backTo pos (starEach [] X.env)) (backToKw pos (keywordEach [] X.env))) := by rfl) :
    PE X (.Call (.Attribute o m apos) [] [] pos) (tMethP R m E ta tNil) := by
  refine ⟨fun pins s σ H Q I h => PySem.W.methodCall_KW (pl := pl) (thn (he.run pins s σ H _ I h) fun u s1 hu => ?_) ht⟩
  obtain ⟨x, H1, I1, rx, a, C, dx, fs, sp, ex, ea, hRC, l, q⟩ := hu
  subst ex
  obtain rfl : u = Value.ref a := rx
  obtain ⟨g, fd, ps, c, hm, F, hb⟩ := hR C sp hRC
  refine getmeth_ok I1 ea c hm l (PySem.W.callWith_K0 (first := [.ref a]) I1.kIn hm.kp ?_)
  exact run_fn (us := [.ref a]) (vs := [.ref a]) (dvs := []) (ds := []) F hr hb .nil hx I1 (.cons rfl .nil) q
/-- an instance called -/
def DispC (X : Cx) (CX : CXT) (k : Nat) (R : Addr → Sp → Prop) : Prop :=
  ∀ C sp, R C sp → ∃ g fd ps, StX.CallO X.K C g ∧ FnOk X.prog X.w X.K X.mg X.base CX k g fd ps sp ∧ Binds X.K fd ps []
def tCallP (R : Addr → Sp → Prop) (E : XK) (tf : TE) (t : TA) : TE := fun σ H Q => tf σ H fun y H1 => ∃ a C sp, y = V.ref a ∧ R C sp ∧ t σ H1 fun vs H2 => (∃ dx fs, H2 a = some (.ins C dx fs)) ∧ sp (V.ref a :: vs) H2 Q E
theorem kpe_callP {fe : Expr} {tf : TE} (hR : DispC X CX k R) (hr : Room k X.A) (hx : Passes CX X E) (hf : PE X fe tf) (ha : PA X (e :: es) t)
    (ht : eval (.Call fe (e :: es) [] pos) X.env = (do callWith pos (← eval fe X.env) [] (backTo pos (starEach (e :: es) X.env)) (backToKw pos (keywordEach [] X.env))) := by rfl)
    (he : starEach (e :: es) X.env = (false, eval e X.env) :: starEach es X.env := by rfl) (hpl : (backTo pos (starEach es X.env)).any (·.1) = false := by rfl) : PE X (.Call fe (e :: es) [] pos) (tCallP R E tf t) := by
  refine ⟨fun pins s σ H Q I h => Call_ (thn (hf.run pins s σ H _ I h) fun u s1 hu => ?_) ht⟩
  obtain ⟨y, H1, I1, ry, a, C, sp, ey, hRC, q⟩ := hu
  subst ey
  obtain rfl : u = Value.ref a := ry
  obtain ⟨g, fd, ps, c, F, hb⟩ := hR C sp hRC
  refine StX.callO_with (thn (ha.run pos pins s1 σ H1 _ I1 q) fun us s2 hv => ?_) he hpl
  obtain ⟨vs, H2, I2, r, hi, q2⟩ := hv
  obtain ⟨ox, od, J, hd⟩ := StX.insC_at I2 (.inr hi)
  refine ⟨⟨C, ox, od, J, hd⟩, ?_⟩
  have r2 : Vals (V.ref a :: vs) (Value.ref a :: us) := .cons rfl r
  have hl : (Value.ref a :: us).length = ps.length := by rw [← r2.length]; exact F.len _ _ _ _ q2
  refine wpAny_call (PySem.W.kco_code I2.kIn J hd c.at_ c.fn c.fi (codeAny_mono (F.run X.A X.stack s2 H2 ⟨Value.ref a :: us, []⟩ (Value.ref a :: us) (V.ref a :: vs) Q E hr I2.env0 ?_ r2 q2) fun res s' hq => ?_))
  · have z := hb s2 (Value.ref a :: us) I2.kIn (by rw [List.append_nil]; exact hl)
    rw [List.append_nil] at z
    exact z
  · cases res with
    | error er => exact hx pins σ H2 s2 er s' I2 hq
    | ok fl =>
      cases fl with
      | ret v => exact I2.after hq
      | next => exact False.elim hq
      | brk => exact False.elim hq
      | cont => exact False.elim hq
end

/-- what isinstance asks of an own class -/
structure ClsTy (K : PySem.W.Frag) (C : Addr) : Prop where
  cl : Cls K C
  ha : PySem.W.findIn K (.ref C) "__class__" = some (some (.builtin "object.__class__"))
  hn : PySem.W.specialIn K (.builtin "object.__class__") "__get__" = some (some (.builtin "getset_descriptor.__get__"))
  htk : PySem.W.takesIn K (.builtin "object.__class__") = some true
  hm : PySem.W.mroIn K C (.type "object") = some true
theorem ty_own {K : PySem.W.Frag} {H : Hp} {a C dx : Addr} {fs : List (Str × V)} (c : ClsTy K C) (e : H a = some (.ins C dx fs)) : TyX K H (.ref a) (.ref C) := .base (.ins e c.cl c.ha c.hn c.htk c.hm)
end Kit

namespace Kit
open PySem PySem.Spec PyProof.Rows L2
/-! ### super().__init__(..) in an own exception's __init__ -/
/-- a built-in __init__ bound to the object that is being made -/
def mwo (u a : Addr) : HO := .ext fun h => h.get? u = some (PySem.W.kxs_mw "ValueError.__init__" a)
structure SupAtE (K : PySem.W.Frag) (C D : Addr) : Prop where
  oex : OexC K C
  sub : PySem.W.mroIn K C (.ref D) = some true
  m : PySem.W.ks_superIn K C D "__init__" = some (some (.builtin "ValueError.__init__"))
  hB : PySem.W.subIn K (.ref C) (.type "ValueError") = some true
section
variable {prog : Program} {w : World} {A : Around} {E : Value → Shared → Prop} {h : Heap} {g : Array GenState} {dr : Drawn} {t : Nat} {os : OsState}
theorem call_mwE {K : PySem.W.Frag} {C a u t1 : Addr} {us : List Value} {Q : Value → Shared → Prop} (KX : K.In h) (T : OexC K C) (hu : h.get? u = some (PySem.W.kxs_mw "ValueError.__init__" a))
    (ha : h.get? a = some ({ cls := .ref C, dict := none, data := .fields #[.ref t1, .none, .none, .none, .bool false, .none] } : Obj)) (hl : us.length ≤ sizeLine)
    (hq : ∀ h' t2, (∀ b o, b ≠ a → h.get? b = some o → h'.get? b = some o) → h'.get? a = some (PySem.HandSPX.excO C t2) → Q .none ⟨h', g, dr, t, os⟩) : wpAny (model prog w) A (call (.ref u) us) Q E ⟨h, g, dr, t, os⟩ := by
  obtain ⟨nm, q, N, bs, bm, sn, sub, ab, col, dd, k0, k1, k2, k3, k5, hC, hbm⟩ := T.cls
  refine wpAny_call (codeAny_of_tree ?_)
  show wpAny (model prog w) A.in1 (callAny (.ref u) { pos := us, kw := [] }) _ _ _
  simp only [callAny]
  refine wpAny_bind (wpAny_load hu ?_)
  simp only [PySem.W.kxs_mw, show ((Value.type "method-wrapper" == Value.type "method") || (Value.type "method-wrapper" == Value.type "builtin_function_or_method") || (Value.type "method-wrapper" == Value.type "method-wrapper")) = true by decide, if_true]
  refine PySem.W.KFB.if_so (by decide) ?_
  refine wpAny_bind (PySem.W.check_bound_init F.excBase_ValueError.toExcCallFacts (KX _ _ hC) ha rfl ?_)
  refine wpAny_bind (wpAny_pure (wpAny_pure ?_))
  refine ⟨plainId_quiet F.excBase_ValueError.init.plain _, codeAny_builtin F.excBase_ValueError.initEntry ?_⟩
  wp_walk
  refine hq _ h.objs.size (fun c oc nc gc => ?_) ?_
  · rw [Heap.get?_update_other _ _ fun e => nc e.symm]; exact Heap.get?_push_of_some _ gc
  · rw [Heap.get?_update_self _ (Heap.get?_push_of_some _ ha) rfl]; rfl
end
section
variable {X : Cx} {body : List Stmt}
def tSupE (K : PySem.W.Frag) (D : Addr) (ta : TA) : TS := fun B σ H => ∃ a C, σ[0]? = some (some (V.ref a)) ∧ H a = some (exo a C none) ∧ SupAtE K C D ∧
  ∀ q, H q = none → ta σ (upd H q (mwo q a)) fun vs H1 => vs.length ≤ 1000 ∧ H1 q = some (mwo q a) ∧ H1 a = some (exo a C none) ∧ B.nx σ H1
theorem mwo_ok {P : Program} {w : World} {H : Hp} {h : Heap} {u a : Addr} (hu : h.get? u = some (PySem.W.kxs_mw "ValueError.__init__" a)) : ObjOk P w H h u (mwo u a) := ⟨hu, ⟨_, hu⟩, fun h1 h2 z k => k _ z⟩
theorem mwo_at {P : Program} {w : World} {H : Hp} {h : Heap} {u a : Addr} (hok : HOk P w H h) (e : H u = some (mwo u a)) : h.get? u = some (PySem.W.kxs_mw "ValueError.__init__" a) := by
  have z : ObjOk P w H h u (.ext fun h => h.get? u = some (PySem.W.kxs_mw "ValueError.__init__" a)) := hok u _ e
  exact z.1
theorem pst_supE {f D cc cda : Addr} {self : Str} {e : Expr} {es : List Expr} {ta : TA} {p0 p1 apos pos spos : Pos} {pl : Sem Bool}
    (S : SupDef X.prog X.K X.mg f D cc cda self) (hfu : X.env.func = some f) (hco : X.env.code = .ref cda) (hks : X.env.kindOf "super" = some .globalImplicit) (hkc : X.env.kindOf "__class__" = some .free) (hcc : X.env.cells.lookup ("__class__" : Str) = some cc)
    (hN : X.N[0]? = some self) (hv : X.env.scope.names.lookup self = some .local) (ha : PA X (e :: es) ta)
    (hs : swapsWith (.Call (.Attribute (.Call (.Name "super" p0) [] [] p1) "__init__" apos) (e :: es) [] pos) none spos.line X.env = pure false := by rfl)
    (he0 : eval (.Call (.Attribute (.Call (.Name "super" p0) [] [] p1) "__init__" apos) (e :: es) [] pos) X.env = (do
      let ov ← attributeBase (.Call (.Name "super" p0) [] [] p1) "__init__" X.env (eval (.Call (.Name "super" p0) [] [] p1) X.env)
      standAt apos.atName
      let (f, first) ← holding [ov] (getMethod ov "__init__" pl)
      callWith pos f first (backTo pos (starEach (e :: es) X.env)) []) := by rfl)
    (he : starEach (e :: es) X.env = (false, eval e X.env) :: starEach es X.env := by rfl) (hpl : (backTo pos (starEach es X.env)).any (·.1) = false := by rfl) :
    PSt X body (.Expr (.Call (.Attribute (.Call (.Name "super" p0) [] [] p1) "__init__" apos) (e :: es) [] pos) spos) (tSupE X.K D ta) := by
  refine ⟨fun pins s σ H B I h => ?_⟩
  obtain ⟨a, C, hσ, hH, SA, q⟩ := h
  obtain ⟨oc, od, fd, osl, ar, lkf, hhead, har⟩ := S.fn
  obtain ⟨ccl, cdd, vs, ccs, file, tf, lkc, hvs, hfile⟩ := S.code
  obtain ⟨cl, cld, csl, lkcell⟩ := S.cell
  obtain ⟨cdD, hD⟩ := S.cls
  have KI := I.kIn
  obtain ⟨t1, hget⟩ := exo_at I.hok hH
  have IA : PySem.W.InstAt s.heap a _ C none := ⟨hget, rfl, rfl, trivial⟩
  obtain ⟨oD, hD1, hD2⟩ : ∃ oD, s.heap.get? D = some oD ∧ oD.data = .cls cdD := by
    unfold PySem.W.clsIn at hD
    split at hD
    · rename_i c d cd' sl ho
      cases hD
      exact ⟨_, KI _ _ ho, rfl⟩
    · cases hD
  obtain ⟨m, hns, hloc⟩ := I.loc
  obtain ⟨u, ru, lk⟩ := hloc 0 self (.ref a) hN hσ (.inl hv)
  cases ru
  have hself : m self = some (.ref a) := by
    rcases lk with ⟨_, z⟩ | ⟨z, _⟩
    · exact z
    · have z' : X.env.scope.names.lookup self = some .cell ∨ X.env.scope.names.lookup self = some .free := z
      rw [hv] at z'
      rcases z' with z' | z' <;> cases z'
  refine ks_wpAt_Expr_any ?_ I.quiet hs
  refine ks_wpAt_MethodCall ?_ he0
  refine ks_wpAt_super_base (env := X.env) hks hkc (by decide) hfu (KI _ _ lkf) rfl hhead hco (KI _ _ lkc) rfl hvs hfile S.top ?_
  obtain ⟨mb, hb1, hb2⟩ := I.mod.blt
  refine PySem.W.ks_loadName_global I.ok.kind hks (Calls.loadGlobal_builtin (by rw [I.ok.glob]; exact I.mod.glob.keeps I.bk) S.sup (by rw [I.ok.blt]; exact hb1.keeps I.bk) ((hb2 "super" (by decide)).trans (show bootBuiltins "super" = some (.type "super") by decide +kernel)) ⟨rfl, ?_⟩)
  refine wpAny_loadName_free I.ok.kind hkc hcc ⟨_, KI _ _ lkcell, rfl⟩ ?_
  rw [har]
  refine wpAny_loadName_local I.ok.kind hv hns hself ?_
  refine ks_wpAny_isType_cls hD1 hD2 ⟨rfl, ?_⟩
  obtain ⟨hp, g, dr, tk, os⟩ := s
  refine ks_wpAny_call_super hD1 hD2 IA.at_ IA.cls (fun c e => ?_) (PySem.W.looks_mroIn KI SA.sub) (fun h' e k => ?_)
  · have z := IA.no
    unfold PySem.W.notCls at z
    rw [e] at z
    exact Bool.noConfusion z
  have I1 : Inv X pins σ H ⟨h', g, dr, tk, os⟩ := I.kept (t' := tk) k
  have KI1 := I1.kIn
  obtain ⟨t2, hget2⟩ := exo_at I1.hok hH
  have IB : PySem.W.InstAt h' a _ C none := ⟨hget2, rfl, rfl, trivial⟩
  have hm := SA.m
  unfold PySem.W.ks_superIn at hm
  obtain ⟨cd, hc⟩ : ∃ cd, PySem.W.clsIn X.K C = some cd := by
    cases hc : PySem.W.clsIn X.K C with
    | none => rw [hc] at hm; cases hm
    | some cd => exact ⟨cd, rfl⟩
  rw [hc] at hm
  refine PySem.W.kxs_getMethod PySem.W.kxs_ValueError e (PySem.W.looks_opaque KI1 S.st) (l₀ := cd.mro) ?_ rfl KI1 hm (IB.type.andThen (PySem.W.looks_subIn KI1 SA.hB)) (PySem.W.ks_ne KI IA hc) (by decide) ?_
  · exact fun A Q E s k q => wpAny_bind ((PySem.W.looks_clsIn KI1 hc) A _ E s k (wpAny_pure q))
  have nq : H h'.objs.size = none := I1.hok.fresh (Nat.le_refl _)
  have hq0 : (h'.push (PySem.W.kxs_mw "ValueError.__init__" a)).get? h'.objs.size = some (PySem.W.kxs_mw "ValueError.__init__" a) := Heap.get?_push_at rfl rfl
  have I2 : Inv X pins σ (upd H h'.objs.size (mwo h'.objs.size a)) ⟨h'.push (PySem.W.kxs_mw "ValueError.__init__" a), g, dr, tk + 1, os⟩ :=
    I1.laid (t' := tk + 1) (a := h'.objs.size) (o := mwo h'.objs.size a) (h' := h'.push (PySem.W.kxs_mw "ValueError.__init__" a)) (fun b o e => Heap.get?_push_of_some _ e) (Nat.le_refl _) (mwo_ok hq0)
  have hq := q h'.objs.size nq
  generalize h'.objs.size = qa at *
  rw [he]
  refine PySem.W.kxs_callWith (i := "ValueError.__init__") (x := a) (by show (false || (backTo pos (starEach es X.env)).any (·.1)) = false; rw [hpl]; rfl) ?_
  refine PySem.Calls.evalArgs_plain ?_
  have hrun := ha.run pos pins _ σ _ _ I2 hq
  rw [he] at hrun
  refine thn hrun fun us s1 ⟨ws, H1, I3, r1, hlen, hqm, hqa, hsp⟩ => ?_
  have hmo := mwo_at I3.hok hqm
  refine ⟨hmo, ?_⟩
  obtain ⟨t3, hget3⟩ := exo_at I3.hok hqa
  have hus : us.length ≤ sizeLine := by
    rw [← Paired.length r1, sizeLine_eq]
    omega
  obtain ⟨hp3, g3, dr3, tk3, os3⟩ := s1
  refine call_mwE I3.kIn SA.oex hmo hget3 hus fun h4 t4 k4 e4 => ?_
  have J := I3.write (t' := tk3) (x := a) (e := a) (o := exo a C none) (by rw [hqa]; exact True.intro) (.inl rfl) k4 ⟨_, e4⟩ (exo_ok e4)
  have eu : upd H1 a (exo a C none) = H1 := by
    funext b
    by_cases hb : b = a
    · rw [hb, upd_same, hqa]
    · rw [upd_ne hb]
  rw [eu] at J
  exact ⟨σ, H1, J, hsp⟩
end
/-! ### several except clauses, each with a name -/
abbrev endA (i : Nat) (D : Ends) : Ends := { nx := fun τ G => D.nx (τ.set i none) G, rt := D.rt, bk := fun τ G => D.bk (τ.set i none) G, ct := fun τ G => D.ct (τ.set i none) G }
abbrev ClA : Type := Value × Nat × (Addr → Value → Option Addr → TS)
def wManyA (K : PySem.W.Frag) (Wo : WX) (D : Ends) : List ClA → WX
  | [] => Wo
  | (c, i, ts) :: r => fun cls d τ G => ∃ hit, PySem.W.exmOne K cls c = some hit ∧ (hit = true → ∀ a, G a = none → ts a cls d (endA i D) (τ.set i (some (.ref a))) G) ∧ (hit = false → wManyA K Wo D r cls d τ G)
inductive HdsA (X : Cx) : List ExceptHandler → List ClA → Prop
  | nil : HdsA X [] []
  | cons {x n : Str} {c : Value} {i : Nat} {ts : Addr → Value → Option Addr → TS} {b0 : Stmt} {sts : List Stmt} {np ps : Pos} {hds : List ExceptHandler} {l : List ClA} (hi : X.N[i]? = some n) (hln : X.env.kindOf n = some .local) (hc : Names X x c)
      (hsu : ∀ (a : Addr) (oe : Obj) (cls : Value) (d : Option Addr) (pn : List (Addr × Obj)), Zc cls d oe → (∃ vs, oe.data = .fields vs) → PSs (X.suite a ((a, oe) :: pn)) (b0 :: sts) (ts a cls d)) (r : HdsA X hds l) :
      HdsA X (.ExceptHandler (some (.Name x np)) (some n) (b0 :: sts) ps :: hds) ((c, i, ts) :: l)
section
variable {X : Cx} {body : List Stmt} {h0 : ExceptHandler} {hds : List ExceptHandler} {l : List ClA} {pos : Pos} {tb : WX → TS} {Wo : WX}
theorem ps_try_manyA (est : X.stack = X.env :: X.outer) (efr : X.env.frame = some X.env.locals) (hN : X.N.Nodup) (tk : Takes X Wo)
    (hbd : ∀ (W : WX) (pn : List (Addr × Obj)) (xe : Value → Shared → Prop), Takes (X.tr pn xe) W → PassesOwn (model X.prog X.w) X.A X.env xe → PSs (X.tr pn xe) body (tb W))
    (hh : HdsA X (h0 :: hds) l) : PS X (.Try body (h0 :: hds) [] [] pos) (fun D σ H => tb (wManyA X.K Wo D l) D σ H) := by
  refine ⟨fun pins s0 σ H D I h => ?_⟩
  have okX := I.ok
  have frX : X.A.frames = some (X.env :: X.outer) := by rw [okX.frames, est]
  refine wpAny_Try_except ?_
  refine wpAny_mono ((hbd (wManyA X.K Wo D l) (X.pn ++ pins) (fun e s₁ => wpAny (model X.prog X.w) X.A (noteFrame e X.env) (fun _ s₂ => wpAny (model X.prog X.w) X.A (setFlight e none) (fun _ s₃ =>
    wpAny (model X.prog X.w) X.A (handleBy e X.env (h0 :: hds)) (SP X pins D) X.xe s₃) X.xe s₂) X.xe s₁) (fun u sE xx => ?_) PassesOwn.looking).run [] s0 σ H D (I.toTry _) h) (fun f s1 spf => ?_) (fun e s1 q => q)
  · obtain ⟨a, B, sJ, pin2, τ, G, cls, d, rfl, JT, nb, up, sky, na, os, ag, w⟩ := xx
    have J : Inv X pins τ G sJ := JT.ofTry okX
    have skyX : Sky B (X.env :: X.outer) a (Zc cls d) X.env.locals sE.heap := by rw [← est]; exact sky
    show wpAny (model X.prog X.w) X.A (noteFrame (.ref a) X.env) _ _ _
    refine Sky.land Zc.steady frX efr skyX fun h3 w3 up3 => ?_
    have J3 : Inv X pins τ G { sE with heap := h3 } := J.landed nb w3.1 (up.trans up3) os ag
    obtain ⟨o3, vs3, ge3, gz3, gd3⟩ := w3.there
    have far : ∀ {h : Heap} {o : Obj} {vs : Array Value}, h.FunFrames B (X.env :: X.outer) → h.get? a = some o → o.data = .fields vs → a ∉ frs (X.env :: X.outer) := fun {h o vs} ff e dd hm => by
      obtain ⟨_, o2, e2, hne⟩ := ff.mem hm
      rw [e] at e2; cases e2; exact hne _ dd
    have nfX := far w3.2.2.1 ge3 gd3
    have nLX : a ≠ X.env.locals := fun z => nfX (List.mem_filterMap.mpr ⟨X.env, List.mem_cons_self, by rw [efr, z]⟩)
    have nFX : a ∉ X.fs := fun hm => by
      obtain ⟨e, hem, q⟩ := List.mem_filterMap.mp hm
      exact nfX (List.mem_filterMap.mpr ⟨e, List.mem_cons_of_mem _ hem, q⟩)
    have S3 := J3.suite ge3 gd3 na nLX nFX
    have go : ∀ {hs : List ExceptHandler} {cl : List ClA}, HdsA X hs cl → wManyA X.K Wo D cl cls d τ G → wpAny (model X.prog X.w) X.A (handleBy (.ref a) X.env hs) (SP X pins D) X.xe { sE with heap := h3 } := by
      intro hs cl hk
      induction hk with
      | nil =>
        intro w
        refine wpAny_handleBy_nil ?_
        obtain ⟨k1, k2, k3, oe, vs, TT, oT, tsT, heT, hzT, hdT, h1T, hrT⟩ := id w3
        unfold PySem.passOn
        refine wpAny_bind (wpAny_field heT hdT h1T ?_)
        rw [if_neg (show ¬ ((Value.ref TT == Value.none) = true) from by simp)]
        have thrown : wpAny (model X.prog X.w) X.A (setFlight (.ref a) X.env.frame) (fun _ s4 => wpAny (model X.prog X.w) X.A (throw (.ref a) : Sem Flow) (SP X pins D) X.xe s4) X.xe { sE with heap := h3 } := by
          rw [efr]
          refine HandSPX.setFlight_upZ w3 fun h4 hh4 up4 => wpAny_throw (tk _ _ ?_)
          exact ⟨a, B, sJ, pins, τ, G, cls, d, rfl, J, nb, (up.trans up3).trans up4, .inr (.inr (by rw [est]; exact hh4)), na, os, ag, w⟩
        first | exact wpAny_bind (wpAny_pure (wpAny_bind thrown)) | exact wpAny_bind thrown
      | @cons x n c i ts b0 sts np ps hds2 l2 hi hln hc hsu r ih =>
        intro w
        obtain ⟨hit, hb1, hyes, hno⟩ := w
        refine wpAny_handleBy_cons (codeAny_handlers_test ?_) (by intro q; cases q)
        have LT : PySem.W.Looks (model X.prog X.w) h3 (typeOf (.ref a)) cls := fun A Q E s k q => wpAny_typeOf_ref (k _ _ ge3) (by rw [gz3.1]; exact q)
        have LM := PySem.W.exm_one (M := model X.prog X.w) (J3.kIn) LT hb1
        have tst : ∀ {Q : Value → Shared → Prop} {E : Value → Shared → Prop}, Q c { sE with heap := h3 } → wpAny (model X.prog X.w) (X.A.mark (some (.ref a))) (eval (.Name x np) X.env) Q E { sE with heap := h3 } := fun {Q E} q => by
          obtain ⟨hg, hdbg, hm | ⟨hm, hv, hnn⟩⟩ := hc
          · exact ld_glob (X := X.suite a ((a, o3) :: (X.pn ++ pins))) S3 hg hm q hdbg
          · exact ld_blt (X := X.suite a ((a, o3) :: (X.pn ++ pins))) S3 hg hm hv q hnn hdbg
        refine tst (LM.here ?_)
        cases hit with
        | false =>
          show wpAny (model X.prog X.w) X.A (handleBy (.ref a) X.env hds2) _ _ _
          exact ih (hno rfl)
        | true =>
          refine codeAny_handlers_suite_as ?_
          refine HandSPX.lands_againZ w3 fun h4 w4 up4 => ?_
          have J4 : Inv X pins τ G { sE with heap := h4 } := J.landed nb w4.1 ((up.trans up3).trans up4) os ag
          obtain ⟨o4, vs4, ge4, gz4, gd4⟩ := w4.there
          have S4 := J4.suite ge4 gd4 na nLX nFX
          refine store_ok (X := X.suite a ((a, o4) :: (X.pn ++ pins))) (v := .ref a) S4 hN hi (.inl hln) rfl (fun s5 S5 => ?_) (.inr hln)
          refine wpAny_mono ((hsu a o4 cls d (X.pn ++ pins) gz4 ⟨_, gd4⟩).run [] s5 _ G _ S5 (hyes rfl a na)) (fun f s6 sp6 => ?_) (fun _ _ z => False.elim z)
          have fin : ∀ {σ6 : L2.St} {H6 : Hp} {Q : Shared → Prop}, Inv (X.suite a ((a, o4) :: (X.pn ++ pins))) [] σ6 H6 s6 → (∀ s7, Inv X pins (σ6.set i none) H6 s7 → Q s7) →
              wpAny (model X.prog X.w) X.A (do bindName X.env n .none; unbindBehindTheSuite X.env n ps) (fun _ s7 => Q s7) X.xe s6 := fun {σ6 H6 Q} S6 hq => gone_ok (S6.unsuite okX) hN hi hln hq
          cases f with
          | ret u =>
            obtain ⟨v6, σ6, H6, S6, r6, q6⟩ := sp6
            exact fin S6 fun s7 J7 => ⟨_, _, _, J7, r6, q6⟩
          | next => obtain ⟨σ6, H6, S6, q6⟩ := sp6; exact fin S6 fun s7 J7 => ⟨_, _, J7, q6⟩
          | brk => obtain ⟨σ6, H6, S6, q6⟩ := sp6; exact fin S6 fun s7 J7 => ⟨_, _, J7, q6⟩
          | cont => obtain ⟨σ6, H6, S6, q6⟩ := sp6; exact fin S6 fun s7 J7 => ⟨_, _, J7, q6⟩
    exact go hh w
  · cases f with
    | ret u =>
      obtain ⟨v, τ, G, JT, r, q⟩ := spf
      exact ⟨v, τ, G, JT.ofTry okX, r, q⟩
    | next => obtain ⟨τ, G, JT, q⟩ := spf; exact wpAny_execs_nil ⟨τ, G, JT.ofTry okX, q⟩
    | brk => obtain ⟨τ, G, JT, q⟩ := spf; exact ⟨τ, G, JT.ofTry okX, q⟩
    | cont => obtain ⟨τ, G, JT, q⟩ := spf; exact ⟨τ, G, JT.ofTry okX, q⟩
end
/-! ### keywords alone; wishes at the caller's slots -/
section
variable {X : Cx} {CX : CXT} {k : Nat} {f : Addr} {fd : FuncData} {ps ks : List Str} {sp : Sp} {E : L2.St → XK} {x : Str} {p pos : Pos} {kws : List Keyword} {tk : TA}
def tCallKS (sp : Sp) (gV : List V → List V → List V) (E : L2.St → XK) (tk : TA) : TE := fun σ H Q => tk σ H fun zs H2 => sp (gV [] zs) H2 Q (E σ)
theorem pe_callKS {g : List Value → List Value → List Value} {gV : List V → List V → List V} (Fn : FnOk X.prog X.w X.K X.mg X.base CX k f fd ps sp) (hr : Room k X.A) (hg : Gl X x) (hm : X.mg x = some (.ref f)) (hk : PySem.W.keepIn X.K (.ref f) = true) (hb : KBinds X.K fd ps ks g gV) (hx : ∀ σ, PassesAt CX X σ (E σ))
    (hkw : PK X kws tk) (hall : (backToKw pos (keywordEach kws X.env)).all (·.1.isSome) = true := by rfl) (hks : (backToKw pos (keywordEach kws X.env)).filterMap (·.1) = ks := by rfl) (hdb : (x == ("__debug__" : Str)) = false := by decide)
    (hpl : ((backTo pos (starEach [] X.env)).any (·.1) || (backToKw pos (keywordEach kws X.env)).any (·.1.isNone)) = false := by rfl) : PE X (.Call (.Name x p) [] kws pos) (tCallKS sp gV E tk) := by
  refine ⟨fun pins s σ H Q I h => ?_⟩
  refine wpAny_Call_Name_kw (ld_glob I hg hm ?_ hdb)
  refine PySem.W.callWith_KW0 (h₀ := X.base) I.ok.mod.kin hk hall ?_ hpl
  refine thn (hkw.run pos pins s σ H _ I h) fun ws s2 ⟨zs, H2, I2, rz, q2⟩ => ⟨I2.kIn, ?_⟩
  rw [hks]
  have r2 := hb.rel (vs := []) (us := []) .nil rz
  have hl : (g [] ws).length = ps.length := by rw [← r2.length]; exact Fn.len _ _ _ _ q2
  refine wpAny_call (codeAny_mono (Fn.run X.A X.stack s2 H2 ⟨[], ks.zip ws⟩ (g [] ws) (gV [] zs) Q (E σ) hr I2.env0 (hb.to s2 [] ws I2.kIn hl) r2 q2) fun r s' q3 => ?_)
  cases r with
  | ok fl => cases fl with
    | ret u => exact I2.after q3
    | next => exact False.elim q3
    | brk => exact False.elim q3
    | cont => exact False.elim q3
  | error e => exact hx σ pins H2 s2 e s' I2 q3
theorem pass0At {X : Cx} {E : L2.St → XK} : ∀ σ, PassesAt CX0 X σ (E σ) := fun _ _ _ _ _ _ _ h => h.elim
theorem k_callKS {gV : List V → List V → List V} {σ : L2.St} {H : Hp} {Q : VK} (h : tk σ H fun zs H2 => sp (gV [] zs) H2 Q (E σ)) : tCallKS sp gV E tk σ H Q := h
end
theorem exm_selfE {K : PySem.W.Frag} {S D : Addr} {hit : Bool} (h1 : PySem.W.subIn K (.ref D) (.type "BaseException") = some true) (h2 : PySem.W.isClsIn K D = true) (h3 : PySem.W.typeIn K (.ref D) = some (.type "type")) (h4 : PySem.W.subIn K (.ref S) (.ref D) = some hit) : PySem.W.exmOne K (.ref S) (.ref D) = some hit := by
  have a1 : (PySem.W.subIn K (.ref D) (.type "BaseException") == some true) = true := by rw [h1] <;> rfl
  have a2 : ((PySem.W.clsIn K D).isSome && PySem.W.typeIn K (.ref D) == some (.type "type")) = true := by
    have b2 : (PySem.W.clsIn K D).isSome = true := h2
    rw [b2, h3] <;> rfl
  show (if (PySem.W.subIn K (.ref D) (.type "BaseException") == some true) = true then (if ((PySem.W.clsIn K D).isSome && PySem.W.typeIn K (.ref D) == some (.type "type")) = true then PySem.W.subIn K (.ref S) (.ref D) else none) else none) = some hit
  rw [if_pos a1, if_pos a2]
  exact h4
/-! ### readings -/
section
variable {σ : L2.St} {H : Hp} {D : Ends} {K : PySem.W.Frag}
theorem k_supE {D0 a C : Addr} {ta : TA} {B : Ends} (h0 : σ[0]? = some (some (V.ref a))) (h1 : H a = some (exo a C none)) (h2 : SupAtE K C D0) (k : ∀ q, H q = none → ta σ (upd H q (mwo q a)) fun vs H1 => vs.length ≤ 1000 ∧ H1 q = some (mwo q a) ∧ H1 a = some (exo a C none) ∧ B.nx σ H1) : tSupE K D0 ta B σ H := ⟨a, C, h0, h1, h2, k⟩
theorem k_ost {f : Str} {to te : TE} (h : te σ H fun y H1 => to σ H1 fun x H2 => ∃ a C : Addr, x = .ref a ∧ OexC K C ∧ PySem.W.findIn K (.ref C) f = some none ∧
  ((H2 a = some (exo a C none) ∧ ∀ dx, H2 dx = none → dx ≠ a → D.nx σ (upd (upd H2 dx (exd dx [(f, y)])) a (exo a C (some dx)))) ∨
    ∃ (dx : Addr) (fs : List (Str × V)), H2 a = some (exo a C (some dx)) ∧ H2 dx = some (exd dx fs) ∧ fs.length ≤ 900 ∧ D.nx σ (upd H2 dx (exd dx ((f, y) :: fs))))) : tOst K f to te D σ H := h
theorem k_callS {sp : Sp} {E : L2.St → XK} {t : TA} {Q : VK} (h : t σ H fun vs H1 => sp vs H1 Q (E σ)) : tCallS sp E t σ H Q := h
end
end Kit

namespace Law
open PySem PySem.Spec PyProof.Rows L2 Kit
local macro_rules | `(tactic| walk_at "kb") => `(tactic| first | exact kb_int_int | exact kb_int_bool | exact kb_int_str | exact kb_int_list | exact kb_int_tuple | exact kb_int_dict | exact kb_bool_int | exact kb_bool_bool | exact kb_bool_str | exact kb_bool_list | exact kb_bool_tuple | exact kb_bool_dict | exact kb_str_int | exact kb_str_bool | exact kb_str_str | exact kb_str_list | exact kb_str_tuple | exact kb_str_dict | exact kb_NoneType_int | exact kb_NoneType_bool | exact kb_NoneType_str | exact kb_NoneType_list | exact kb_NoneType_tuple | exact kb_NoneType_dict | exact kb_list_int | exact kb_list_bool | exact kb_list_str | exact kb_list_list | exact kb_list_tuple | exact kb_list_dict | exact kb_tuple_int | exact kb_tuple_bool | exact kb_tuple_str | exact kb_tuple_list | exact kb_tuple_tuple | exact kb_tuple_dict | exact kb_dict_int | exact kb_dict_bool | exact kb_dict_str | exact kb_dict_list | exact kb_dict_tuple | exact kb_dict_dict)
local macro_rules | `(tactic| walk_at "size") => `(tactic| first | assumption | (show (_ : Nat) ≤ sizeLine; exact small_size (by first | decide | omega | (simp; omega))) | (show (_ : Nat) < sizeLine; exact small_lt (by first | decide | omega | (simp; omega))))
local macro_rules | `(tactic| walk_at "here") => `(tactic| first | assumption | exact upd_same | (refine up_get (by assumption) ?_; walk_at "here") | (refine Eq.trans (upd_ne (by assumption)) ?_; walk_at "here"))
local macro_rules | `(tactic| walk_at "same") => `(tactic| first | assumption | exact Same.refl _ | exact same_new (by assumption) | (refine Same.trans ?_ (same_new (by assumption)); walk_at "same") | (refine Same.trans ?_ (by assumption); walk_at "same"))
local macro_rules | `(tactic| walk_at "none") => `(tactic| first | assumption | (refine Eq.trans (upd_ne ?_) ?_ <;> first | assumption | walk_at "none"))
local macro_rules | `(tactic| walk_at "ty") => `(tactic| first | exact TyX.base (.int _) | exact TyX.base (.str _) | exact TyX.base .non | exact TyX.base (.bl _) | exact TyX.base (.tup (by walk_at "here")) | exact TyX.base (.lst (by walk_at "here")) | exact TyX.base (.dK (by walk_at "here")))
local macro_rules | `(tactic| walk_at "s") => `(tactic| first
  | (with_reducible refine k_seq ?_) | (with_reducible refine k_op ?_)
  | ((with_reducible show tVar _ _ _ _); refine k_var rfl ?_)
  | (with_reducible refine k_c ?_) | (with_reducible refine k_cons ?_) | (with_reducible refine k_nil ?_)
  | (with_reducible refine k_asg ?_) | (with_reducible refine k_gName ?_) | (with_reducible refine k_drop ?_) | (with_reducible refine k_ret ?_)
  | (with_reducible refine k_ifS ?_) | (with_reducible refine k_test ?_) | (with_reducible refine k_bl ?_) | (with_reducible refine k_CB ?_) | (with_reducible refine k_call ?_)
  | (with_reducible refine k_addI ?_) | (with_reducible refine k_I0 ?_) | (with_reducible refine k_eqI ?_) | (with_reducible refine k_neI ?_)
  | ((with_reducible show rI _ _ _ _ _ _); (refine k_I ?c ?_; (case c => first | decide | omega | (show (0 : Int) < _ ∧ _; omega) | (show (0 : Int) ≤ _ ∧ _; omega) | (show (_ ∧ _) ∨ _; omega) | assumption)))
  | (with_reducible refine k_U ?_) | (with_reducible refine k_int1 ?_) | (with_reducible refine k_max2 ?_) | (with_reducible refine k_min2 ?_)
  | (with_reducible refine k_t ?_) | (with_reducible refine k_t' ?_) | (with_reducible refine k_f' ?_) | (with_reducible refine k_o1 ?_) | (with_reducible refine k_o2 ?_) | (with_reducible refine k_o3 ?_) | (with_reducible refine k_o4 ?_) | (with_reducible refine k_o5 ?_) | (with_reducible refine k_o6 ?_) | (with_reducible refine k_chain ?_) | (with_reducible refine k_f ?_)
  | (with_reducible refine k_and ?_) | (with_reducible refine k_or ?_) | (with_reducible refine k_not ?_) | (with_reducible refine k_if ?_) | (with_reducible refine k_B ?_)
  | (with_reducible refine k_andV ?_) | (with_reducible refine k_orV ?_) | (with_reducible refine k_notV ?_) | (with_reducible refine k_un ?_)
  | (with_reducible refine k_gSub ?_) | (with_reducible refine k_par ?_) | (with_reducible refine k_pair ?_) | (with_reducible refine k_sl ?_) | (with_reducible refine k_noPart ?_) | (with_reducible refine k_part ?_) | (with_reducible refine k_int ?_)
  | (with_reducible refine k_fld ?_) | (with_reducible refine k_putF ?_) | ((with_reducible show (_ ≤ sizeLine) ∧ _); refine k_disp (Nat.le_of_ble_eq_true rfl) ?_) | (with_reducible refine k_jsCons ?_) | (with_reducible refine k_jsNil ?_) | (with_reducible refine k_fmt ?_) | (with_reducible refine k_gCons ?_) | (with_reducible refine k_gNil ?_) | (with_reducible refine k_iEnum ?_) | (with_reducible refine k_joinC ?_) | ((with_reducible show gTup _ _ _ (V.ref _) _ _ _); refine' k_gTup (SqT.of ?h) ?hl ?_; (case h => walk_at "here"); (case hl => rfl)) | (with_reducible refine k_for ?_) | (with_reducible refine k_iList ?_) | (with_reducible refine k_iTup ?_) | (with_reducible refine k_rng1 ?_) | (with_reducible refine k_rng2 ?_) | (with_reducible refine k_lc ?_) | (with_reducible refine k_yes ?_) | (with_reducible refine k_next ?_) | (with_reducible refine k_break ?_) | (with_reducible refine k_cont ?_) | (with_reducible refine k_retN ?_)
  | ((with_reducible show tTup _ _ _ _); refine k_tup ?_) | ((with_reducible show tLst _ _ _ _); refine k_lst ?_)
  | ((with_reducible show rLenU _ [V.ref _] _ _); (first | (refine' k_lenL (SqL.of ?h) ?_; (case h => walk_at "here")) | (refine' k_lenL ?h ?_; (case h => assumption)) | (refine' k_lenT (SqT.of ?h) ?_; (case h => walk_at "here"))))
  | ((with_reducible show rIsi _ [_, V.ty _] _ _); (refine' k_isi ?t ?h ?_; (case t => walk_at "ty"); (case h => walk_at "kb")))
  | ((with_reducible show rIsiT _ [_, V.ref _] _ _); (refine' k_isiT ?p ?t ?h1 ?h2 ?_; (case p => walk_at "here"); (case t => walk_at "ty"); (case h1 => walk_at "kb"); (case h2 => walk_at "kb")))
  | ((with_reducible show rIx _ (V.ref _) (V.int _) _ _); (first | (refine' k_ixL (SqL.of ?h) ?a ?_; (case h => walk_at "here"); (case a => first | rfl | assumption)) | (refine' k_ixT (SqT.of ?h) ?a ?_; (case h => walk_at "here"); (case a => first | rfl | assumption))))
  | ((with_reducible show rSetL (V.ref _) (V.int _) _ (upd _ _ (HO.lst _)) _); (refine' k_setLu ?e ?ey ?_; (case e => rfl); (case ey => rfl)))
  | ((with_reducible show rSetL (V.ref _) (V.int _) _ _ _); (refine' k_setL ?h ?e ?_; (case h => walk_at "here"); (case e => first | rfl | assumption))))
local macro_rules | `(tactic| walk_at "ss") => `(tactic| (repeat walk_at "s"))
/-! ### a lambda handed to a def that calls it within a try, wishes at the slots of that call -/
section
open LamX
variable {X : Cx} {σ : L2.St} {H : Hp} {s : Shared} {pins : List (Addr × Obj)}
theorem pe_actA {Wc : CXT} {Ec : XK} {Nc : List Str} {qc : Str} {sc : Scope} {gc lf lc : Addr} {cdc pmv ctx : Value} {prm : Arguments} {bod : Expr} {lsc : Scope} {lev j : Nat} {nm : Str} {pns : List (Addr × Obj)} {xw : Value → Shared → Prop} {W : WX} {tb : XK → TE} {r1 r2 : Pos}
    (J : Inv X pins σ H s) (LS : LamS X.env.scope lsc) (atf : s.heap.get? lf = some (PySem.W.kla_obj "<lambda>" (X.env.qual ++ "<lambda>") prm bod lsc (cloFrom X.env.cells lsc.names []) pmv lc ctx)) (nof : H lf = none) (frf : lf ∉ frs X.stack)
    (bnd : bindArgs (PySem.W.kla_fn "<lambda>" (X.env.qual ++ "<lambda>") prm bod lsc (cloFrom X.env.cells lsc.names []) pmv (.ref lc) ctx) ⟨[], []⟩ = pure [])
    (tk : Takes ((cxOf Wc X.prog X.w X.K X.mg X.base Nc qc sc gc cdc X.A X.stack s H Ec).tr pns xw) W) (rm : Room (lev + 1) (X.A.deeper (envOfC qc sc s.heap.objs.size gc cdc)))
    (bok : ∀ (A : Around) (outer : List Env) (s' : Shared) (H' : Hp) (E : XK), Room lev (A.deeper (lamEnv X lsc s'.heap.objs.size lf lc)) → PE (lamCx X A outer s' H' E lsc lf lc) bod (tb E))
    (hN : Nc[j]? = some nm) (vis : Vis sc nm) (nd1 : (nm == ("__debug__" : Str)) = false := by decide) (nd2 : (nm == ("__classdict__" : Str)) = false := by decide) :
    PE ((cxOf Wc X.prog X.w X.K X.mg X.base Nc qc sc gc cdc X.A X.stack s H Ec).tr pns xw) (.Call (.Name nm r1) [] [] r2)
      (fun τ G Qz => τ[j]? = some (some (.ref lf)) ∧ G lc = some (CodeO lc (X.env.qual ++ "<lambda>")) ∧ tb (WE W τ) σ G Qz) := by
  refine ⟨fun pz z τ G Qz Iz hz => ?_⟩
  obtain ⟨hsl, hco, hrd⟩ := hz
  have hname := (pe_var (pos := r1) (i := j) hN vis nd1 nd2).run pz z τ G (fun v G1 => v = .ref lf ∧ G1 = G) Iz ⟨.ref lf, hsl, rfl, rfl⟩
  refine wpAny_Call_Name_kw (thn hname fun uv z1 ⟨v, G1, I1, rl, ev, eG⟩ => ?_)
  subst ev
  rw [eG] at I1
  obtain rfl : uv = Value.ref lf := rl
  have old : z1.heap.get? lf = some (PySem.W.kla_obj "<lambda>" (X.env.qual ++ "<lambda>") prm bod lsc (cloFrom X.env.cells lsc.names []) pmv lc ctx) := by
    refine I1.base.keep lf _ atf nof frf ?_
    intro zz
    exact nomatch (show lf ∈ ([] : List Addr) from zz)
  refine PySem.W.callWith_F0 ⟨_, _, _, _, old⟩ ?_
  have un : Un (frs X.stack) [] H G s.heap z1.heap := I1.base
  obtain ⟨⟨oc, fs, tkn, hoc, hdc, hvc⟩, _⟩ := I1.hok lc _ hco
  have go : codeAny (model X.prog X.w) (X.A.deeper (envOfC qc sc s.heap.objs.size gc cdc)) (.call (.ref lf) ⟨[], []⟩) (CR (L2.CX X.prog X.w) (envOfC qc sc s.heap.objs.size gc cdc :: X.stack) X.prog X.w G z1 Qz (WE W τ)) z1 := by
    refine PySem.W.kla_callFunE rm.depth old rfl LS.co LS.gen rfl ⟨lc, oc, fs, tkn, rfl, hoc, hdc, hvc⟩ ?_
    rw [bnd]
    refine wpAny_pure (wpAny_newFunctionEnv (fun y hy => (LS.own y hy).2) (fun y hy => absurd hy (by simp)) (fun h2 ns2 sb2 => ⟨I1.nolimit.fresh _ sb2, ?_⟩) LS.kind)
    show codeAny _ _ (.expr bod (lamEnv X lsc z1.heap.objs.size lf lc)) _ _
    have kept : ∀ b o, z1.heap.get? b = some o → h2.get? b = some o := by
      intro b o e
      exact sb2.extBut b o (Nat.ne_of_lt (Heap.lt_size e)) (Heap.get?_push_of_some _ e)
    have I2 : Inv (lamCx X (X.A.deeper (envOfC qc sc s.heap.objs.size gc cdc)) (envOfC qc sc s.heap.objs.size gc cdc :: X.stack) z1 G (WE W τ) lsc lf lc) [] σ G { z1 with heap := h2, toks := z1.toks + ([] : List (Str × Value)).length } :=
      lam_start2 J LS I1.env0 rm.hd un ns2 kept
    refine PySem.W.kla_codeExpr (wpAny_mono ((bok _ _ z1 G (WE W τ) (rm.deeper _)).run [] _ _ G Qz I2 hrd) (fun v s' hq => ?_) fun e s' hq => hq)
    obtain ⟨w2, G2, I3, rv, q⟩ := hq
    exact ⟨w2, G2, I3.os, I3.bare, I3.base, I3.hok, rv, q⟩
  refine wpAny_call (codeAny_mono go fun res s' hq => ?_)
  cases res with
  | error er => exact passAt tk τ pz G z1 er s' I1 hq
  | ok fl =>
    cases fl with
    | ret u => exact I1.after hq
    | next => exact False.elim hq
    | brk => exact False.elim hq
    | cont => exact False.elim hq
/-- what the def at g makes of the reading of the lambda that it is handed -/
def GivesA (X : Cx) (Nc : List Str) (x : Str) (sc : Scope) (g : Addr) (cdg : Value) (bg : List Stmt) (a q : Str) (TT : (XK → Hp → VK → Prop) → Hp → VK → Prop) : Prop :=
  ∀ (lf lc : Addr) (s : Shared) (H : Hp) (Q : VK) (tl : XK → Hp → VK → Prop),
    (∀ (W : WX) (pn : List (Addr × Obj)) (xe : Value → Shared → Prop) (r1 r2 : Pos), Takes ((cxOf CX0 X.prog X.w X.K X.mg X.base Nc x sc g cdg X.A X.stack s H E0).tr pn xe) W →
      PE ((cxOf CX0 X.prog X.w X.K X.mg X.base Nc x sc g cdg X.A X.stack s H E0).tr pn xe) (.Call (.Name a r1) [] [] r2) (fun τ G Qz => τ[0]? = some (some (.ref lf)) ∧ G lc = some (CodeO lc q) ∧ tl (WE W τ) G Qz)) →
    H lc = some (CodeO lc q) → TT tl H Q →
    ∃ t, PSs (cxOf CX0 X.prog X.w X.K X.mg X.base Nc x sc g cdg X.A X.stack s H E0).nox bg t ∧ t { nx := fun _ H' => Q .non H', rt := Q } (L2.start Nc [.ref lf]) H
/-- x(lambda: e) -/
theorem pe_lamA {T : List (Addr × Str)} {TT : (XK → Hp → VK → Prop) → Hp → VK → Prop} {x a : Str} {g c P : Addr} {k : Nat} {pg : Arguments} {bg : List Stmt} {sc : Scope} {dV kV doc pm cdv ct oc : Value} {an od : Option Addr} {osl : Array (Option Value)} {Nc : List Str}
    {prm : Arguments} {bod : Expr} {lsc : Scope} {t : XK → TE} {p lpos pos : Pos} (hg : Gl X x) (hm : X.mg x = some (.ref g)) (hk : PySem.W.keepIn X.K (.ref g) = true)
    (lk : X.K.lookup g = some ⟨oc, od, .func (PySem.W.fnOf x x pg bg sc dV kV doc pm an cdv ct), osl⟩) (hcg : PySem.W.codeIn X.K cdv x = true) (hb : L2.Binds X.K (PySem.W.fnOf x x pg bg sc dV kV doc pm an cdv ct) [a] []) (Sg : FnScope Nc [a] sc) (hNg : Nc[0]? = some a) (vis : Vis sc a)
    (hG : GivesA X Nc x sc g cdv bg a (X.env.qual ++ "<lambda>") TT) (TB : TabB X.base X.mg c P) (hcode : X.env.code = .ref c) (hmT : (P, X.env.qual ++ "<lambda>") ∈ T) (hu : ∀ p ∈ T, p.1 = P → p.2 = X.env.qual ++ "<lambda>") (hr : Room (k + 2) X.A) (LS : LamS X.env.scope lsc)
    (hbody : ∀ (A : Around) (outer : List Env) (s : Shared) (H : Hp) (E : XK) (lf lc : Addr), Room k (A.deeper (lamEnv X lsc s.heap.objs.size lf lc)) → PE (lamCx X A outer s H E lsc lf lc) bod (t E))
    (hdef : defaultsOf prm X.env = ([], []) := by rfl) (hbind : ∀ (q : Str) (cl : List (Str × Addr)) (pm cv ctv : Value), bindArgs (PySem.W.kla_fn "<lambda>" q prm bod lsc cl pm cv ctv) ⟨[], []⟩ = pure [] := by intros; rfl)
    (hdb : (x == ("__debug__" : Str)) = false := by decide) (nd1 : (a == ("__debug__" : Str)) = false := by decide) (nd2 : (a == ("__classdict__" : Str)) = false := by decide) :
    PE X (.Call (.Name x p) [.Lambda prm bod lsc lpos] [] pos) (tLam T TT t) := by
  refine ⟨fun pins s σ H Q I hh => ?_⟩
  obtain ⟨hT, hh⟩ := hh
  refine wpAny_Call_Name_kw (ld_glob I hg hm ?_ hdb)
  refine PySem.W.callWith_K (h₀ := X.base) I.ok.mod.kin hk ?_ (by rfl) (by rfl)
  show wpAny _ _ (spliced ((false, eval (.Lambda prm bod lsc lpos) X.env) :: backTo pos (starEach [] X.env))) _ _ s
  refine Calls.spliced_cons (lam_make2 I TB hcode hmT hu hT hdef (LS.has I.ok) fun lf lc pm2 ctv H1 s2 I1 eN T1 atf nof frf hco => ?_)
  refine Calls.spliced_nil ⟨I1.kIn, ?_⟩
  have go : codeAny (model X.prog X.w) X.A (.call (.ref g) ⟨[.ref lf], []⟩) (CR CX0 X.stack X.prog X.w H1 s2 Q E0) s2 := by
    refine run_ofS (N := Nc) (ps := [a]) (us := [.ref lf]) (vs := [.ref lf]) lk hcg Sg hr I1.env0 (hb s2 [.ref lf] I1.kIn rfl) (.cons rfl .nil) rfl fun hr2 => ?_
    obtain ⟨tt, ht, hq⟩ := hG lf lc s2 H1 Q (fun E G Qz => t E σ G Qz) (fun W pn xe r1 r2 tk => pe_actA (j := 0) I1 LS atf nof frf (hbind _ _ _ _ _) tk hr2 (fun A outer s3 H3 E hr3 => hbody A outer s3 H3 E lf lc hr3) hNg vis nd1 nd2) hco (hh H1 eN T1)
    exact ⟨tt, ht.nox, hq⟩
  refine wpAny_call (codeAny_mono go fun res s3 hq => ?_)
  cases res with
  | error er => exact False.elim (show False from hq)
  | ok fl =>
    cases fl with
    | ret u => exact I1.after hq
    | next => exact False.elim hq
    | brk => exact False.elim hq
    | cont => exact False.elim hq
/-- nothing is let out: the callee's own wish is empty -/
theorem passE {X : Cx} {P : Program} {w : World} : Passes (L2.CX P w) X E0 := fun _ _ _ _ _ _ _ h => by
  obtain ⟨_, _, _, _, _, _, _, _, _, _, _, _, z⟩ := h
  exact z.elim
theorem passEAt {X : Cx} {P : Program} {w : World} : ∀ σ : L2.St, PassesAt (L2.CX P w) X σ E0 := fun _ _ _ _ _ _ _ h => by
  obtain ⟨_, _, _, _, _, _, _, _, _, _, _, _, z⟩ := h
  exact z.elim
/-- a def whose code object is told (it makes a lambda) -/
structure FunL (K : PySem.W.Frag) (x qual : Str) (st : Stmt) (f : Addr) (fd : FuncData) (cda : Addr) : Prop where
  ex : ∃ (oc : Value) (od : Option Addr) (kV doc pm : Value) (an : Option Addr) (ct : Value) (osl : Array (Option Value)),
    fd = PySem.W.fnOf x qual (defArgs st) (defBody st) (defScope st) .none kV doc pm an (.ref cda) ct ∧ K.lookup f = some ⟨oc, od, .func fd, osl⟩ ∧ PySem.W.codeIn K (.ref cda) qual = true
  kp : PySem.W.keepIn K (.ref f) = true
theorem funL_mk {K : PySem.W.Frag} {x qual : Str} {st : Stmt} {f cda : Addr} {oc : Value} {od an : Option Addr} {osl : Array (Option Value)} {kV doc pm ct : Value} (l : K.lookup f = some ⟨oc, od, .func (PySem.W.fnOf x qual (defArgs st) (defBody st) (defScope st) .none kV doc pm an (.ref cda) ct), osl⟩)
    (c : PySem.W.codeIn K (.ref cda) qual = true) (k : PySem.W.keepIn K (.ref f) = true) : FunL K x qual st f (PySem.W.fnOf x qual (defArgs st) (defBody st) (defScope st) .none kV doc pm an (.ref cda) ct) cda := ⟨⟨oc, od, kV, doc, pm, an, ct, osl, rfl, l, c⟩, k⟩
theorem FunL.fn {K : PySem.W.Frag} {x qual : Str} {st : Stmt} {f cda : Addr} {fd : FuncData} (F : FunL K x qual st f fd cda) : Fun K x qual st f fd := by
  obtain ⟨⟨oc, od, kV, doc, pm, an, ct, osl, e, lk, hcd⟩, kp⟩ := F
  exact ⟨⟨oc, od, kV, doc, pm, an, .ref cda, ct, osl, e, lk, hcd⟩, kp⟩
theorem FunL.ok {P : Program} {w : World} {K : PySem.W.Frag} {mg : Str → Option Value} {base : Heap} {x qual : Str} {st : Stmt} {f cda : Addr} {fd : FuncData} {N ps : List Str} {k : Nat} {sp : Sp} (F : FunL K x qual st f fd cda) (S : FnScope N ps (defScope st)) (len : ∀ vs H Q E, sp vs H Q E → vs.length = ps.length)
    (hbody : ∀ (A : Around) (outer : List Env) (s : Shared) (H : Hp) (vs : List V) (Q : VK) (E : XK), Room k (A.deeper (envOfC qual (defScope st) s.heap.objs.size f (.ref cda))) → sp vs H Q E →
      ∃ t, PSs (cxOf CX0 P w K mg base N qual (defScope st) f (.ref cda) A outer s H E).nox (defBody st) t ∧ t { nx := fun _ H' => Q .non H', rt := Q } (L2.start N vs) H) : FnOk P w K mg base CX0 (k + 1) f fd ps sp := by
  obtain ⟨oc, od, kV, doc, pm, an, ct, osl, rfl, lk, hcd⟩ := F.ex
  refine fn_of lk hcd S len fun A outer s H vs Q E hr hsp => ?_
  obtain ⟨t, hh, q⟩ := hbody A outer s H vs Q E hr hsp
  exact ⟨t, hh.nox, q⟩
/-- the reading of x(lambda: e) -/
theorem k_lam {T : List (Addr × Str)} {TT : (XK → Hp → VK → Prop) → Hp → VK → Prop} {t : XK → TE} {σ : L2.St} {H : Hp} {Q : VK} (h0 : Tabs T H) (h : ∀ H1, ExtN H H1 → Tabs T H1 → TT (fun E H' Q' => t E σ H' Q') H1 Q) : tLam T TT t σ H Q := ⟨h0, h⟩
end
/-! ### C(k = v, ..), keywords alone -/
def tMakeKS (C : Addr) (sp : Sp) (gV : List V → List V → List V) (E : L2.St → XK) (tk : TA) : TE := fun σ H Q => tk σ H fun zs H2 => ∀ x dx, H2 x = none → H2 dx = none → dx ≠ x →
  sp (gV [.ref x] zs) (upd (upd H2 dx (.own x)) x (.ins C dx [])) (fun v H3 => v = .non ∧ Q (.ref x) H3) (E σ)
theorem pe_makeKS {X : Cx} {CX : CXT} {k : Nat} {f C : Addr} {fd : FuncData} {ps ks : List Str} {sp : Sp} {E : L2.St → XK} {x : Str} {p pos : Pos} {kws : List Keyword} {tk : TA} {g : List Value → List Value → List Value} {gV : List V → List V → List V} (M : Mk X.K C f) (Fn : FnOk X.prog X.w X.K X.mg X.base CX k f fd ps sp) (hr : Room (k + 1) X.A)
    (hg : Gl X x) (hm : X.mg x = some (.ref C)) (hb : KBinds X.K fd ps ks g gV) (hx : ∀ σ, PassesAt CX X σ (E σ)) (hkw : PK X kws tk) (hall : (backToKw pos (keywordEach kws X.env)).all (·.1.isSome) = true := by rfl)
    (hks : (backToKw pos (keywordEach kws X.env)).filterMap (·.1) = ks := by rfl) (hdb : (x == ("__debug__" : Str)) = false := by decide) (hpl : ((backTo pos (starEach [] X.env)).any (·.1) || (backToKw pos (keywordEach kws X.env)).any (·.1.isNone)) = false := by rfl) :
    PE X (.Call (.Name x p) [] kws pos) (tMakeKS C sp gV E tk) := by
  refine ⟨fun pins s σ H Q I hh => ?_⟩
  refine wpAny_Call_Name_kw (ld_glob I hg hm ?_ hdb)
  refine PySem.W.callWith_KW0 (h₀ := X.base) I.ok.mod.kin M.kp hall ?_ hpl
  refine thn (hkw.run pos pins s σ H _ I hh) fun ws s2 ⟨zs, H2, I2, rz, q2⟩ => ⟨I2.kIn, ?_⟩
  rw [hks]
  have hq := q2 (s2.heap.objs.size + 1) s2.heap.objs.size (I2.hok.fresh (Nat.le_succ _)) (I2.hok.fresh (Nat.le_refl _)) (Nat.ne_of_lt (Nat.lt_succ_self _))
  have I3 := Inv.made (C := C) I2
  have r2 := hb.rel (vs := [.ref (s2.heap.objs.size + 1)]) (us := [.ref (s2.heap.objs.size + 1)]) (.cons rfl .nil) rz
  have hl : (g [.ref (s2.heap.objs.size + 1)] ws).length = ps.length := by rw [← r2.length]; exact Fn.len _ _ _ _ hq
  refine wpAny_call (make_map (f := f) I2.kIn M.makes M.init (beq_iff_eq.mp M.fn) (codeAny_mono (Fn.run _ X.stack _ _ ⟨[Value.ref (s2.heap.objs.size + 1)], ks.zip ws⟩ (g [.ref (s2.heap.objs.size + 1)] ws) _ _ (E σ) (hr.make C [] (ks.zip ws))
    (I3.env0.make C [] (ks.zip ws)) (hb.to _ [.ref (s2.heap.objs.size + 1)] ws I3.kIn hl) r2 hq) fun res s' fin => ?_))
  cases res with
  | error er => exact hx σ pins _ _ er s' I3 fin
  | ok fl =>
    cases fl with
    | ret u =>
      obtain ⟨v, H', I4, rv, ev, q3⟩ := I3.after fin
      subst ev
      exact ⟨rv, ⟨V.ref (s2.heap.objs.size + 1), H', I4, rfl, q3⟩⟩
    | next => exact False.elim fin
    | brk => exact False.elim fin
    | cont => exact False.elim fin
theorem k_makeKS {C : Addr} {sp : Sp} {gV : List V → List V → List V} {E : L2.St → XK} {tk : TA} {σ : L2.St} {H : Hp} {Q : VK} (h : tk σ H fun zs H2 => ∀ x dx, H2 x = none → H2 dx = none → dx ≠ x → sp (gV [.ref x] zs) (upd (upd H2 dx (.own x)) x (.ins C dx [])) (fun v H3 => v = .non ∧ Q (.ref x) H3) (E σ)) : tMakeKS C sp gV E tk σ H Q := h

/-! ### str(o) and o == y by the class's own methods -/
section
open PySem.W
variable {X : Cx} {CX : CXT} {k : Nat} {C g : Addr} {fd : FuncData} {ps : List Str} {sp : Sp}
def rStrO (C : Addr) (sp : Sp) : List V → Hp → VK → Prop := fun vs H Q => ∃ (a dx : Addr) (fs : List (Str × V)), vs = [.ref a] ∧ H a = some (.ins C dx fs) ∧ sp [.ref a] H (fun v H' => ∃ z : Str, v = .str z ∧ Q (.str z) H') E0
theorem cr_strO (hs : PySem.W.findIn X.K (.ref C) "__str__" = some (some (.ref g))) (hf : PySem.W.isFn X.K (.ref g) = true) (Fn : FnOk X.prog X.w X.K X.mg X.base CX k g fd ps sp) (room : Room (k + 2) X.A) (bs : Binds X.K fd ps []) (px : Passes CX X.nox E0) : CallR X (.type "str") (rStrO C sp) := by
  intro pins st σ H xs us Q I rs hh
  obtain ⟨a, dx, fs, rfl, ea, go⟩ := hh
  rw [Vals.ref1 rs]
  obtain ⟨mA, O, _, _, _, _⟩ := ins_get I.hok ea
  obtain ⟨od, J, _⟩ := O.look
  have many : ([Value.ref a] ++ []).length = ps.length := by
    rw [← Fn.len _ _ _ _ go]
    rfl
  have r2 : Room k X.A.in1.in1 := room.in1.in1
  refine kso_call r2.units0 I.kIn J hs hf (wpAny_call ?_)
  refine codeAny_mono (Fn.run X.A.in1.in1 X.stack st H ⟨[.ref a], []⟩ [.ref a] [.ref a] _ E0 r2 I.env0.in1.in1 (bs _ [.ref a] I.kIn many) (.cons rfl .nil) go) fun r s' fin => ?_
  cases r with
  | error er => exact False.elim (px pins σ H st er s' (I.wish _) fin)
  | ok fl =>
    cases fl with
    | ret u =>
      obtain ⟨v, H2, J2, rv, z, rfl, q⟩ := I.after fin
      obtain ⟨t, rfl⟩ := (show ∃ t, u = Value.str z t from rv)
      exact ⟨.str z, H2, J2, ⟨t, rfl⟩, q⟩
    | next => exact False.elim fin
    | brk => exact False.elim fin
    | cont => exact False.elim fin
/-- y is of no class that would be asked first -/
inductive Ysd (K : PySem.W.Frag) (C : Addr) (H : Hp) : V → Prop where
  | str (z : Str) (h : PySem.W.notFirst K C (.type "str") = true) : Ysd K C H (.str z)
  | int (i : Int) (h : PySem.W.notFirst K C (.type "int") = true) : Ysd K C H (.int i)
  | ins {b D dy : Addr} {gs : List (Str × V)} (e : H b = some (.ins D dy gs)) (h : PySem.W.notFirst K C (.ref D) = true) : Ysd K C H (.ref b)
def rEqO (K : PySem.W.Frag) (C : Addr) (sp : Sp) : R2 := fun x y H Q => ∃ (a dx : Addr) (fs : List (Str × V)), x = .ref a ∧ H a = some (.ins C dx fs) ∧ Ysd K C H y ∧ sp [x, y] H Q E0
theorem back_of {Q : Value → Shared → Prop} {z : V} {v : Value} {s' : Shared} (r : RelV z v) (h : Q v s') : PySem.W.CmpBack Q v s' := by
  cases z with
  | non => cases (show v = Value.none from r); exact h
  | bl b => cases (show v = Value.bool b from r); exact h
  | int i => obtain ⟨t, rfl⟩ := (show ∃ t, v = Value.int i t from r); exact h
  | str x => obtain ⟨t, rfl⟩ := (show ∃ t, v = Value.str x t from r); exact h
  | byt b => obtain ⟨t, rfl⟩ := (show ∃ t, v = Value.bytes b t from r); exact h
  | flt b => obtain ⟨t, rfl⟩ := (show ∃ t, v = Value.float b t from r); exact h
  | ref a => cases (show v = Value.ref a from r); exact h
  | ty T => cases (show v = Value.type T from r); exact h
theorem op_eqO (hs : PySem.W.findIn X.K (.ref C) "__eq__" = some (some (.ref g))) (hf : PySem.W.isFn X.K (.ref g) = true) (Fn : FnOk X.prog X.w X.K X.mg X.base CX k g fd ps sp) (room : Room k X.A) (bs : Binds X.K fd ps []) (px : Passes CX X E0) : OpR X (compareOp .Eq) (rEqO X.K C sp) := by
  intro pins s σ H x y v u Q I rx ry hh
  obtain ⟨a, dx, fs, rfl, ea, hy, go⟩ := hh
  cases (show v = Value.ref a from rx)
  obtain ⟨mA, O, _, _, _, _⟩ := ins_get I.hok ea
  obtain ⟨od, J, _⟩ := O.look
  obtain ⟨m, hF⟩ := I.fr
  have run : wpAny (model X.prog X.w) X.A (call (.ref g) [.ref a, u]) (PySem.W.CmpBack (EP X pins σ Q)) X.xe s :=
    wpAny_mono (run_fn (us := [.ref a, u]) (vs := [.ref a, y]) (dvs := []) (ds := []) Fn room bs .nil px I (.cons rfl (.cons ry .nil)) go) (fun w s' ⟨z', H', I', rz, q⟩ => back_of rz ⟨z', H', I', rz, q⟩) fun _ _ x => x
  show wpAny _ _ (richCompare .Eq (.ref a) u) _ _ _
  cases hy with
  | str z h =>
    obtain ⟨t, rfl⟩ := (show ∃ t, u = Value.str z t from ry)
    exact PySem.W.cmp_K (op := .Eq) (tb := .type "str") room.units0 hF I.ok.mod.kin J (fun A Q E s k q => wpAny_pure q) h hs hf run
  | int i h =>
    obtain ⟨t, rfl⟩ := (show ∃ t, u = Value.int i t from ry)
    exact PySem.W.cmp_K (op := .Eq) (tb := .type "int") room.units0 hF I.ok.mod.kin J (fun A Q E s k q => wpAny_pure q) h hs hf run
  | @ins b D dy gs e h =>
    cases (show u = Value.ref b from ry)
    obtain ⟨mB, O2, _, _, _, _⟩ := ins_get I.hok e
    obtain ⟨od2, J2, _⟩ := O2.look
    exact PySem.W.cmp_K (op := .Eq) (tb := .ref D) room.units0 hF I.ok.mod.kin J J2.type h hs hf run
theorem kop_eqO (K : PySem.W.Frag) (hs : PySem.W.findIn K (.ref C) "__eq__" = some (some (.ref g))) (hf : PySem.W.isFn K (.ref g) = true) (Fn : FnOk X.prog X.w K X.mg X.base CX k g fd ps sp) (room : Room k X.A) (bs : Binds K fd ps []) (px : Passes CX X E0) (hK : X.K = K := by rfl) : OpR X (compareOp .Eq) (rEqO K C sp) := by
  subst hK
  exact op_eqO hs hf Fn room bs px
theorem kc_strO (K : PySem.W.Frag) (hs : PySem.W.findIn K (.ref C) "__str__" = some (some (.ref g))) (hf : PySem.W.isFn K (.ref g) = true) (Fn : FnOk X.prog X.w K X.mg X.base CX k g fd ps sp) (room : Room (k + 2) X.A) (bs : Binds K fd ps []) (px : Passes CX X.nox E0) (hK : X.K = K := by rfl) : CallR X (.type "str") (rStrO C sp) := by
  subst hK
  exact cr_strO hs hf Fn room bs px
end

section
open L2
variable {P : Program} {w : World} {K : PySem.W.Frag} {mg : Str → Option Value} {base : Heap}
/-- a method that closes over its class and may raise -/
theorem funS_okX {x qual : Str} {st : Stmt} {f cc cda D0 : Addr} {fd : FuncData} {N ps : List Str} {k : Nat} {sp : Sp} {cl : Value} {cld : Option Addr} {csl : Array (Option Value)} (F : FunS K x qual st f fd cc cda) (S : NdefX.NScope N ps ["__class__"] (defScope st))
    (hcell : K.lookup cc = some ⟨cl, cld, .cell (some (.ref D0)), csl⟩) (len : ∀ vs H Q E, sp vs H Q E → vs.length = ps.length)
    (hbody : ∀ (A : Around) (outer : List Env) (s : Shared) (H : Hp) (vs : List V) (Q : VK) (E : XK), Room k (A.deeper (NdefX.envF (nfS x qual st cc cda) f s.heap.objs.size)) → sp vs H Q E →
      ∃ t, PSA (NdefX.ncx (L2.CX P w) P w K mg base N (nfS x qual st cc cda) f A outer s H E) (defBody st) (defBody st) t ∧ t { nx := fun _ H' => Q .non H', rt := Q } (NdefX.startF N vs [some (.ref D0)]) H) :
    FnOk P w K mg base (L2.CX P w) (k + 1) f fd ps sp := by
  obtain ⟨oc, od, kV, doc, pm, an, ct, osl, efd, lk, hcd⟩ := F.ex
  refine ⟨len, fun A outer s H args us vs Q E hr e0 hb r hsp => ?_⟩
  have hl := len _ _ _ _ hsp
  have KB := e0.mod.kin
  have KX : K.In s.heap := KB.keeps fun b o e => (e0.bs b o e).1
  have lim : s.heap.NoLimit := e0.mod.nolimit.keeps fun b o e => (e0.bs b o e).1
  have hc1 := e0.bs _ _ (KB _ _ hcell)
  have CA : NdefX.CellsAt [("__class__", cc)] ["__class__"] [some (.ref D0)] s.heap H := by
    have key : ∀ y c, List.lookup y [(("__class__" : Str), cc)] = some c → y = "__class__" ∧ c = cc := fun y c e => by
      rw [List.lookup_cons] at e
      by_cases hy : y = "__class__"
      · subst hy
        simp at e
        exact ⟨rfl, e.symm⟩
      · have : (y == ("__class__" : Str)) = false := by simpa using hy
        rw [this] at e
        cases e
    refine ⟨rfl, fun y c e => ?_, fun x y c e1 e2 => ((key x c e1).1).trans ((key y c e2).1).symm, fun i y e => ?_⟩
    · obtain ⟨rfl, rfl⟩ := key y c e
      exact ⟨hc1.2, _, _, hc1.1, rfl⟩
    · have hi : i = 0 := by
        have := (List.getElem?_eq_some_iff.mp e).1
        simp at this
        exact this
      subst hi
      have ey : ("__class__" : Str) = y := Option.some.inj e
      subst ey
      refine ⟨cc, by simp, fun v ev => ?_⟩
      have ev' : V.ref D0 = v := Option.some.inj (Option.some.inj ev)
      subst ev'
      exact ⟨.ref D0, rfl, _, hc1.1, rfl⟩
  subst efd
  refine codeAny_call_function hr.depth (KX _ _ lk) rfl S.co S.gen rfl (PySem.W.codeRec_of KX hcd) (hb _ _ _ _ ?_)
  refine wpAny_newFunctionEnv S.nocell (fun ⟨n, _⟩ hy => S.par n (List.of_mem_zip hy).1) (fun h₁ hns hsb => ⟨lim.fresh _ hsb, ?_⟩) S.kind
  show codeAny _ _ (.func (defBody st) (NdefX.envF (nfS x qual st cc cda) f s.heap.objs.size)) _ _
  have kp : ∀ b o, s.heap.get? b = some o → h₁.get? b = some o := fun b o e => hsb.extBut b o (Nat.ne_of_lt (Heap.lt_size e)) (Heap.get?_push_of_some _ e)
  obtain ⟨t, ht, hq⟩ := hbody A outer s H vs Q E (hr.deeper _) hsp
  have I : Inv (NdefX.ncx (L2.CX P w) P w K mg base N (nfS x qual st cc cda) f A outer s H E) [] (NdefX.startF N vs [some (.ref D0)]) H { s with heap := h₁, toks := s.toks + (ps.zip us).length } :=
    NdefX.inv_startN (F := nfS x qual st cc cda) S hr.hd e0 hl r CA hns kp
  refine ks_codeAny_funcAt (ks_wpAt_mono (ht.go [] _ _ H _ I hq) (fun fl s' hs => ?_) fun e s' hs => hs)
  have fin : ∀ {σ' : L2.St} {H' : Hp} {v : V} {u : Value}, Inv (NdefX.ncx (L2.CX P w) P w K mg base N (nfS x qual st cc cda) f A outer s H E) [] σ' H' s' → L2.RelV v u → Q v H' → CE outer P w H s Q u s' :=
    fun {σ' H' v u} J rv q => ⟨v, H', J.os, J.bare, J.base, J.hok, rv, q⟩
  cases fl with
  | ret u =>
    obtain ⟨v, σ', H', J, rv, q⟩ := hs
    exact fin J rv q
  | next =>
    obtain ⟨σ', H', J, q⟩ := hs
    exact fin (v := V.non) (u := Value.none) J rfl q
  | brk =>
    obtain ⟨_, _, _, q⟩ := hs
    exact False.elim q
  | cont =>
    obtain ⟨_, _, _, q⟩ := hs
    exact False.elim q
end
/-! ### o != y by the class's own __eq__ -/
section
open PySem.W
theorem bound_b {M : Model} {A : Around} {E : Value → Shared → Prop} {st : Shared} {K : PySem.W.Frag} {a C : Addr} {oa : Obj} {od : Option Obj} {nm : Str} {id : String} {as : List Value} {Q : Option Value → Shared → Prop} (XK : K.In st.heap) (J : InstAt st.heap a oa C od)
    (hs : findIn K (.ref C) nm = some (some (.builtin id))) (hb : ∀ self, bindSpecial (.builtin id) self = pure (.builtin id, [self])) (h : wpAny M A (call (.builtin id) (.ref a :: as)) (fun v => Q (some v)) E st) : wpAny M A (callSpecialIfBound? (.ref a) nm as) Q E st := by
  simp only [callSpecialIfBound?, bindSpecialIfBound?]
  refine wpAny_holding (wpAny_bind (wpAny_bind (wpAny_bind (J.type.here ((looks_findIn XK hs).here ?_)))))
  refine wpAny_bind (wpAny_askSetting (wpAny_ite ?_))
  have last : wpAny M A (call (.builtin id) ([.ref a] ++ as) >>= fun v => pure (some v)) Q E st := wpAny_bind (wpAny_mono h (fun v z q => wpAny_pure q) fun _ _ q => q)
  split
  · exact wpAny_bind ((Looks.of_pure (hb _)).here (wpAny_pure (by exact last)))
  · exact wpAny_tryCatch (wpAny_bind ((Looks.of_pure (hb _)).here (wpAny_pure (by exact last))))
variable {X : Cx} {CX : CXT} {k : Nat} {C g : Addr} {fd : FuncData} {ps : List Str} {sp : Sp}
theorem ne_run {st : Shared} {a : Addr} {u tb : Value} {oa : Obj} {od : Option Obj} {A : Around} {E : Value → Shared → Prop} {K : PySem.W.Frag} {prog : Program} {w : World} {Q : Value → Shared → Prop} (hu : A.units + 1 < cLine) (XK : K.In st.heap) (J : InstAt st.heap a oa C od) (hb : Looks (model prog w) st.heap (typeOf u) tb) (hnf : notFirst K C tb = true)
    (hs : findIn K (.ref C) "__eq__" = some (some (.ref g))) (hf : isFn K (.ref g) = true) (hn : findIn K (.ref C) "__ne__" = some (some (.builtin "object.__ne__"))) (hm : mroIn K C (.type "object") = some true)
    (h : wpAny (model prog w) A.in1 (call (.ref g) [.ref a, u]) (fun v s' => ∃ b : Bool, v = .bool b ∧ Q (.bool (!b)) s') E st) : wpAny (model prog w) A (richCompare .NotEq (.ref a) u) Q E st := by
  have hu0 : A.units < cLine := Nat.lt_of_succ_lt hu
  have one : wpAny (model prog w) A (tryCompare (.ref a) "__ne__" u) (fun r s' => ∃ v, r = some v ∧ Q v s') E st := by
    unfold tryCompare
    refine wpAny_bind (bound_b XK J hn (id := "object.__ne__") (fun self => PySem.F.cmp_object.ne.bind self) ?_)
    refine wpAny_call (codeAny_call_builtin PySem.F.cmp_object.ne.plain F.cmpEntry_ne (check_slot (i := "object.__ne__") (owner := "object") (n := "__ne__") (by decide +kernel) (by decide +kernel) (J.type.andThen (looks_mroIn XK hm)) (F.cmpArgs_ne _ _) ?_))
    unfold Builtin.«object.__ne__»
    refine wpAny_bind (m := slotArgs "__ne__" 1 _) (wpAny_pure ?_)
    refine wpAny_bind (m := cRoomFor _ _) (wpAny_cRoomFor (by show A.units + 1 < cLine; exact hu) ?_)
    refine wpAny_bind (m := callSpecialIfBound? (.ref a) (Str.ofString "__eq__") _) (ifBound_K XK J hs hf (wpAny_mono h (fun r s' hq => ?_) fun _ _ y => y))
    obtain ⟨b, rfl, q⟩ := hq
    refine wpAny_bind (wpAny_truthy_bool ?_)
    exact wpAny_pure (wpAny_pure ⟨_, rfl, q⟩)
  unfold richCompare
  simp only [oneThing_ref]
  refine wpAny_holding (wpAny_bind (wpAny_cRoomFor hu0 ?_))
  refine wpAny_bind (J.type.here (wpAny_bind (hb.here ?_)))
  split
  · rename_i q
    have e : subIn K tb (.ref C) = some false := by
      rcases Bool.or_eq_true_iff.mp hnf with e | e
      · rw [beq_iff_eq.mp e] at q; simp at q
      · exact beq_iff_eq.mp e
    refine wpAny_bind ((looks_subIn XK e).here ?_)
    simp only [Bool.false_eq_true, if_false]
    refine wpAny_bind (wpAny_mono one (fun r s' z => ?_) fun _ _ e => e)
    obtain ⟨v, rfl, q2⟩ := z
    exact wpAny_pure q2
  · refine wpAny_bind (wpAny_pure ?_)
    simp only [Bool.false_eq_true, if_false]
    refine wpAny_bind (wpAny_mono one (fun r s' z => ?_) fun _ _ e => e)
    obtain ⟨v, rfl, q2⟩ := z
    exact wpAny_pure q2

/-- y is of no class that would be asked first -/
inductive Yw (K : PySem.W.Frag) (C : Addr) (H : Hp) : V → Prop where
  | str (z : Str) (h : notFirst K C (.type "str") = true) : Yw K C H (.str z)
  | int (i : Int) (h : notFirst K C (.type "int") = true) : Yw K C H (.int i)
  | bl (b : Bool) (h : notFirst K C (.type "bool") = true) : Yw K C H (.bl b)
  | non (h : notFirst K C (.type "NoneType") = true) : Yw K C H .non
  | lst {b : Addr} {xs : List V} (e : H b = some (.lst xs)) (h : notFirst K C (.type "list") = true) : Yw K C H (.ref b)
  | tup {b : Addr} {xs : List V} (e : H b = some (.tup xs)) (h : notFirst K C (.type "tuple") = true) : Yw K C H (.ref b)
  | ins {b D dy : Addr} {gs : List (Str × V)} (e : H b = some (.ins D dy gs)) (h : notFirst K C (.ref D) = true) : Yw K C H (.ref b)
theorem Yw.look {pins : List (Addr × Obj)} {s : Shared} {σ : L2.St} {H : Hp} {y : V} {u : Value} (hy : Yw X.K C H y) (I : Inv X pins σ H s) (ry : RelV y u) : ∃ tb, Looks (model X.prog X.w) s.heap (typeOf u) tb ∧ notFirst X.K C tb = true := by
  cases hy with
  | str z h =>
    obtain ⟨t, rfl⟩ := (show ∃ t, u = Value.str z t from ry)
    exact ⟨_, fun A Q E s k q => wpAny_pure q, h⟩
  | int i h =>
    obtain ⟨t, rfl⟩ := (show ∃ t, u = Value.int i t from ry)
    exact ⟨_, fun A Q E s k q => wpAny_pure q, h⟩
  | bl b h =>
    cases (show u = Value.bool b from ry)
    exact ⟨_, fun A Q E s k q => wpAny_pure q, h⟩
  | non h =>
    cases (show u = Value.none from ry)
    exact ⟨_, fun A Q E s k q => wpAny_pure q, h⟩
  | @lst b xs e h =>
    cases (show u = Value.ref b from ry)
    obtain ⟨_, _, n, _, h1⟩ := (show ObjOk X.prog X.w H s.heap b (.lst xs) from I.hok b _ e)
    exact ⟨.type "list", (Looks.ld h1).andThen .now, h⟩
  | @tup b xs e h =>
    cases (show u = Value.ref b from ry)
    obtain ⟨_, _, _, o, h1, h2, _⟩ := (show ObjOk X.prog X.w H s.heap b (.tup xs) from I.hok b _ e)
    exact ⟨.type "tuple", h2 ▸ (Looks.ld h1).andThen .now, h⟩
  | @ins b D dy gs e h =>
    cases (show u = Value.ref b from ry)
    obtain ⟨mB, O2, _, _, _, _⟩ := ins_get I.hok e
    obtain ⟨od2, J2, _⟩ := O2.look
    exact ⟨_, J2.type, h⟩
/-- o == y, o != y: the class's own __eq__ is asked -/
def rEqW (K : PySem.W.Frag) (C : Addr) (sp : Sp) : R2 := fun x y H Q => ∃ (a dx : Addr) (fs : List (Str × V)), x = .ref a ∧ H a = some (.ins C dx fs) ∧ Yw K C H y ∧ sp [x, y] H Q E0
def rNeW (K : PySem.W.Frag) (C : Addr) (sp : Sp) : R2 := fun x y H Q => ∃ (a dx : Addr) (fs : List (Str × V)), x = .ref a ∧ H a = some (.ins C dx fs) ∧ Yw K C H y ∧ sp [x, y] H (fun v H' => ∃ b : Bool, v = .bl b ∧ Q (.bl (!b)) H') E0
theorem op_eqW (hs : PySem.W.findIn X.K (.ref C) "__eq__" = some (some (.ref g))) (hf : PySem.W.isFn X.K (.ref g) = true) (Fn : FnOk X.prog X.w X.K X.mg X.base CX k g fd ps sp) (room : Room k X.A) (bs : Binds X.K fd ps []) (px : Passes CX X E0) : OpR X (compareOp .Eq) (rEqW X.K C sp) := by
  intro pins s σ H x y v u Q I rx ry hh
  obtain ⟨a, dx, fs, rfl, ea, hy, go⟩ := hh
  obtain ⟨tb, lk, nf⟩ := hy.look I ry
  cases (show v = Value.ref a from rx)
  obtain ⟨mA, O, _, _, _, _⟩ := ins_get I.hok ea
  obtain ⟨od, J, _⟩ := O.look
  obtain ⟨m, hF⟩ := I.fr
  have run : wpAny (model X.prog X.w) X.A (call (.ref g) [.ref a, u]) (PySem.W.CmpBack (EP X pins σ Q)) X.xe s :=
    wpAny_mono (run_fn (us := [.ref a, u]) (vs := [.ref a, y]) (dvs := []) (ds := []) Fn room bs .nil px I (.cons rfl (.cons ry .nil)) go) (fun w s' ⟨z', H', I', rz, q⟩ => back_of rz ⟨z', H', I', rz, q⟩) fun _ _ x => x
  show wpAny _ _ (richCompare .Eq (.ref a) u) _ _ _
  exact PySem.W.cmp_K (op := .Eq) (tb := tb) room.units0 hF I.ok.mod.kin J lk nf hs hf run
theorem op_neW (hs : PySem.W.findIn X.K (.ref C) "__eq__" = some (some (.ref g))) (hf : PySem.W.isFn X.K (.ref g) = true) (hn : findIn X.K (.ref C) "__ne__" = some (some (.builtin "object.__ne__"))) (hm : mroIn X.K C (.type "object") = some true)
    (Fn : FnOk X.prog X.w X.K X.mg X.base CX k g fd ps sp) (room : Room (k + 1) X.A) (bs : Binds X.K fd ps []) (px : Passes CX X E0) : OpR X (compareOp .NotEq) (rNeW X.K C sp) := by
  intro pins s σ H x y v u Q I rx ry hh
  obtain ⟨a, dx, fs, rfl, ea, hy, go⟩ := hh
  obtain ⟨tb, lk, nf⟩ := hy.look I ry
  cases (show v = Value.ref a from rx)
  obtain ⟨mA, O, _, _, _, _⟩ := ins_get I.hok ea
  obtain ⟨od, J, _⟩ := O.look
  have many : ([Value.ref a, u] ++ []).length = ps.length := by
    rw [← Fn.len _ _ _ _ go]
    rfl
  have r2 : Room k X.A.in1 := room.in1
  show wpAny _ _ (richCompare .NotEq (.ref a) u) _ _ _
  refine ne_run r2.units0 I.kIn J lk nf hs hf hn hm (wpAny_call ?_)
  refine codeAny_mono (Fn.run X.A.in1 X.stack s H ⟨[.ref a, u], []⟩ [.ref a, u] [.ref a, y] _ E0 r2 I.env0.in1 (bs _ [.ref a, u] I.kIn many) (.cons rfl (.cons ry .nil)) go) fun r s' fin => ?_
  cases r with
  | error er => exact px pins σ H s er s' I fin
  | ok fl =>
    cases fl with
    | ret z =>
      obtain ⟨v, H2, J2, rv, b, rfl, q⟩ := I.after fin
      exact ⟨b, rv, .bl (!b), H2, J2, rfl, q⟩
    | next => exact False.elim fin
    | brk => exact False.elim fin
    | cont => exact False.elim fin
/-- repr(o) by the class's own __repr__ -/
theorem cr_reprO (hs : PySem.W.findIn X.K (.ref C) "__repr__" = some (some (.ref g))) (hf : PySem.W.isFn X.K (.ref g) = true) (Fn : FnOk X.prog X.w X.K X.mg X.base CX k g fd ps sp) (room : Room (k + 1) X.A) (bs : Binds X.K fd ps []) (px : Passes CX X.nox E0) : CallR X (.builtin "repr") (rStrO C sp) := by
  intro pins st σ H xs us Q I rs hh
  obtain ⟨a, dx, fs, rfl, ea, go⟩ := hh
  rw [Vals.ref1 rs]
  obtain ⟨mA, O, _, _, _, _⟩ := ins_get I.hok ea
  obtain ⟨od, J, _⟩ := O.look
  obtain ⟨m, hF⟩ := I.fr
  have many : ([Value.ref a] ++ []).length = ps.length := by
    rw [← Fn.len _ _ _ _ go]
    rfl
  have r2 : Room k X.A.in1 := room.in1
  refine PySem.W.repr_K r2.units0 hF I.ok.mod.kin J hs hf (wpAny_call ?_)
  refine codeAny_mono (Fn.run X.A.in1 X.stack st H ⟨[.ref a], []⟩ [.ref a] [.ref a] _ E0 r2 I.env0.in1 (bs _ [.ref a] I.kIn many) (.cons rfl .nil) go) fun r s' fin => ?_
  cases r with
  | error er => exact False.elim (px pins σ H st er s' (I.wish _) fin)
  | ok fl =>
    cases fl with
    | ret u =>
      obtain ⟨v, H2, J2, rv, z, rfl, q⟩ := I.after fin
      obtain ⟨t, rfl⟩ := (show ∃ t, u = Value.str z t from rv)
      exact ⟨.str z, H2, J2, ⟨t, rfl⟩, q⟩
    | next => exact False.elim fin
    | brk => exact False.elim fin
    | cont => exact False.elim fin
end

/-! ### for i, x in enumerate(a tuple) -/
section
theorem enumB_meets {vz : Value} {oz : Obj} {Hb : Heap → Prop} (Bz : Begins vz oz Hb) :
    Meets (Builtin.«enumerate.__new__» ⟨[.type "enumerate", vz], []⟩) (fun _ R st => Hb st.heap ∧ R (.ok (.ret (.ref (st.heap.push oz).objs.size))) { st with heap := (st.heap.push oz).push { cls := .type "enumerate", data := .fields #[.none, .bool false, .ref st.heap.objs.size, rawInt 0, .none, .none] } }) :=
  .of_wp fun prog w A R st hh => by
    obtain ⟨hp, g, d, tk, os⟩ := st
    obtain ⟨hb, fin⟩ := hh
    have hsub := sub_enumerate
    have it1 : ∀ {Ay : Around} {Ey : Value → Shared → Prop} {Qy : Value → Shared → Prop}, Qy (.ref hp.objs.size) ⟨hp.push oz, g, d, tk, os⟩ → wpAny (model prog w) Ay (pyIter vz) Qy Ey ⟨hp, g, d, tk, os⟩ := fun q => Bz.iter prog w _ _ ⟨hp, g, d, tk, os⟩ _ hb q
    wp_walk using it1
    refine wpAny_stack_any fun sk => wpAny_pure ?_
    split
    · rename_i c _ _ _ _ _
      cases (c == Value.type "enumerate") <;> (wp_walk using it1; exact ⟨_, rfl, fin⟩)
    · wp_walk using it1
      exact ⟨_, rfl, fin⟩
theorem enumB_call {prog : Program} {w : World} {A : Around} {Ez : Value → Shared → Prop} {st : Shared} {vz : Value} {oz : Obj} {Hb : Heap → Prop} {Qz : Value → Shared → Prop} (Bz : Begins vz oz Hb) (hb : Hb st.heap)
    (k : ∀ h', IsEnum h' (st.heap.objs.size + 1) st.heap.objs.size 0 .none → h'.get? st.heap.objs.size = some oz → (∀ b o, st.heap.get? b = some o → h'.get? b = some o) → Qz (.ref (st.heap.objs.size + 1)) { st with heap := h' }) :
    wpAny (model prog w) A (call (.type "enumerate") [vz]) Qz Ez st := by
  refine callType_new F.called_enumerate (by decide) (F.typeCall_enumerate_1 _) (F.newCall_enumerate_1 _) (fun ob => F.args_object_init_2 ob _) F.entry_enumerate_new (enumB_meets Bz) ⟨hb, ?_⟩
  have sz : (st.heap.push oz).objs.size = st.heap.objs.size + 1 := Heap.size_push ..
  show _ ∧ _
  rw [sz]
  have e1 := Heap.get?_push_size (st.heap.push oz) (o := { cls := .type "enumerate", data := .fields #[.none, .bool false, .ref st.heap.objs.size, rawInt 0, .none, .none] }) rfl
  rw [sz] at e1
  exact ⟨⟨_, e1, rfl⟩, k _ e1 (Heap.get?_push_of_some _ (Heap.get?_push_size _ Bz.free)) fun b o x => Heap.get?_push_of_some _ (Heap.get?_push_of_some _ x)⟩
def Itet (K : PySem.W.Frag) (a : Addr) : It :=
  ⟨fun i H => ∃ (xs : List V) (x : V), SqT K H a xs ∧ xs[i]? = some x, fun i H v H' => ∃ tp x, v = .ref tp ∧ H tp = none ∧ H' = upd H tp (.tup [.int (i : Nat), x]) ∧ ∀ xs, SqT K H a xs → xs[i]? = some x, fun i H => ∃ xs : List V, SqT K H a xs ∧ xs.length ≤ i⟩
theorem turn_enumT {P : Program} {w : World} {K : PySem.W.Frag} {elts : List Expr} {kk : Nat} {tpos : Pos} (a e it : Addr) (hai : a ≠ it) (hae : a ≠ e) (hne : e ≠ it) :
    Turn P w K (.Tuple elts kk tpos) (Itet K a) [e, it] e (fun i h => (∃ old, IsEnum h e it ((i : Nat) : Int) old) ∧ h.IsTupleIter it a i) where
  mem := by simp
  obj := fun i h st b hb => by
    obtain ⟨⟨old, he⟩, ⟨o, ho, hc, hd⟩⟩ := st
    have cs : b = e ∨ b = it := by simpa using hb
    rcases cs with z | z
    · rw [z]
      exact ⟨_, he, fun v q => nomatch q⟩
    · rw [z]
      refine ⟨o, ho, fun v q => ?_⟩
      rw [hd] at q
      cases q
  keep := fun i h h' ⟨⟨old, he⟩, hi⟩ k => ⟨⟨old, k e (by simp) _ he⟩, hi.at fun o q => k it (by simp) o q⟩
  item := by
    intro X hP hw hK hc i pins s σ H E I hf st hg
    subst hP hw hK
    obtain ⟨⟨old, he⟩, hit⟩ := st
    obtain ⟨xs, x, hq, hx⟩ := hg
    obtain ⟨its, rv, pt, hz⟩ := I.tuple hq
    obtain ⟨u, hu, ru⟩ := rv.get hx
    have hil : i < its.toArray.size := by rw [List.size_toArray]; exact (List.getElem?_eq_some_iff.mp hu).1
    have le : e < s.heap.objs.size := Heap.lt_size he
    have li : it < s.heap.objs.size := by obtain ⟨_, q, _⟩ := hit; exact Heap.lt_size q
    have D := Draws.tuple (prog := X.prog) (w := X.w) (A := X.A.in1) (I.ok.hd hc) it a hai its.toArray
    refine wpAny_pyNext_enum_itemD D he ⟨hit, pt⟩ hil hne (by simp [hne, Ne.symm hae]) fun x2 h' tk hx2 ho hst' hT hsz hk => ?_
    have ex : x2 = u := by
      have h1 : its[i]? = some x2 := by simpa using hx2
      rw [hu] at h1
      exact (Option.some.inj h1).symm
    subst ex
    refine ⟨_, rfl, wpAny_letOwnedTupleGo_enum (s := { s with heap := h', toks := tk + 1 }) ho fun h2 he2 sb => ?_⟩
    have hT2 : h2.get? s.heap.objs.size = some { cls := .type "tuple", data := .seq #[.int i tk, x2] } := (sb.2 _ (Nat.ne_of_gt le)).trans hT
    have made : ObjOk X.prog X.w (upd H s.heap.objs.size (.tup [.int (i : Nat), x])) h2 s.heap.objs.size (.tup [.int (i : Nat), x]) :=
      ⟨by show 2 ≤ sizeLine; decide, [.int i tk, x2], .cons ⟨_, rfl⟩ (.cons ru .nil), ⟨_, hT2, rfl, _, rfl⟩⟩
    have I1 : Inv X pins σ (upd H s.heap.objs.size (.tup [.int (i : Nat), x])) { s with heap := h2, toks := tk + 1 } :=
      I.turnedNew (ch := [e, it]) (fun b ob hb q => (sb.2 b (fun z => hb (by simp [z]))).trans (hk b ob (fun z => hb (by simp [z])) (fun z => hb (by simp [z])) q)) hf (Nat.le_refl _) made
    refine ⟨.ref s.heap.objs.size, _, I1, rfl, ⟨_, x, rfl, I.hok.fresh (Nat.le_refl _), rfl, fun ys hy => by rw [I.tuple_inj hy hq]; exact hx⟩, ⟨⟨x2, ?_⟩, hst'.1.at fun o q => (sb.2 it (Ne.symm hne)).trans q⟩, fun b hb => ?_⟩
    · rw [show ((i + 1 : Nat) : Int) = (i : Int) + 1 by omega]
      exact he2
    · have lb : b < s.heap.objs.size := by
        have cs : b = e ∨ b = it := by simpa using hb
        rcases cs with z | z <;> rw [z] <;> assumption
      rw [upd_ne (Nat.ne_of_lt lb)]
      exact (hf b hb).1
  done := by
    intro X hP hw hK hc i pins s σ H E I hf st hg
    subst hP hw hK
    obtain ⟨⟨old, he⟩, hit⟩ := st
    obtain ⟨xs, hq, hx⟩ := hg
    obtain ⟨its, rv, pt, hz⟩ := I.tuple hq
    obtain ⟨f0, f1, f2, f3, f4, f5⟩ := hf it (by simp)
    have hl := rv.length
    unfold pyNext
    have hT : s.TypeIs (.ref e) "enumerate" := ⟨_, he, rfl⟩
    refine wpAny_bind (wpAny_attempt (wpAny_callSpecial?_slot (name := Str.ofString "__next__") hT F.slot_enumerate_next (wpAny_call_entry F.slot_enumerate_next hT F.entry_enumerate_next ?_ (F.args_enumerate_next_1 _))))
    show wpAny _ _ (field (.ref e) 2 >>= _) _ _ _
    refine wpAny_bind (wpAny_field he rfl (x := .ref it) rfl ?_)
    refine wpAny_bind (wpAny_nextOf_tuple_end (I.ok.hd hc) hit pt (by simp; omega) fun h' x2 eb hx2 => ?_)
    obtain ⟨o2, ho2, hc2⟩ := hx2
    refine wpAny_bind (wpAny_isInstance (T := "StopIteration") (b := true) ⟨o2, ho2, hc2⟩ isSubtype_stop ?_)
    exact wpAny_pure ⟨rfl, I.turned (t' := s.toks) (fun b o hb q => eb b o hb q) f0 f1 f3 f4 f5⟩
  self := fun A i s Q E st h => let ⟨⟨_, he⟩, _⟩ := st; wpAny_pyIter_enum he h
def iEnumT (K : PySem.W.Frag) (ta : TA) : TI := fun σ H R => ta σ H fun vs H1 => ∃ a xs, vs = [.ref a] ∧ SqT K H1 a xs ∧ R (Itet K a) H1
theorem pi_enumT {X : Cx} (K : PySem.W.Frag) {e : Expr} {ta : TA} {p pos tpos : Pos} {elts : List Expr} {kk : Nat} (hg : Gl X "enumerate") (hm : X.mg "enumerate" = none) (ha : PA X [e] ta) (hK : X.K = K := by rfl) (hs : starEach [e] X.env = [(false, eval e X.env)] := by rfl) :
    PI X (.Tuple elts kk tpos) (.Call (.Name "enumerate" p) [e] [] pos) (iEnumT K ta) := by
  subst hK
  refine ⟨fun pins s σ H R I h => ?_⟩
  refine Call_ (ld_blt I hg hm boot_enumerate (PyProof.Rows.callWith_type1 (thn (ha.run pos pins s σ H _ I h) fun us s1 ⟨vs, H1, I1, r1, a, xs, ex, hq, q⟩ => ?_) hs rfl))
  subst ex
  rw [Vals.ref1 r1]
  obtain ⟨its, rv, pt, hz⟩ := I1.tuple hq
  have la : a < s1.heap.objs.size := by obtain ⟨o, ho, _⟩ := pt; exact Heap.lt_size ho
  refine enumB_call (begins_tuple a its.toArray) pt fun h' he hit hk => wpAny_pyIter_enum he ?_
  have I2 : Inv X pins σ H1 { s1 with heap := h' } := I1.kept (t' := s1.toks) hk
  refine ⟨s1.heap.objs.size + 1, [s1.heap.objs.size + 1, s1.heap.objs.size], _, _, H1, rfl, I2, turn_enumT a (s1.heap.objs.size + 1) s1.heap.objs.size (Nat.ne_of_lt la) (Nat.ne_of_lt (Nat.lt_succ_of_lt la)) (Nat.succ_ne_self _), ⟨⟨.none, he⟩, ⟨_, hit, rfl, rfl⟩⟩, fun b hb => ?_, q⟩
  have cs : b = s1.heap.objs.size + 1 ∨ b = s1.heap.objs.size := by simpa using hb
  have hle : s1.heap.objs.size ≤ b := by rcases cs with z | z <;> rw [z] <;> omega
  exact I1.fpOk hle (I1.hok.fresh hle)
theorem walk_enumT {K : PySem.W.Frag} {a : Addr} {xs : List V} : Walk (Itet K a) xs.length (fun H => SqT K H a xs) (YPair (fun i => some (.int (i : Nat))) (fun i => xs[i]?)) := by
  refine ⟨fun i _ hi q => ⟨xs, xs[i], q, by simp [hi]⟩, fun _ q => ⟨xs, q, Nat.le_refl _⟩, fun i H v H' _ q y => ?_⟩
  obtain ⟨tp, x, e1, e2, e3, e4⟩ := y
  exact ⟨tp, .int (i : Nat), x, e1, e2, e3, rfl, e4 xs q⟩
end

/-! ### a list or a tuple, whichever it is -/
section
variable {X : Cx} {σ : L2.St} {H : Hp}
/-- the list or the tuple at a -/
def SqAt (H : Hp) (a : Addr) (xs : List V) : Prop := H a = some (.lst xs) ∨ H a = some (.tup xs)
theorem SqAt.up {H' : Hp} {a : Addr} {xs : List V} (h : SqAt H a xs) (e : Same H H') : SqAt H' a xs := h.imp (fun h => e _ _ h) (fun h => e _ _ h)
theorem SqAt.ext {H' : Hp} {a : Addr} {xs : List V} (h : SqAt H a xs) (e : LamX.ExtN H H') : SqAt H' a xs := h.imp (fun h => e _ _ h (fun ps z => by cases z)) (fun h => e _ _ h (fun ps z => by cases z))
theorem SqAt.stay {H' : Hp} {a : Addr} {xs : List V} (h : SqAt H a xs) (e : Same H H') : H' a = H a := by
  rcases h with h | h <;> rw [h, e _ _ h]
theorem SqAt.inj {a : Addr} {xs ys : List V} (h : SqAt H a xs) (g : SqAt H a ys) : xs = ys := by
  rcases h with h | h <;> rcases g with g | g <;> (rw [h] at g; cases g; try rfl)
def iLT (K : PySem.W.Frag) (tl : TE) : TI := fun σ H R => iList K tl σ H R ∨ iTup K tl σ H R
theorem pi_LT (K : PySem.W.Frag) {tg l : Expr} {tl : TE} (hl : PE X l tl) (hK : X.K = K := by rfl) : PI X tg l (iLT K tl) := by
  subst hK
  exact ⟨fun pins s σ H R I h => h.elim (fun h => (pi_list hl).run pins s σ H R I h) fun h => (pi_tup hl).run pins s σ H R I h⟩
theorem k_LT {K : PySem.W.Frag} {tl : TE} {R : It → Hp → Prop} {a : Addr} {xs : List V} (h : SqAt H a xs) (hv : ∀ Q : VK, Q (.ref a) H → tl σ H Q)
    (k : ∀ (J : It) (G : Hp → Prop), Walk J xs.length G (YAt xs) → (∀ H', H' a = H a → G H') → R J H) : iLT K tl σ H R := by
  rcases h with h | h
  · exact .inl (hv _ ⟨a, rfl, ⟨xs, SqL.of h⟩, k _ _ walk_list fun H' e => SqL.of (e.trans h)⟩)
  · exact .inr (hv _ ⟨a, rfl, ⟨xs, SqT.of h⟩, k _ _ walk_tup fun H' e => SqT.of (e.trans h)⟩)
def iELT (K : PySem.W.Frag) (ta : TA) : TI := fun σ H R => iEnum K ta σ H R ∨ iEnumT K ta σ H R
theorem pi_ELT (K : PySem.W.Frag) {e : Expr} {ta : TA} {p pos tpos : Pos} {elts : List Expr} {kk : Nat} (hg : Gl X "enumerate") (hm : X.mg "enumerate" = none) (ha : PA X [e] ta) (hK : X.K = K := by rfl) (hs : starEach [e] X.env = [(false, eval e X.env)] := by rfl) :
    PI X (.Tuple elts kk tpos) (.Call (.Name "enumerate" p) [e] [] pos) (iELT K ta) := by
  subst hK
  exact ⟨fun pins s σ H R I h => h.elim (fun h => (pi_enum hg hm ha hs).run pins s σ H R I h) fun h => (pi_enumT X.K hg hm ha rfl hs).run pins s σ H R I h⟩
theorem k_ELT {K : PySem.W.Frag} {ta : TA} {R : It → Hp → Prop} {a : Addr} {xs : List V} (h : SqAt H a xs) (hv : ∀ Q : List V → Hp → Prop, Q [.ref a] H → ta σ H Q)
    (k : ∀ (J : It) (G : Hp → Prop), Walk J xs.length G (YPair (fun i => some (.int (i : Nat))) (fun i => xs[i]?)) → (∀ H', H' a = H a → G H') → R J H) : iELT K ta σ H R := by
  rcases h with h | h
  · exact .inl (hv _ ⟨a, xs, rfl, SqL.of h, k _ _ walk_enum fun H' e => SqL.of (e.trans h)⟩)
  · exact .inr (hv _ ⟨a, xs, rfl, SqT.of h, k _ _ walk_enumT fun H' e => SqT.of (e.trans h)⟩)
theorem k_lenLT {K : PySem.W.Frag} {a : Addr} {xs : List V} {Q : VK} (h : SqAt H a xs) (k : Q (.int (xs.length : Nat)) H) : rLenU K [.ref a] H Q := by
  rcases h with h | h
  · exact k_lenL (SqL.of h) k
  · exact k_lenT (SqT.of h) k
theorem k_listLT {K : PySem.W.Frag} {a : Addr} {xs : List V} {Q : VK} (h : SqAt H a xs) (k : ∀ l, H l = none → Q (.ref l) (upd H l (.lst xs))) : rListU K [.ref a] H Q := by
  rcases h with h | h
  · exact ⟨a, xs, rfl, .inl (SqL.of h), k⟩
  · exact ⟨a, xs, rfl, .inr (SqT.of h), k⟩
theorem k_ixLT {K : PySem.W.Frag} {a : Addr} {xs : List V} {i : Int} {v : V} {Q : VK} (h : SqAt H a xs) (e : atI xs i = some v) (k : Q v H) : rIx K (.ref a) (.int i) H Q := by
  rcases h with h | h
  · exact k_ixL (SqL.of h) e k
  · exact k_ixT (SqT.of h) e k
end

/-! ### defs with defaults and keyword-only defaults -/
section
variable {K : PySem.W.Frag} {x qual : Str} {params : Arguments} {body : List Stmt} {scope : Scope} {dvs : List V} {kws : List (Str × V)} {f : Addr}
theorem funD_mkK {oc : Value} {od an : Option Addr} {osl : Array (Option Value)} {doc pm cdv ct : Value} {T D : Addr} {us : List Value} {dc : Value} {dd : Option Addr} {n : Nat} {ds : Array (Option Value)}
    (l : K.lookup f = some ⟨oc, od, .func (PySem.W.fnOf x qual params body scope (.ref T) (.ref D) doc pm an cdv ct), osl⟩) (c : PySem.W.codeIn K cdv qual = true) (k : PySem.W.keepIn K (.ref f) = true) (lt : K.lookup T = some ⟨dc, dd, .seq us.toArray n, ds⟩) (r : Vals dvs us) (ne : dvs ≠ [])
    (hk : ∀ q ∈ kws, ∃ u, PySem.W.nsIn K D q.1 = some (some u) ∧ RelV q.2 u) : L2.FunD K x qual params body scope dvs kws f (PySem.W.fnOf x qual params body scope (.ref T) (.ref D) doc pm an cdv ct) :=
  ⟨⟨oc, od, .ref T, .ref D, doc, pm, an, cdv, ct, osl, rfl, l, c, .inr ⟨ne, T, _, us, n, rfl, lt, rfl, r⟩, .inr ⟨D, rfl, hk⟩⟩, k⟩
end

/-! ### keyword-only defaults alone; o.m(k = v); a class's constant; a string times a number -/
section
variable {K : PySem.W.Frag} {x qual : Str} {params : Arguments} {body : List Stmt} {scope : Scope} {kws : List (Str × V)} {f : Addr}
theorem funD_mk0 {oc : Value} {od an : Option Addr} {osl : Array (Option Value)} {doc pm cdv ct : Value} {D : Addr}
    (l : K.lookup f = some ⟨oc, od, .func (PySem.W.fnOf x qual params body scope .none (.ref D) doc pm an cdv ct), osl⟩) (c : PySem.W.codeIn K cdv qual = true) (k : PySem.W.keepIn K (.ref f) = true)
    (hk : ∀ q ∈ kws, ∃ u, PySem.W.nsIn K D q.1 = some (some u) ∧ RelV q.2 u) : L2.FunD K x qual params body scope [] kws f (PySem.W.fnOf x qual params body scope .none (.ref D) doc pm an cdv ct) :=
  ⟨⟨oc, od, .none, .ref D, doc, pm, an, cdv, ct, osl, rfl, l, c, .inl ⟨rfl, rfl⟩, .inr ⟨D, rfl, hk⟩⟩, k⟩
end
section
variable {X : Cx} {CX : CXT} {k : Nat} {f C : Addr} {fd : FuncData} {ps ks : List Str} {sp : Sp} {E : XK} {o : Expr} {m : Str} {ta : TE} {kws : List Keyword} {tk : TA} {g : List Value → List Value → List Value} {gV : List V → List V → List V} {pos apos : Pos} {pl : Sem Bool}
/-- o.m(k = v, ..), keywords alone -/
def tMethK (C : Addr) (m : Str) (n : Nat) (sp : Sp) (gV : List V → List V → List V) (E : XK) (ta : TE) (tk : TA) : TE := fun σ H Q => ta σ H fun x H1 => ∃ a dx fs, x = V.ref a ∧ H1 a = some (.ins C dx fs) ∧ fs.lookup m = none ∧ tk σ H1 fun zs H2 => zs.length = n ∧ sp (gV [x] zs) H2 Q E
theorem pe_methKn (c : Cls X.K C) (hm : Meth X.K C m f) (F : FnOk X.prog X.w X.K X.mg X.base CX k f fd ps sp) (hr : Room k X.A) (hb : KBn X.K fd ps 1 ks g gV) (hx : Passes CX X E) (he : PE X o ta) (hkw : PK X kws tk)
    (ht : eval (.Call (.Attribute o m apos) [] kws pos) X.env = (do
      let ov ← eval o X.env
      standAt apos.atName
      let (f, first) ← holding [ov] (getMethod ov m pl)
      callWith pos f first (backTo pos (starEach [] X.env)) (backToKw pos (keywordEach kws X.env))) := by rfl)
    (hall : (backToKw pos (keywordEach kws X.env)).all (·.1.isSome) = true := by rfl) (hks : (backToKw pos (keywordEach kws X.env)).filterMap (·.1) = ks := by rfl)
    (hpl : ((backTo pos (starEach [] X.env)).any (·.1) || (backToKw pos (keywordEach kws X.env)).any (·.1.isNone)) = false := by rfl) :
    PE X (.Call (.Attribute o m apos) [] kws pos) (tMethK C m ks.length sp gV E ta tk) := by
  refine ⟨fun pins s σ H Q I h => ?_⟩
  refine PySem.W.methodCall_KW (pl := pl) (thn (he.run pins s σ H _ I h) fun u s1 ⟨x, H1, I1, rx, a, dx, fs, ex, ea, l, q⟩ => ?_) ht
  subst ex
  obtain rfl : u = Value.ref a := rx
  refine getmeth_ok I1 ea c hm l ?_
  refine PySem.W.callWith_KW0 (first := [.ref a]) (h₀ := X.base) I1.ok.mod.kin hm.kp hall ?_ hpl
  refine thn (hkw.run pos pins s1 σ H1 _ I1 q) fun ws s2 ⟨zs, H2, I2, rz, l2, q2⟩ => ⟨I2.kIn, ?_⟩
  rw [hks]
  exact run_fnN (us := [.ref a]) (vs := [.ref a]) F hr hb hx I2 (.cons rfl .nil) rz rfl l2 q2
theorem kbn_of {K : PySem.W.Frag} (h : KBinds K fd ps ks g gV) (n : Nat) (hl : ∀ us ws : List Value, us.length = n → ws.length = ks.length → (g us ws).length = ps.length) : KBn K fd ps n ks g gV := ⟨fun s us ws X h1 h2 => h.to s us ws X (hl us ws h1 h2), fun r1 r2 => h.rel r1 r2⟩
theorem k_methK {n : Nat} {σ : L2.St} {H : Hp} {Q : VK} (h : ta σ H fun x H1 => ∃ a dx fs, x = V.ref a ∧ H1 a = some (.ins C dx fs) ∧ fs.lookup m = none ∧ tk σ H1 fun zs H2 => zs.length = n ∧ sp (gV [x] zs) H2 Q E) : tMethK C m n sp gV E ta tk σ H Q := h
/-- C.f, a constant of the class -/
theorem kpe_cval (K : PySem.W.Frag) {e : Expr} {f : Str} (he : PE X e ta) (hK : X.K = K := by rfl) (hb : attributeBase e f X.env (eval e X.env) = eval e X.env := by rfl) : PE X (.Attribute e f pos) (ClX.tCVal K ta f) := by
  subst hK
  exact ClX.pe_cval he hb
theorem kps_fldaug (K : PySem.W.Frag) {e value : Expr} {f : Str} {tv : TE} {op : Operator} {rd : V → V → Hp → VK → Prop} {tpos : Pos} (ha : PE X e ta) (hv : PE X value tv) (hop : InOp X op rd) (hK : X.K = K := by rfl) : PS X (.AugAssign (.Attribute e f tpos) op value pos) (sFldAug K ta tv rd f) := by
  subst hK
  exact ps_fldaug ha hv hop
def repS (z : Str) (n : Nat) : Str := ⟨(List.replicate n z.cps).foldl (· ++ ·) #[]⟩
theorem repS_len (z : Str) : ∀ n : Nat, (repS z n).length = n * z.length := by
  have key : ∀ (n : Nat) (acc : Array Nat), ((List.replicate n z.cps).foldl (· ++ ·) acc).size = acc.size + n * z.length := by
    intro n
    induction n with
    | zero => intro acc; simp
    | succ n ih =>
      intro acc
      rw [List.replicate_succ, List.foldl_cons, ih, Array.size_append, Nat.succ_mul]
      show acc.size + z.length + n * z.length = acc.size + (n * z.length + z.length)
      omega
  intro n
  have := key n #[]
  rw [show (#[] : Array Nat).size = 0 from rfl, Nat.zero_add] at this
  exact this
theorem op_mulS : OpR X (binaryOp .Mult) (fun x y H Q => ∃ (z : Str) (n : Nat), x = .str z ∧ y = .int (n : Nat) ∧ 1 ≤ n ∧ n ≤ 1000 ∧ 0 < z.length ∧ z.length ≤ 1000 ∧ Q (.str (repS z n)) H) := by
  intro pins s σ H x y v u Q I rx ry h
  obtain ⟨z, n, rfl, rfl, h1, h2, h0, h3, q⟩ := h
  obtain ⟨t, rfl⟩ := rx
  obtain ⟨t', rfl⟩ := ry
  have hz : z.length * n ≤ 1000 * 1000 := Nat.mul_le_mul h3 h2
  refine PySem.P.mul_str ?_ ?_ ?_ ?_
  · rw [decide_eq_false (by omega), decide_eq_false (by omega)]
    rfl
  · intro _ _ hgt
    have hdiv : ((n : Int)) * ((2 ^ 63 - 1) / (n : Int)) ≥ (2 ^ 63 - 1) - (n : Int) + 1 := by
      have e := Int.mul_ediv_add_emod (2 ^ 63 - 1) (n : Int)
      have m := Int.emod_lt_of_pos (2 ^ 63 - 1) (show (0 : Int) < n by omega)
      omega
    have hq : (2 ^ 63 - 1) / (n : Int) ≥ 1000 := by
      refine Int.le_ediv_of_mul_le (by omega) ?_
      have : (1000 : Int) * n ≤ 1000 * 1000 := by omega
      omega
    omega
  · intro _ _
    rw [Int.toNat_natCast]
    unfold Builtin.Str.tooLong
    exact decide_eq_false (by have := small_size (n := z.length * n) (by omega); omega)
  · rw [if_neg (by omega), Int.toNat_natCast]
    by_cases hn : n = 1
    · subst hn
      have e : repS z 1 = z := by
        unfold repS
        simp
      rw [e] at q
      rw [if_pos (by rfl)]
      exact ⟨.str z, H, I, ⟨_, rfl⟩, q⟩
    · rw [if_neg (by simp; omega)]
      exact ⟨small_size (show (repS z n).length ≤ 1000000 by rw [repS_len, Nat.mul_comm]; omega), .str (repS z n), H, I.tok _, ⟨_, rfl⟩, q⟩
end

def P : Program := PySem.Challenge.pw_surelet_k14_whole_disk_cells
def top (i : Nat) : Stmt := PySem.Challenge.pw_surelet_k14_whole_disk_cells.main.body.getD i (.Pass ⟨0, 0, 0, 0⟩)
abbrev s_InvalidNumber_init : Stmt := (inClass (top 3) 0)
abbrev N_InvalidNumber_init : List Str := ["self", "value", "__class__"]
abbrev P_InvalidNumber_init : List Str := ["self", "value"]
theorem sc_InvalidNumber_init : NdefX.NScope N_InvalidNumber_init P_InvalidNumber_init ["__class__"] (defScope s_InvalidNumber_init) := NdefX.nscope_by (by decide +kernel)
abbrev s_is_number : Stmt := (top 7)
abbrev N_is_number : List Str := ["value", "least", "most"]
abbrev P_is_number : List Str := ["value", "least", "most"]
theorem sc_is_number : FnScope N_is_number P_is_number (defScope s_is_number) := ⟨rfl, rfl, rfl, by decide +kernel, rfl, by decide +kernel, by decide +kernel⟩
abbrev s_stretches_of : Stmt := (top 9)
abbrev N_stretches_of : List Str := ["text", "size", "at"]
abbrev P_stretches_of : List Str := ["text", "size"]
theorem sc_stretches_of : FnScope N_stretches_of P_stretches_of (defScope s_stretches_of) := ⟨rfl, rfl, rfl, by decide +kernel, rfl, by decide +kernel, by decide +kernel⟩
abbrev cs_stretches_of_1 : Scope := { kind := .function, names := [(".0", .local), ("at", .local), ("size", .free), ("text", .free)], isGenerator := false, isCoroutine := false, more := [] }
abbrev s_text_of : Stmt := (top 10)
abbrev N_text_of : List Str := ["changes", "parts", "key", "value"]
abbrev P_text_of : List Str := ["changes"]
theorem sc_text_of : FnScope N_text_of P_text_of (defScope s_text_of) := ⟨rfl, rfl, rfl, by decide +kernel, rfl, by decide +kernel, by decide +kernel⟩
abbrev s_words_of : Stmt := (top 11)
abbrev N_words_of : List Str := ["cell", "many"]
abbrev P_words_of : List Str := ["cell", "many"]
theorem sc_words_of : FnScope N_words_of P_words_of (defScope s_words_of) := ⟨rfl, rfl, rfl, by decide +kernel, rfl, by decide +kernel, by decide +kernel⟩
abbrev s_generation_of : Stmt := (top 12)
abbrev N_generation_of : List Str := ["cell", "words"]
abbrev P_generation_of : List Str := ["cell"]
theorem sc_generation_of : FnScope N_generation_of P_generation_of (defScope s_generation_of) := ⟨rfl, rfl, rfl, by decide +kernel, rfl, by decide +kernel, by decide +kernel⟩
abbrev s_Disk_init : Stmt := (inClass (top 13) 1)
abbrev N_Disk_init : List Str := ["self", "table", "rows", "area", "index", "text", "key"]
abbrev P_Disk_init : List Str := ["self", "table", "rows"]
theorem sc_Disk_init : FnScope N_Disk_init P_Disk_init (defScope s_Disk_init) := ⟨rfl, rfl, rfl, by decide +kernel, rfl, by decide +kernel, by decide +kernel⟩
abbrev cs_Disk_init_1 : Scope := { kind := .function, names := [(".0", .local), ("key", .local), ("table", .free)], isGenerator := false, isCoroutine := false, more := [] }
abbrev s_Disk_put : Stmt := (inClass (top 13) 2)
abbrev N_Disk_put : List Str := ["self", "area", "index", "text", "cells"]
abbrev P_Disk_put : List Str := ["self", "area", "index", "text"]
theorem sc_Disk_put : FnScope N_Disk_put P_Disk_put (defScope s_Disk_put) := ⟨rfl, rfl, rfl, by decide +kernel, rfl, by decide +kernel, by decide +kernel⟩
abbrev s_Disk_take_area : Stmt := (inClass (top 13) 3)
abbrev N_Disk_take_area : List Str := ["self", "area", "generation", "stretches", "at", "stretch"]
abbrev P_Disk_take_area : List Str := ["self", "area", "generation"]
theorem sc_Disk_take_area : FnScope N_Disk_take_area P_Disk_take_area (defScope s_Disk_take_area) := ⟨rfl, rfl, rfl, by decide +kernel, rfl, by decide +kernel, by decide +kernel⟩
abbrev s_Disk_greatest : Stmt := (inClass (top 13) 4)
abbrev N_Disk_greatest : List Str := ["self", "generations", "cells", "cell", "_", "text"]
abbrev P_Disk_greatest : List Str := ["self"]
theorem sc_Disk_greatest : FnScope N_Disk_greatest P_Disk_greatest (defScope s_Disk_greatest) := ⟨rfl, rfl, rfl, by decide +kernel, rfl, by decide +kernel, by decide +kernel⟩
abbrev cs_Disk_greatest_1 : Scope := { kind := .function, names := [(".0", .local), ("_", .local), ("text", .local), ("generation_of", .globalImplicit)], isGenerator := false, isCoroutine := false, more := [] }
abbrev s_Disk_write : Stmt := (inClass (top 13) 5)
abbrev N_Disk_write : List Str := ["self", "changes", "stretches", "index", "at", "stretch", "text", "key", "value"]
abbrev P_Disk_write : List Str := ["self", "changes"]
theorem sc_Disk_write : FnScope N_Disk_write P_Disk_write (defScope s_Disk_write) := ⟨rfl, rfl, rfl, by decide +kernel, rfl, by decide +kernel, by decide +kernel⟩
abbrev s_Disk_check : Stmt := (inClass (top 13) 6)
abbrev N_Disk_check : List Str := ["self", "synced", "heads", "area", "index", "_"]
abbrev P_Disk_check : List Str := ["self", "synced"]
theorem sc_Disk_check : FnScope N_Disk_check P_Disk_check (defScope s_Disk_check) := ⟨rfl, rfl, rfl, by decide +kernel, rfl, by decide +kernel, by decide +kernel⟩
abbrev cs_Disk_check_1 : Scope := { kind := .function, names := [(".0", .local), ("area", .local), ("index", .local), ("_", .local), ("self", .free)], isGenerator := false, isCoroutine := false, more := [] }
abbrev s_Disk_sync : Stmt := (inClass (top 13) 7)
abbrev N_Disk_sync : List Str := ["self", "area", "index", "text"]
abbrev P_Disk_sync : List Str := ["self"]
theorem sc_Disk_sync : FnScope N_Disk_sync P_Disk_sync (defScope s_Disk_sync) := ⟨rfl, rfl, rfl, by decide +kernel, rfl, by decide +kernel, by decide +kernel⟩
abbrev s_Disk_table : Stmt := (inClass (top 13) 10)
abbrev N_Disk_table : List Str := ["self", "key"]
abbrev P_Disk_table : List Str := ["self"]
theorem sc_Disk_table : FnScope N_Disk_table P_Disk_table (defScope s_Disk_table) := ⟨rfl, rfl, rfl, by decide +kernel, rfl, by decide +kernel, by decide +kernel⟩
abbrev cs_Disk_table_1 : Scope := { kind := .function, names := [(".0", .local), ("key", .local), ("self", .free)], isGenerator := false, isCoroutine := false, more := [] }
abbrev s_Disk_areas : Stmt := (inClass (top 13) 11)
abbrev N_Disk_areas : List Str := ["self", "cells"]
abbrev P_Disk_areas : List Str := ["self"]
theorem sc_Disk_areas : FnScope N_Disk_areas P_Disk_areas (defScope s_Disk_areas) := ⟨rfl, rfl, rfl, by decide +kernel, rfl, by decide +kernel, by decide +kernel⟩
abbrev cs_Disk_areas_1 : Scope := { kind := .function, names := [(".0", .local), ("cells", .local), ("list", .globalImplicit)], isGenerator := false, isCoroutine := false, more := [] }
abbrev s_Disk_unsynced : Stmt := (inClass (top 13) 12)
abbrev N_Disk_unsynced : List Str := ["self"]
abbrev P_Disk_unsynced : List Str := ["self"]
theorem sc_Disk_unsynced : FnScope N_Disk_unsynced P_Disk_unsynced (defScope s_Disk_unsynced) := ⟨rfl, rfl, rfl, by decide +kernel, rfl, by decide +kernel, by decide +kernel⟩
abbrev s_Disk_syncs : Stmt := (inClass (top 13) 13)
abbrev N_Disk_syncs : List Str := ["self"]
abbrev P_Disk_syncs : List Str := ["self"]
theorem sc_Disk_syncs : FnScope N_Disk_syncs P_Disk_syncs (defScope s_Disk_syncs) := ⟨rfl, rfl, rfl, by decide +kernel, rfl, by decide +kernel, by decide +kernel⟩
abbrev s_Disk_fallen : Stmt := (inClass (top 13) 14)
abbrev N_Disk_fallen : List Str := ["self"]
abbrev P_Disk_fallen : List Str := ["self"]
theorem sc_Disk_fallen : FnScope N_Disk_fallen P_Disk_fallen (defScope s_Disk_fallen) := ⟨rfl, rfl, rfl, by decide +kernel, rfl, by decide +kernel, by decide +kernel⟩
abbrev s_Disk_copy : Stmt := (inClass (top 13) 15)
abbrev N_Disk_copy : List Str := ["self", "twin", "key", "cells"]
abbrev P_Disk_copy : List Str := ["self"]
theorem sc_Disk_copy : FnScope N_Disk_copy P_Disk_copy (defScope s_Disk_copy) := ⟨rfl, rfl, rfl, by decide +kernel, rfl, by decide +kernel, by decide +kernel⟩
abbrev cs_Disk_copy_1 : Scope := { kind := .function, names := [(".0", .local), ("cells", .local), ("list", .globalImplicit)], isGenerator := false, isCoroutine := false, more := [] }
abbrev cs_Disk_copy_2 : Scope := { kind := .function, names := [(".0", .local), ("key", .local), ("self", .free)], isGenerator := false, isCoroutine := false, more := [] }
abbrev s_bag : Stmt := (top 15)
abbrev N_bag : List Str := ["_law_script", "_law_seed", "_law_item"]
abbrev P_bag : List Str := ["_law_script"]
theorem sc_bag : FnScope N_bag P_bag (defScope s_bag) := ⟨rfl, rfl, rfl, by decide +kernel, rfl, by decide +kernel, by decide +kernel⟩
abbrev s_draw : Stmt := (top 16)
abbrev N_draw : List Str := ["_law_bag_here", "_law_limit", "_law_item", "_law_digit"]
abbrev P_draw : List Str := ["_law_bag_here", "_law_limit"]
theorem sc_draw : FnScope N_draw P_draw (defScope s_draw) := ⟨rfl, rfl, rfl, by decide +kernel, rfl, by decide +kernel, by decide +kernel⟩
abbrev s_of : Stmt := (top 17)
abbrev N_of : List Str := ["_law_bag_here", "_law_things"]
abbrev P_of : List Str := ["_law_bag_here", "_law_things"]
theorem sc_of : FnScope N_of P_of (defScope s_of) := ⟨rfl, rfl, rfl, by decide +kernel, rfl, by decide +kernel, by decide +kernel⟩
abbrev s_like : Stmt := (top 18)
abbrev N_like : List Str := ["_law_told", "_law_due", "_law_a", "_law_b"]
abbrev P_like : List Str := ["_law_told", "_law_due"]
theorem sc_like : FnScope N_like P_like (defScope s_like) := ⟨rfl, rfl, rfl, by decide +kernel, rfl, by decide +kernel, by decide +kernel⟩
abbrev cs_like_1 : Scope := { kind := .function, names := [(".0", .local), ("_law_a", .local), ("_law_b", .local), ("_law_like", .globalImplicit)], isGenerator := false, isCoroutine := false, more := [] }
abbrev s_odd : Stmt := (top 19)
abbrev N_odd : List Str := ["_law_bag_here", "_law_pick", "_law_k"]
abbrev P_odd : List Str := ["_law_bag_here"]
theorem sc_odd : FnScope N_odd P_odd (defScope s_odd) := ⟨rfl, rfl, rfl, by decide +kernel, rfl, by decide +kernel, by decide +kernel⟩
abbrev cs_odd_1 : Scope := { kind := .function, names := [(".0", .local), ("_law_k", .local), ("_law_of", .globalImplicit), ("_law_bag_here", .free)], isGenerator := false, isCoroutine := false, more := [] }
abbrev cs_odd_2 : Scope := { kind := .function, names := [(".0", .local), ("_law_k", .local), ("_law_of", .globalImplicit), ("_law_bag_here", .free)], isGenerator := false, isCoroutine := false, more := [] }
abbrev s_cut : Stmt := (top 20)
abbrev N_cut : List Str := ["_law_text", "_law_k"]
abbrev P_cut : List Str := ["_law_text"]
theorem sc_cut : FnScope N_cut P_cut (defScope s_cut) := ⟨rfl, rfl, rfl, by decide +kernel, rfl, by decide +kernel, by decide +kernel⟩
abbrev cs_cut_1 : Scope := { kind := .function, names := [(".0", .local), ("_law_k", .local), ("_law_text", .free)], isGenerator := false, isCoroutine := false, more := [] }
abbrev s_written : Stmt := (top 21)
abbrev N_written : List Str := ["_law_shelf_here", "_law_key_here"]
abbrev P_written : List Str := ["_law_shelf_here"]
theorem sc_written : FnScope N_written P_written (defScope s_written) := ⟨rfl, rfl, rfl, by decide +kernel, rfl, by decide +kernel, by decide +kernel⟩
abbrev cs_written_1 : Scope := { kind := .function, names := [(".0", .local), ("_law_key_here", .local), ("_law_shelf_here", .free)], isGenerator := false, isCoroutine := false, more := [] }
abbrev s_recorded : Stmt := (top 22)
abbrev N_recorded : List Str := ["_law_pairs_here", "_law_key_here"]
abbrev P_recorded : List Str := ["_law_pairs_here"]
theorem sc_recorded : FnScope N_recorded P_recorded (defScope s_recorded) := ⟨rfl, rfl, rfl, by decide +kernel, rfl, by decide +kernel, by decide +kernel⟩
abbrev cs_recorded_1 : Scope := { kind := .function, names := [(".0", .local), ("_law_key_here", .local), ("_law_pairs_here", .free)], isGenerator := false, isCoroutine := false, more := [] }
abbrev s_new : Stmt := (top 23)
abbrev N_new : List Str := ["_law_shelf_here", "_law_most_here", "_law_parts", "_law_cells", "_law_k", "_law_own"]
abbrev P_new : List Str := ["_law_shelf_here", "_law_most_here"]
theorem sc_new : FnScope N_new P_new (defScope s_new) := ⟨rfl, rfl, rfl, by decide +kernel, rfl, by decide +kernel, by decide +kernel⟩
abbrev s_copy : Stmt := (top 24)
abbrev N_copy : List Str := ["_law_shelf_here", "_law_some", "_law_key_here"]
abbrev P_copy : List Str := ["_law_shelf_here"]
theorem sc_copy : FnScope N_copy P_copy (defScope s_copy) := ⟨rfl, rfl, rfl, by decide +kernel, rfl, by decide +kernel, by decide +kernel⟩
abbrev s_sync : Stmt := (top 25)
abbrev N_sync : List Str := ["_law_own", "_law_side", "_law_index", "_law_text", "_law_cells"]
abbrev P_sync : List Str := ["_law_own"]
theorem sc_sync : FnScope N_sync P_sync (defScope s_sync) := ⟨rfl, rfl, rfl, by decide +kernel, rfl, by decide +kernel, by decide +kernel⟩
abbrev s_check : Stmt := (top 26)
abbrev N_check : List Str := ["_law_own", "_law_hard", "_law_parts", "_law_side", "_law_gen", "_law_fresh", "_law_k"]
abbrev P_check : List Str := ["_law_own", "_law_hard"]
theorem sc_check : FnScope N_check P_check (defScope s_check) := ⟨rfl, rfl, rfl, by decide +kernel, rfl, by decide +kernel, by decide +kernel⟩
abbrev cs_check_1 : Scope := { kind := .function, names := [(".0", .local), ("_law_k", .local), ("_law_gen", .free), ("_law_parts", .free), ("_law_side", .free)], isGenerator := false, isCoroutine := false, more := [] }
abbrev s_write : Stmt := (top 27)
abbrev N_write : List Str := ["_law_own", "_law_pairs_here", "_law_parts", "_law_k", "_law_serial", "_law_text", "_law_shelf_here", "_law_key_here"]
abbrev P_write : List Str := ["_law_own", "_law_pairs_here"]
theorem sc_write : FnScope N_write P_write (defScope s_write) := ⟨rfl, rfl, rfl, by decide +kernel, rfl, by decide +kernel, by decide +kernel⟩
abbrev s_areas : Stmt := (top 28)
abbrev N_areas : List Str := ["_law_own", "_law_some", "_law_cells", "_law_k"]
abbrev P_areas : List Str := ["_law_own"]
theorem sc_areas : FnScope N_areas P_areas (defScope s_areas) := ⟨rfl, rfl, rfl, by decide +kernel, rfl, by decide +kernel, by decide +kernel⟩
abbrev cs_areas_1 : Scope := { kind := .function, names := [(".0", .local), ("_law_k", .local), ("_law_cells", .free)], isGenerator := false, isCoroutine := false, more := [] }
abbrev s_key : Stmt := (top 29)
abbrev N_key : List Str := ["_law_bag_here"]
abbrev P_key : List Str := ["_law_bag_here"]
theorem sc_key : FnScope N_key P_key (defScope s_key) := ⟨rfl, rfl, rfl, by decide +kernel, rfl, by decide +kernel, by decide +kernel⟩
abbrev s_long : Stmt := (top 30)
abbrev N_long : List Str := ["_law_bag_here", "_law_size", "_law_chunk", "_law_k"]
abbrev P_long : List Str := ["_law_bag_here", "_law_size"]
theorem sc_long : FnScope N_long P_long (defScope s_long) := ⟨rfl, rfl, rfl, by decide +kernel, rfl, by decide +kernel, by decide +kernel⟩
abbrev cs_long_1 : Scope := { kind := .function, names := [(".0", .local), ("_law_k", .local), ("_law_of", .globalImplicit), ("_law_bag_here", .free)], isGenerator := false, isCoroutine := false, more := [] }
abbrev s_value : Stmt := (top 31)
abbrev N_value : List Str := ["_law_bag_here", "_law_key_here", "_law_pick"]
abbrev P_value : List Str := ["_law_bag_here", "_law_key_here"]
theorem sc_value : FnScope N_value P_value (defScope s_value) := ⟨rfl, rfl, rfl, by decide +kernel, rfl, by decide +kernel, by decide +kernel⟩
abbrev s_changes : Stmt := (top 32)
abbrev N_changes : List Str := ["_law_bag_here", "_law_shelf_here", "_law_some", "_law_k", "_law_key_here", "_law_pick"]
abbrev P_changes : List Str := ["_law_bag_here", "_law_shelf_here"]
theorem sc_changes : FnScope N_changes P_changes (defScope s_changes) := ⟨rfl, rfl, rfl, by decide +kernel, rfl, by decide +kernel, by decide +kernel⟩
abbrev s_shelf : Stmt := (top 33)
abbrev N_shelf : List Str := ["_law_bag_here", "_law_some", "_law_k", "_law_key_here"]
abbrev P_shelf : List Str := ["_law_bag_here"]
theorem sc_shelf : FnScope N_shelf P_shelf (defScope s_shelf) := ⟨rfl, rfl, rfl, by decide +kernel, rfl, by decide +kernel, by decide +kernel⟩
abbrev s_most : Stmt := (top 34)
abbrev N_most : List Str := ["_law_bag_here"]
abbrev P_most : List Str := ["_law_bag_here"]
theorem sc_most : FnScope N_most P_most (defScope s_most) := ⟨rfl, rfl, rfl, by decide +kernel, rfl, by decide +kernel, by decide +kernel⟩
abbrev s_pairs : Stmt := (top 35)
abbrev N_pairs : List Str := ["_law_shelf_here", "_law_key_here"]
abbrev P_pairs : List Str := ["_law_shelf_here"]
theorem sc_pairs : FnScope N_pairs P_pairs (defScope s_pairs) := ⟨rfl, rfl, rfl, by decide +kernel, rfl, by decide +kernel, by decide +kernel⟩
abbrev cs_pairs_1 : Scope := { kind := .function, names := [(".0", .local), ("_law_key_here", .local), ("_law_shelf_here", .free)], isGenerator := false, isCoroutine := false, more := [] }
abbrev s_disk_so : Stmt := (top 36)
abbrev N_disk_so : List Str := ["_law_disk", "_law_own", "_law_told", "_law_key_here"]
abbrev P_disk_so : List Str := ["_law_disk", "_law_own"]
theorem sc_disk_so : FnScope N_disk_so P_disk_so (defScope s_disk_so) := ⟨rfl, rfl, rfl, by decide +kernel, rfl, by decide +kernel, by decide +kernel⟩
abbrev cs_disk_so_1 : Scope := { kind := .function, names := [(".0", .local), ("_law_key_here", .local), ("_law_told", .free)], isGenerator := false, isCoroutine := false, more := [] }
abbrev s_ask : Stmt := (top 37)
abbrev N_ask : List Str := ["_law_deed_here", "_law_told", "_law_fault", "error"]
abbrev P_ask : List Str := ["_law_deed_here"]
theorem sc_ask : FnScope N_ask P_ask (defScope s_ask) := ⟨rfl, rfl, rfl, by decide +kernel, rfl, by decide +kernel, by decide +kernel⟩
abbrev s_deed : Stmt := (top 38)
abbrev N_deed : List Str := ["_law_bag_here", "_law_disk", "_law_own", "_law_pick", "_law_pairs_here", "_law_given", "_law_told", "_law_kept"]
abbrev P_deed : List Str := ["_law_bag_here", "_law_disk", "_law_own"]
theorem sc_deed : FnScope N_deed P_deed (defScope s_deed) := ⟨rfl, rfl, rfl, by decide +kernel, rfl, by decide +kernel, by decide +kernel⟩
abbrev s_twin : Stmt := (top 39)
abbrev N_twin : List Str := ["_law_own", "_law_some", "_law_cells"]
abbrev P_twin : List Str := ["_law_own"]
theorem sc_twin : FnScope N_twin P_twin (defScope s_twin) := ⟨rfl, rfl, rfl, by decide +kernel, rfl, by decide +kernel, by decide +kernel⟩
abbrev cs_twin_1 : Scope := { kind := .function, names := [(".0", .local), ("_law_cells", .local), ("_law_copy", .globalImplicit)], isGenerator := false, isCoroutine := false, more := [] }
abbrev s_spoilt_so : Stmt := (top 40)
abbrev N_spoilt_so : List Str := ["_law_disk", "_law_own", "_law_some", "_law_more", "_law_shelf_here"]
abbrev P_spoilt_so : List Str := ["_law_disk", "_law_own"]
theorem sc_spoilt_so : FnScope N_spoilt_so P_spoilt_so (defScope s_spoilt_so) := ⟨rfl, rfl, rfl, by decide +kernel, rfl, by decide +kernel, by decide +kernel⟩
abbrev s_size_so : Stmt := (top 41)
abbrev N_size_so : List Str := ["_law_bag_here", "_law_told", "_law_fault", "_law_most_here"]
abbrev P_size_so : List Str := ["_law_bag_here"]
theorem sc_size_so : FnScope N_size_so P_size_so (defScope s_size_so) := ⟨rfl, rfl, rfl, by decide +kernel, rfl, by decide +kernel, by decide +kernel⟩
abbrev ls_size_so_1 : Scope := { kind := .function, names := [("_law_most_here", .free), ("Disk", .globalImplicit)], isGenerator := false, isCoroutine := false, more := [] }
abbrev s_full_so : Stmt := (top 42)
abbrev N_full_so : List Str := ["_law_bag_here", "_law_most_here", "_law_disk", "_law_own", "_law_first", "_law_k", "_law_key_here"]
abbrev P_full_so : List Str := ["_law_bag_here"]
theorem sc_full_so : FnScope N_full_so P_full_so (defScope s_full_so) := ⟨rfl, rfl, rfl, by decide +kernel, rfl, by decide +kernel, by decide +kernel⟩
abbrev s_law : Stmt := (top 43)
abbrev N_law : List Str := ["_law_script", "_law_bag_here", "_law_shelf_here", "_law_most_here", "_law_given", "_law_disk", "_law_own", "_law_pair", "_law_k", "_law_one"]
abbrev P_law : List Str := ["_law_script"]
theorem sc_law : FnScope N_law P_law (defScope s_law) := ⟨rfl, rfl, rfl, by decide +kernel, rfl, by decide +kernel, by decide +kernel⟩
theorem c_areas_law_cells : celB (defScope s_areas) "_law_cells" = true := by decide +kernel
theorem c_check_law_gen : celB (defScope s_check) "_law_gen" = true := by decide +kernel
theorem c_check_law_parts : celB (defScope s_check) "_law_parts" = true := by decide +kernel
theorem c_check_law_side : celB (defScope s_check) "_law_side" = true := by decide +kernel
theorem c_disk_so_law_told : celB (defScope s_disk_so) "_law_told" = true := by decide +kernel
theorem c_size_so_law_most_here : celB (defScope s_size_so) "_law_most_here" = true := by decide +kernel
theorem fr_InvalidNumber_init : (defScope s_InvalidNumber_init).names.lookup ("__class__" : Str) = some NameKind.free := by decide +kernel
theorem g_Disk_areas_1_list : (relS cs_Disk_areas_1 (defScope s_Disk_areas)).names.lookup ("list" : Str) = some NameKind.globalImplicit := by decide +kernel
theorem g_Disk_check_len : (defScope s_Disk_check).names.lookup ("len" : Str) = some NameKind.globalImplicit := by decide +kernel
theorem g_Disk_copy_1_list : (relS cs_Disk_copy_1 (defScope s_Disk_copy)).names.lookup ("list" : Str) = some NameKind.globalImplicit := by decide +kernel
theorem g_Disk_copy_Disk : (defScope s_Disk_copy).names.lookup ("Disk" : Str) = some NameKind.globalImplicit := by decide +kernel
theorem g_Disk_copy_list : (defScope s_Disk_copy).names.lookup ("list" : Str) = some NameKind.globalImplicit := by decide +kernel
theorem g_Disk_greatest_1_generation_of : (relS cs_Disk_greatest_1 (defScope s_Disk_greatest)).names.lookup ("generation_of" : Str) = some NameKind.globalImplicit := by decide +kernel
theorem g_Disk_greatest_generation_of : (defScope s_Disk_greatest).names.lookup ("generation_of" : Str) = some NameKind.globalImplicit := by decide +kernel
theorem g_Disk_greatest_max : (defScope s_Disk_greatest).names.lookup ("max" : Str) = some NameKind.globalImplicit := by decide +kernel
theorem g_Disk_init_InvalidNumber : (defScope s_Disk_init).names.lookup ("InvalidNumber" : Str) = some NameKind.globalImplicit := by decide +kernel
theorem g_Disk_init_is_number : (defScope s_Disk_init).names.lookup ("is_number" : Str) = some NameKind.globalImplicit := by decide +kernel
theorem g_Disk_put_len : (defScope s_Disk_put).names.lookup ("len" : Str) = some NameKind.globalImplicit := by decide +kernel
theorem g_Disk_sync_len : (defScope s_Disk_sync).names.lookup ("len" : Str) = some NameKind.globalImplicit := by decide +kernel
theorem g_Disk_table_sorted : (defScope s_Disk_table).names.lookup ("sorted" : Str) = some NameKind.globalImplicit := by decide +kernel
theorem g_Disk_take_area_Disk : (defScope s_Disk_take_area).names.lookup ("Disk" : Str) = some NameKind.globalImplicit := by decide +kernel
theorem g_Disk_take_area_enumerate : (defScope s_Disk_take_area).names.lookup ("enumerate" : Str) = some NameKind.globalImplicit := by decide +kernel
theorem g_Disk_take_area_len : (defScope s_Disk_take_area).names.lookup ("len" : Str) = some NameKind.globalImplicit := by decide +kernel
theorem g_Disk_take_area_stretches_of : (defScope s_Disk_take_area).names.lookup ("stretches_of" : Str) = some NameKind.globalImplicit := by decide +kernel
theorem g_Disk_take_area_text_of : (defScope s_Disk_take_area).names.lookup ("text_of" : Str) = some NameKind.globalImplicit := by decide +kernel
theorem g_Disk_unsynced_list : (defScope s_Disk_unsynced).names.lookup ("list" : Str) = some NameKind.globalImplicit := by decide +kernel
theorem g_Disk_write_Disk : (defScope s_Disk_write).names.lookup ("Disk" : Str) = some NameKind.globalImplicit := by decide +kernel
theorem g_Disk_write_enumerate : (defScope s_Disk_write).names.lookup ("enumerate" : Str) = some NameKind.globalImplicit := by decide +kernel
theorem g_Disk_write_len : (defScope s_Disk_write).names.lookup ("len" : Str) = some NameKind.globalImplicit := by decide +kernel
theorem g_Disk_write_stretches_of : (defScope s_Disk_write).names.lookup ("stretches_of" : Str) = some NameKind.globalImplicit := by decide +kernel
theorem g_Disk_write_text_of : (defScope s_Disk_write).names.lookup ("text_of" : Str) = some NameKind.globalImplicit := by decide +kernel
theorem g_InvalidNumber_init_super : (defScope s_InvalidNumber_init).names.lookup ("super" : Str) = some NameKind.globalImplicit := by decide +kernel
theorem g_areas_list : (defScope s_areas).names.lookup ("list" : Str) = some NameKind.globalImplicit := by decide +kernel
theorem g_areas_max : (defScope s_areas).names.lookup ("max" : Str) = some NameKind.globalImplicit := by decide +kernel
theorem g_areas_range : (defScope s_areas).names.lookup ("range" : Str) = some NameKind.globalImplicit := by decide +kernel
theorem g_ask_InvalidNumber : (defScope s_ask).names.lookup ("InvalidNumber" : Str) = some NameKind.globalImplicit := by decide +kernel
theorem g_ask_SureletError : (defScope s_ask).names.lookup ("SureletError" : Str) = some NameKind.globalImplicit := by decide +kernel
theorem g_bag_int : (defScope s_bag).names.lookup ("int" : Str) = some NameKind.globalImplicit := by decide +kernel
theorem g_bag_list : (defScope s_bag).names.lookup ("list" : Str) = some NameKind.globalImplicit := by decide +kernel
theorem g_changes_law_draw : (defScope s_changes).names.lookup ("_law_draw" : Str) = some NameKind.globalImplicit := by decide +kernel
theorem g_changes_law_key : (defScope s_changes).names.lookup ("_law_key" : Str) = some NameKind.globalImplicit := by decide +kernel
theorem g_changes_law_of : (defScope s_changes).names.lookup ("_law_of" : Str) = some NameKind.globalImplicit := by decide +kernel
theorem g_changes_law_value : (defScope s_changes).names.lookup ("_law_value" : Str) = some NameKind.globalImplicit := by decide +kernel
theorem g_changes_range : (defScope s_changes).names.lookup ("range" : Str) = some NameKind.globalImplicit := by decide +kernel
theorem g_check_law_cut : (defScope s_check).names.lookup ("_law_cut" : Str) = some NameKind.globalImplicit := by decide +kernel
theorem g_check_law_sync : (defScope s_check).names.lookup ("_law_sync" : Str) = some NameKind.globalImplicit := by decide +kernel
theorem g_check_law_written : (defScope s_check).names.lookup ("_law_written" : Str) = some NameKind.globalImplicit := by decide +kernel
theorem g_check_len : (defScope s_check).names.lookup ("len" : Str) = some NameKind.globalImplicit := by decide +kernel
theorem g_check_range : (defScope s_check).names.lookup ("range" : Str) = some NameKind.globalImplicit := by decide +kernel
theorem g_cut_len : (defScope s_cut).names.lookup ("len" : Str) = some NameKind.globalImplicit := by decide +kernel
theorem g_cut_range : (defScope s_cut).names.lookup ("range" : Str) = some NameKind.globalImplicit := by decide +kernel
theorem g_deed_law_changes : (defScope s_deed).names.lookup ("_law_changes" : Str) = some NameKind.globalImplicit := by decide +kernel
theorem g_deed_law_check : (defScope s_deed).names.lookup ("_law_check" : Str) = some NameKind.globalImplicit := by decide +kernel
theorem g_deed_law_copy : (defScope s_deed).names.lookup ("_law_copy" : Str) = some NameKind.globalImplicit := by decide +kernel
theorem g_deed_law_draw : (defScope s_deed).names.lookup ("_law_draw" : Str) = some NameKind.globalImplicit := by decide +kernel
theorem g_deed_law_like : (defScope s_deed).names.lookup ("_law_like" : Str) = some NameKind.globalImplicit := by decide +kernel
theorem g_deed_law_pairs : (defScope s_deed).names.lookup ("_law_pairs" : Str) = some NameKind.globalImplicit := by decide +kernel
theorem g_deed_law_sync : (defScope s_deed).names.lookup ("_law_sync" : Str) = some NameKind.globalImplicit := by decide +kernel
theorem g_deed_law_write : (defScope s_deed).names.lookup ("_law_write" : Str) = some NameKind.globalImplicit := by decide +kernel
theorem g_disk_so_dict : (defScope s_disk_so).names.lookup ("dict" : Str) = some NameKind.globalImplicit := by decide +kernel
theorem g_disk_so_isinstance : (defScope s_disk_so).names.lookup ("isinstance" : Str) = some NameKind.globalImplicit := by decide +kernel
theorem g_disk_so_law_areas : (defScope s_disk_so).names.lookup ("_law_areas" : Str) = some NameKind.globalImplicit := by decide +kernel
theorem g_disk_so_law_like : (defScope s_disk_so).names.lookup ("_law_like" : Str) = some NameKind.globalImplicit := by decide +kernel
theorem g_disk_so_law_pairs : (defScope s_disk_so).names.lookup ("_law_pairs" : Str) = some NameKind.globalImplicit := by decide +kernel
theorem g_disk_so_list : (defScope s_disk_so).names.lookup ("list" : Str) = some NameKind.globalImplicit := by decide +kernel
theorem g_draw_int : (defScope s_draw).names.lookup ("int" : Str) = some NameKind.globalImplicit := by decide +kernel
theorem g_draw_len : (defScope s_draw).names.lookup ("len" : Str) = some NameKind.globalImplicit := by decide +kernel
theorem g_full_so_Disk : (defScope s_full_so).names.lookup ("Disk" : Str) = some NameKind.globalImplicit := by decide +kernel
theorem g_full_so_law_disk_so : (defScope s_full_so).names.lookup ("_law_disk_so" : Str) = some NameKind.globalImplicit := by decide +kernel
theorem g_full_so_law_draw : (defScope s_full_so).names.lookup ("_law_draw" : Str) = some NameKind.globalImplicit := by decide +kernel
theorem g_full_so_law_new : (defScope s_full_so).names.lookup ("_law_new" : Str) = some NameKind.globalImplicit := by decide +kernel
theorem g_full_so_law_of : (defScope s_full_so).names.lookup ("_law_of" : Str) = some NameKind.globalImplicit := by decide +kernel
theorem g_full_so_law_write : (defScope s_full_so).names.lookup ("_law_write" : Str) = some NameKind.globalImplicit := by decide +kernel
theorem g_full_so_range : (defScope s_full_so).names.lookup ("range" : Str) = some NameKind.globalImplicit := by decide +kernel
theorem g_full_so_str : (defScope s_full_so).names.lookup ("str" : Str) = some NameKind.globalImplicit := by decide +kernel
theorem g_generation_of_int : (defScope s_generation_of).names.lookup ("int" : Str) = some NameKind.globalImplicit := by decide +kernel
theorem g_generation_of_len : (defScope s_generation_of).names.lookup ("len" : Str) = some NameKind.globalImplicit := by decide +kernel
theorem g_generation_of_words_of : (defScope s_generation_of).names.lookup ("words_of" : Str) = some NameKind.globalImplicit := by decide +kernel
theorem g_is_number_bool : (defScope s_is_number).names.lookup ("bool" : Str) = some NameKind.globalImplicit := by decide +kernel
theorem g_is_number_int : (defScope s_is_number).names.lookup ("int" : Str) = some NameKind.globalImplicit := by decide +kernel
theorem g_is_number_isinstance : (defScope s_is_number).names.lookup ("isinstance" : Str) = some NameKind.globalImplicit := by decide +kernel
theorem g_key_law_of : (defScope s_key).names.lookup ("_law_of" : Str) = some NameKind.globalImplicit := by decide +kernel
theorem g_law_Disk : (defScope s_law).names.lookup ("Disk" : Str) = some NameKind.globalImplicit := by decide +kernel
theorem g_law_law_bag : (defScope s_law).names.lookup ("_law_bag" : Str) = some NameKind.globalImplicit := by decide +kernel
theorem g_law_law_copy : (defScope s_law).names.lookup ("_law_copy" : Str) = some NameKind.globalImplicit := by decide +kernel
theorem g_law_law_deed : (defScope s_law).names.lookup ("_law_deed" : Str) = some NameKind.globalImplicit := by decide +kernel
theorem g_law_law_disk_so : (defScope s_law).names.lookup ("_law_disk_so" : Str) = some NameKind.globalImplicit := by decide +kernel
theorem g_law_law_draw : (defScope s_law).names.lookup ("_law_draw" : Str) = some NameKind.globalImplicit := by decide +kernel
theorem g_law_law_full_so : (defScope s_law).names.lookup ("_law_full_so" : Str) = some NameKind.globalImplicit := by decide +kernel
theorem g_law_law_like : (defScope s_law).names.lookup ("_law_like" : Str) = some NameKind.globalImplicit := by decide +kernel
theorem g_law_law_most : (defScope s_law).names.lookup ("_law_most" : Str) = some NameKind.globalImplicit := by decide +kernel
theorem g_law_law_new : (defScope s_law).names.lookup ("_law_new" : Str) = some NameKind.globalImplicit := by decide +kernel
theorem g_law_law_of : (defScope s_law).names.lookup ("_law_of" : Str) = some NameKind.globalImplicit := by decide +kernel
theorem g_law_law_shelf : (defScope s_law).names.lookup ("_law_shelf" : Str) = some NameKind.globalImplicit := by decide +kernel
theorem g_law_law_size_so : (defScope s_law).names.lookup ("_law_size_so" : Str) = some NameKind.globalImplicit := by decide +kernel
theorem g_law_law_spoilt_so : (defScope s_law).names.lookup ("_law_spoilt_so" : Str) = some NameKind.globalImplicit := by decide +kernel
theorem g_law_law_twin : (defScope s_law).names.lookup ("_law_twin" : Str) = some NameKind.globalImplicit := by decide +kernel
theorem g_law_len : (defScope s_law).names.lookup ("len" : Str) = some NameKind.globalImplicit := by decide +kernel
theorem g_law_range : (defScope s_law).names.lookup ("range" : Str) = some NameKind.globalImplicit := by decide +kernel
theorem g_like_1_law_like : (relS cs_like_1 (defScope s_like)).names.lookup ("_law_like" : Str) = some NameKind.globalImplicit := by decide +kernel
theorem g_like_all : (defScope s_like).names.lookup ("all" : Str) = some NameKind.globalImplicit := by decide +kernel
theorem g_like_bool : (defScope s_like).names.lookup ("bool" : Str) = some NameKind.globalImplicit := by decide +kernel
theorem g_like_dict : (defScope s_like).names.lookup ("dict" : Str) = some NameKind.globalImplicit := by decide +kernel
theorem g_like_int : (defScope s_like).names.lookup ("int" : Str) = some NameKind.globalImplicit := by decide +kernel
theorem g_like_isinstance : (defScope s_like).names.lookup ("isinstance" : Str) = some NameKind.globalImplicit := by decide +kernel
theorem g_like_len : (defScope s_like).names.lookup ("len" : Str) = some NameKind.globalImplicit := by decide +kernel
theorem g_like_list : (defScope s_like).names.lookup ("list" : Str) = some NameKind.globalImplicit := by decide +kernel
theorem g_like_str : (defScope s_like).names.lookup ("str" : Str) = some NameKind.globalImplicit := by decide +kernel
theorem g_like_tuple : (defScope s_like).names.lookup ("tuple" : Str) = some NameKind.globalImplicit := by decide +kernel
theorem g_like_zip : (defScope s_like).names.lookup ("zip" : Str) = some NameKind.globalImplicit := by decide +kernel
theorem g_long_1_law_of : (relS cs_long_1 (defScope s_long)).names.lookup ("_law_of" : Str) = some NameKind.globalImplicit := by decide +kernel
theorem g_long_range : (defScope s_long).names.lookup ("range" : Str) = some NameKind.globalImplicit := by decide +kernel
theorem g_most_law_of : (defScope s_most).names.lookup ("_law_of" : Str) = some NameKind.globalImplicit := by decide +kernel
theorem g_new_law_copy : (defScope s_new).names.lookup ("_law_copy" : Str) = some NameKind.globalImplicit := by decide +kernel
theorem g_new_law_cut : (defScope s_new).names.lookup ("_law_cut" : Str) = some NameKind.globalImplicit := by decide +kernel
theorem g_new_law_written : (defScope s_new).names.lookup ("_law_written" : Str) = some NameKind.globalImplicit := by decide +kernel
theorem g_new_len : (defScope s_new).names.lookup ("len" : Str) = some NameKind.globalImplicit := by decide +kernel
theorem g_new_range : (defScope s_new).names.lookup ("range" : Str) = some NameKind.globalImplicit := by decide +kernel
theorem g_odd_1_law_of : (relS cs_odd_1 (defScope s_odd)).names.lookup ("_law_of" : Str) = some NameKind.globalImplicit := by decide +kernel
theorem g_odd_2_law_of : (relS cs_odd_2 (defScope s_odd)).names.lookup ("_law_of" : Str) = some NameKind.globalImplicit := by decide +kernel
theorem g_odd_law_draw : (defScope s_odd).names.lookup ("_law_draw" : Str) = some NameKind.globalImplicit := by decide +kernel
theorem g_odd_law_of : (defScope s_odd).names.lookup ("_law_of" : Str) = some NameKind.globalImplicit := by decide +kernel
theorem g_odd_range : (defScope s_odd).names.lookup ("range" : Str) = some NameKind.globalImplicit := by decide +kernel
theorem g_odd_tuple : (defScope s_odd).names.lookup ("tuple" : Str) = some NameKind.globalImplicit := by decide +kernel
theorem g_of_law_draw : (defScope s_of).names.lookup ("_law_draw" : Str) = some NameKind.globalImplicit := by decide +kernel
theorem g_of_len : (defScope s_of).names.lookup ("len" : Str) = some NameKind.globalImplicit := by decide +kernel
theorem g_pairs_sorted : (defScope s_pairs).names.lookup ("sorted" : Str) = some NameKind.globalImplicit := by decide +kernel
theorem g_recorded_sorted : (defScope s_recorded).names.lookup ("sorted" : Str) = some NameKind.globalImplicit := by decide +kernel
theorem g_shelf_law_key : (defScope s_shelf).names.lookup ("_law_key" : Str) = some NameKind.globalImplicit := by decide +kernel
theorem g_shelf_law_of : (defScope s_shelf).names.lookup ("_law_of" : Str) = some NameKind.globalImplicit := by decide +kernel
theorem g_shelf_law_value : (defScope s_shelf).names.lookup ("_law_value" : Str) = some NameKind.globalImplicit := by decide +kernel
theorem g_shelf_range : (defScope s_shelf).names.lookup ("range" : Str) = some NameKind.globalImplicit := by decide +kernel
theorem g_size_so_L1_Disk : ls_size_so_1.names.lookup ("Disk" : Str) = some NameKind.globalImplicit := by decide +kernel
theorem g_size_so_bool : (defScope s_size_so).names.lookup ("bool" : Str) = some NameKind.globalImplicit := by decide +kernel
theorem g_size_so_int : (defScope s_size_so).names.lookup ("int" : Str) = some NameKind.globalImplicit := by decide +kernel
theorem g_size_so_isinstance : (defScope s_size_so).names.lookup ("isinstance" : Str) = some NameKind.globalImplicit := by decide +kernel
theorem g_size_so_law_ask : (defScope s_size_so).names.lookup ("_law_ask" : Str) = some NameKind.globalImplicit := by decide +kernel
theorem g_size_so_law_like : (defScope s_size_so).names.lookup ("_law_like" : Str) = some NameKind.globalImplicit := by decide +kernel
theorem g_size_so_law_odd : (defScope s_size_so).names.lookup ("_law_odd" : Str) = some NameKind.globalImplicit := by decide +kernel
theorem g_size_so_law_of : (defScope s_size_so).names.lookup ("_law_of" : Str) = some NameKind.globalImplicit := by decide +kernel
theorem g_spoilt_so_law_disk_so : (defScope s_spoilt_so).names.lookup ("_law_disk_so" : Str) = some NameKind.globalImplicit := by decide +kernel
theorem g_stretches_of_len : (defScope s_stretches_of).names.lookup ("len" : Str) = some NameKind.globalImplicit := by decide +kernel
theorem g_stretches_of_range : (defScope s_stretches_of).names.lookup ("range" : Str) = some NameKind.globalImplicit := by decide +kernel
theorem g_text_of_sorted : (defScope s_text_of).names.lookup ("sorted" : Str) = some NameKind.globalImplicit := by decide +kernel
theorem g_twin_1_law_copy : (relS cs_twin_1 (defScope s_twin)).names.lookup ("_law_copy" : Str) = some NameKind.globalImplicit := by decide +kernel
theorem g_twin_law_copy : (defScope s_twin).names.lookup ("_law_copy" : Str) = some NameKind.globalImplicit := by decide +kernel
theorem g_value_law_draw : (defScope s_value).names.lookup ("_law_draw" : Str) = some NameKind.globalImplicit := by decide +kernel
theorem g_value_law_long : (defScope s_value).names.lookup ("_law_long" : Str) = some NameKind.globalImplicit := by decide +kernel
theorem g_value_law_of : (defScope s_value).names.lookup ("_law_of" : Str) = some NameKind.globalImplicit := by decide +kernel
theorem g_value_len : (defScope s_value).names.lookup ("len" : Str) = some NameKind.globalImplicit := by decide +kernel
theorem g_write_law_check : (defScope s_write).names.lookup ("_law_check" : Str) = some NameKind.globalImplicit := by decide +kernel
theorem g_write_law_cut : (defScope s_write).names.lookup ("_law_cut" : Str) = some NameKind.globalImplicit := by decide +kernel
theorem g_write_law_recorded : (defScope s_write).names.lookup ("_law_recorded" : Str) = some NameKind.globalImplicit := by decide +kernel
theorem g_write_len : (defScope s_write).names.lookup ("len" : Str) = some NameKind.globalImplicit := by decide +kernel
theorem g_write_range : (defScope s_write).names.lookup ("range" : Str) = some NameKind.globalImplicit := by decide +kernel
theorem g_write_str : (defScope s_write).names.lookup ("str" : Str) = some NameKind.globalImplicit := by decide +kernel
theorem g_written_sorted : (defScope s_written).names.lookup ("sorted" : Str) = some NameKind.globalImplicit := by decide +kernel
theorem l_Disk_areas_1_cells : locB (relS cs_Disk_areas_1 (defScope s_Disk_areas)) "cells" = true := by decide +kernel
theorem l_Disk_check_1_ : locB (relS cs_Disk_check_1 (defScope s_Disk_check)) "_" = true := by decide +kernel
theorem l_Disk_check_1_area : locB (relS cs_Disk_check_1 (defScope s_Disk_check)) "area" = true := by decide +kernel
theorem l_Disk_check_1_index : locB (relS cs_Disk_check_1 (defScope s_Disk_check)) "index" = true := by decide +kernel
theorem l_Disk_check_heads : locB (defScope s_Disk_check) "heads" = true := by decide +kernel
theorem l_Disk_copy_1_cells : locB (relS cs_Disk_copy_1 (defScope s_Disk_copy)) "cells" = true := by decide +kernel
theorem l_Disk_copy_2_key : locB (relS cs_Disk_copy_2 (defScope s_Disk_copy)) "key" = true := by decide +kernel
theorem l_Disk_copy_twin : locB (defScope s_Disk_copy) "twin" = true := by decide +kernel
theorem l_Disk_greatest_1_ : locB (relS cs_Disk_greatest_1 (defScope s_Disk_greatest)) "_" = true := by decide +kernel
theorem l_Disk_greatest_1_text : locB (relS cs_Disk_greatest_1 (defScope s_Disk_greatest)) "text" = true := by decide +kernel
theorem l_Disk_greatest_cell : locB (defScope s_Disk_greatest) "cell" = true := by decide +kernel
theorem l_Disk_greatest_cells : locB (defScope s_Disk_greatest) "cells" = true := by decide +kernel
theorem l_Disk_greatest_generations : locB (defScope s_Disk_greatest) "generations" = true := by decide +kernel
theorem l_Disk_init_1_key : locB (relS cs_Disk_init_1 (defScope s_Disk_init)) "key" = true := by decide +kernel
theorem l_Disk_init_area : locB (defScope s_Disk_init) "area" = true := by decide +kernel
theorem l_Disk_init_index : locB (defScope s_Disk_init) "index" = true := by decide +kernel
theorem l_Disk_init_text : locB (defScope s_Disk_init) "text" = true := by decide +kernel
theorem l_Disk_put_cells : locB (defScope s_Disk_put) "cells" = true := by decide +kernel
theorem l_Disk_sync_area : locB (defScope s_Disk_sync) "area" = true := by decide +kernel
theorem l_Disk_sync_index : locB (defScope s_Disk_sync) "index" = true := by decide +kernel
theorem l_Disk_sync_text : locB (defScope s_Disk_sync) "text" = true := by decide +kernel
theorem l_Disk_table_1_key : locB (relS cs_Disk_table_1 (defScope s_Disk_table)) "key" = true := by decide +kernel
theorem l_Disk_take_area_at : locB (defScope s_Disk_take_area) "at" = true := by decide +kernel
theorem l_Disk_take_area_stretch : locB (defScope s_Disk_take_area) "stretch" = true := by decide +kernel
theorem l_Disk_take_area_stretches : locB (defScope s_Disk_take_area) "stretches" = true := by decide +kernel
theorem l_Disk_write_at : locB (defScope s_Disk_write) "at" = true := by decide +kernel
theorem l_Disk_write_index : locB (defScope s_Disk_write) "index" = true := by decide +kernel
theorem l_Disk_write_key : locB (defScope s_Disk_write) "key" = true := by decide +kernel
theorem l_Disk_write_stretch : locB (defScope s_Disk_write) "stretch" = true := by decide +kernel
theorem l_Disk_write_stretches : locB (defScope s_Disk_write) "stretches" = true := by decide +kernel
theorem l_Disk_write_text : locB (defScope s_Disk_write) "text" = true := by decide +kernel
theorem l_Disk_write_value : locB (defScope s_Disk_write) "value" = true := by decide +kernel
theorem l_InvalidNumber_init_self : locB (defScope s_InvalidNumber_init) "self" = true := by decide +kernel
theorem l_areas_1_law_k : locB (relS cs_areas_1 (defScope s_areas)) "_law_k" = true := by decide +kernel
theorem l_areas_law_some : locB (defScope s_areas) "_law_some" = true := by decide +kernel
theorem l_ask_error : locB (defScope s_ask) "error" = true := by decide +kernel
theorem l_ask_law_fault : locB (defScope s_ask) "_law_fault" = true := by decide +kernel
theorem l_ask_law_told : locB (defScope s_ask) "_law_told" = true := by decide +kernel
theorem l_bag_law_item : locB (defScope s_bag) "_law_item" = true := by decide +kernel
theorem l_bag_law_seed : locB (defScope s_bag) "_law_seed" = true := by decide +kernel
theorem l_changes_law_k : locB (defScope s_changes) "_law_k" = true := by decide +kernel
theorem l_changes_law_key_here : locB (defScope s_changes) "_law_key_here" = true := by decide +kernel
theorem l_changes_law_pick : locB (defScope s_changes) "_law_pick" = true := by decide +kernel
theorem l_changes_law_some : locB (defScope s_changes) "_law_some" = true := by decide +kernel
theorem l_check_1_law_k : locB (relS cs_check_1 (defScope s_check)) "_law_k" = true := by decide +kernel
theorem l_check_law_fresh : locB (defScope s_check) "_law_fresh" = true := by decide +kernel
theorem l_copy_law_key_here : locB (defScope s_copy) "_law_key_here" = true := by decide +kernel
theorem l_copy_law_some : locB (defScope s_copy) "_law_some" = true := by decide +kernel
theorem l_cut_1_law_k : locB (relS cs_cut_1 (defScope s_cut)) "_law_k" = true := by decide +kernel
theorem l_deed_law_given : locB (defScope s_deed) "_law_given" = true := by decide +kernel
theorem l_deed_law_kept : locB (defScope s_deed) "_law_kept" = true := by decide +kernel
theorem l_deed_law_pairs_here : locB (defScope s_deed) "_law_pairs_here" = true := by decide +kernel
theorem l_deed_law_pick : locB (defScope s_deed) "_law_pick" = true := by decide +kernel
theorem l_deed_law_told : locB (defScope s_deed) "_law_told" = true := by decide +kernel
theorem l_disk_so_1_law_key_here : locB (relS cs_disk_so_1 (defScope s_disk_so)) "_law_key_here" = true := by decide +kernel
theorem l_draw_law_digit : locB (defScope s_draw) "_law_digit" = true := by decide +kernel
theorem l_draw_law_item : locB (defScope s_draw) "_law_item" = true := by decide +kernel
theorem l_full_so_law_disk : locB (defScope s_full_so) "_law_disk" = true := by decide +kernel
theorem l_full_so_law_first : locB (defScope s_full_so) "_law_first" = true := by decide +kernel
theorem l_full_so_law_k : locB (defScope s_full_so) "_law_k" = true := by decide +kernel
theorem l_full_so_law_key_here : locB (defScope s_full_so) "_law_key_here" = true := by decide +kernel
theorem l_full_so_law_most_here : locB (defScope s_full_so) "_law_most_here" = true := by decide +kernel
theorem l_full_so_law_own : locB (defScope s_full_so) "_law_own" = true := by decide +kernel
theorem l_generation_of_words : locB (defScope s_generation_of) "words" = true := by decide +kernel
theorem l_law_law_bag_here : locB (defScope s_law) "_law_bag_here" = true := by decide +kernel
theorem l_law_law_disk : locB (defScope s_law) "_law_disk" = true := by decide +kernel
theorem l_law_law_given : locB (defScope s_law) "_law_given" = true := by decide +kernel
theorem l_law_law_k : locB (defScope s_law) "_law_k" = true := by decide +kernel
theorem l_law_law_most_here : locB (defScope s_law) "_law_most_here" = true := by decide +kernel
theorem l_law_law_one : locB (defScope s_law) "_law_one" = true := by decide +kernel
theorem l_law_law_own : locB (defScope s_law) "_law_own" = true := by decide +kernel
theorem l_law_law_pair : locB (defScope s_law) "_law_pair" = true := by decide +kernel
theorem l_law_law_shelf_here : locB (defScope s_law) "_law_shelf_here" = true := by decide +kernel
theorem l_like_1_law_a : locB (relS cs_like_1 (defScope s_like)) "_law_a" = true := by decide +kernel
theorem l_like_1_law_b : locB (relS cs_like_1 (defScope s_like)) "_law_b" = true := by decide +kernel
theorem l_long_1_law_k : locB (relS cs_long_1 (defScope s_long)) "_law_k" = true := by decide +kernel
theorem l_long_law_chunk : locB (defScope s_long) "_law_chunk" = true := by decide +kernel
theorem l_new_law_cells : locB (defScope s_new) "_law_cells" = true := by decide +kernel
theorem l_new_law_k : locB (defScope s_new) "_law_k" = true := by decide +kernel
theorem l_new_law_own : locB (defScope s_new) "_law_own" = true := by decide +kernel
theorem l_new_law_parts : locB (defScope s_new) "_law_parts" = true := by decide +kernel
theorem l_odd_1_law_k : locB (relS cs_odd_1 (defScope s_odd)) "_law_k" = true := by decide +kernel
theorem l_odd_2_law_k : locB (relS cs_odd_2 (defScope s_odd)) "_law_k" = true := by decide +kernel
theorem l_odd_law_pick : locB (defScope s_odd) "_law_pick" = true := by decide +kernel
theorem l_pairs_1_law_key_here : locB (relS cs_pairs_1 (defScope s_pairs)) "_law_key_here" = true := by decide +kernel
theorem l_recorded_1_law_key_here : locB (relS cs_recorded_1 (defScope s_recorded)) "_law_key_here" = true := by decide +kernel
theorem l_shelf_law_k : locB (defScope s_shelf) "_law_k" = true := by decide +kernel
theorem l_shelf_law_key_here : locB (defScope s_shelf) "_law_key_here" = true := by decide +kernel
theorem l_shelf_law_some : locB (defScope s_shelf) "_law_some" = true := by decide +kernel
theorem l_size_so_law_fault : locB (defScope s_size_so) "_law_fault" = true := by decide +kernel
theorem l_size_so_law_told : locB (defScope s_size_so) "_law_told" = true := by decide +kernel
theorem l_spoilt_so_law_more : locB (defScope s_spoilt_so) "_law_more" = true := by decide +kernel
theorem l_spoilt_so_law_shelf_here : locB (defScope s_spoilt_so) "_law_shelf_here" = true := by decide +kernel
theorem l_spoilt_so_law_some : locB (defScope s_spoilt_so) "_law_some" = true := by decide +kernel
theorem l_stretches_of_1_at : locB (relS cs_stretches_of_1 (defScope s_stretches_of)) "at" = true := by decide +kernel
theorem l_sync_law_cells : locB (defScope s_sync) "_law_cells" = true := by decide +kernel
theorem l_sync_law_index : locB (defScope s_sync) "_law_index" = true := by decide +kernel
theorem l_sync_law_side : locB (defScope s_sync) "_law_side" = true := by decide +kernel
theorem l_sync_law_text : locB (defScope s_sync) "_law_text" = true := by decide +kernel
theorem l_text_of_key : locB (defScope s_text_of) "key" = true := by decide +kernel
theorem l_text_of_parts : locB (defScope s_text_of) "parts" = true := by decide +kernel
theorem l_text_of_value : locB (defScope s_text_of) "value" = true := by decide +kernel
theorem l_twin_1_law_cells : locB (relS cs_twin_1 (defScope s_twin)) "_law_cells" = true := by decide +kernel
theorem l_twin_law_some : locB (defScope s_twin) "_law_some" = true := by decide +kernel
theorem l_value_law_pick : locB (defScope s_value) "_law_pick" = true := by decide +kernel
theorem l_write_law_k : locB (defScope s_write) "_law_k" = true := by decide +kernel
theorem l_write_law_key_here : locB (defScope s_write) "_law_key_here" = true := by decide +kernel
theorem l_write_law_parts : locB (defScope s_write) "_law_parts" = true := by decide +kernel
theorem l_write_law_serial : locB (defScope s_write) "_law_serial" = true := by decide +kernel
theorem l_write_law_shelf_here : locB (defScope s_write) "_law_shelf_here" = true := by decide +kernel
theorem l_write_law_text : locB (defScope s_write) "_law_text" = true := by decide +kernel
theorem l_written_1_law_key_here : locB (relS cs_written_1 (defScope s_written)) "_law_key_here" = true := by decide +kernel
theorem lam_size_so_ls_size_so_1 : LamX.lamSB (defScope s_size_so) ls_size_so_1 = true := by decide +kernel
theorem ok_cs_Disk_areas_1 : BlkOk N_Disk_areas (defScope s_Disk_areas) cs_Disk_areas_1 [("cells", 1)] := blkOk_by (by decide +kernel)
theorem ok_cs_Disk_check_1 : BlkOk N_Disk_check (defScope s_Disk_check) cs_Disk_check_1 [("area", 3), ("index", 4), ("_", 5)] := blkOk_by (by decide +kernel)
theorem ok_cs_Disk_copy_1 : BlkOk N_Disk_copy (defScope s_Disk_copy) cs_Disk_copy_1 [("cells", 3)] := blkOk_by (by decide +kernel)
theorem ok_cs_Disk_copy_2 : BlkOk N_Disk_copy (defScope s_Disk_copy) cs_Disk_copy_2 [("key", 2)] := blkOk_by (by decide +kernel)
theorem ok_cs_Disk_greatest_1 : BlkOk N_Disk_greatest (defScope s_Disk_greatest) cs_Disk_greatest_1 [("_", 4), ("text", 5)] := blkOk_by (by decide +kernel)
theorem ok_cs_Disk_init_1 : BlkOk N_Disk_init (defScope s_Disk_init) cs_Disk_init_1 [("key", 6)] := blkOk_by (by decide +kernel)
theorem ok_cs_Disk_table_1 : BlkOk N_Disk_table (defScope s_Disk_table) cs_Disk_table_1 [("key", 1)] := blkOk_by (by decide +kernel)
theorem ok_cs_areas_1 : BlkOk N_areas (defScope s_areas) cs_areas_1 [("_law_k", 3)] := blkOk_by (by decide +kernel)
theorem ok_cs_check_1 : BlkOk N_check (defScope s_check) cs_check_1 [("_law_k", 6)] := blkOk_by (by decide +kernel)
theorem ok_cs_cut_1 : BlkOk N_cut (defScope s_cut) cs_cut_1 [("_law_k", 1)] := blkOk_by (by decide +kernel)
theorem ok_cs_disk_so_1 : BlkOk N_disk_so (defScope s_disk_so) cs_disk_so_1 [("_law_key_here", 3)] := blkOk_by (by decide +kernel)
theorem ok_cs_like_1 : BlkOk N_like (defScope s_like) cs_like_1 [("_law_a", 2), ("_law_b", 3)] := blkOk_by (by decide +kernel)
theorem ok_cs_long_1 : BlkOk N_long (defScope s_long) cs_long_1 [("_law_k", 3)] := blkOk_by (by decide +kernel)
theorem ok_cs_odd_1 : BlkOk N_odd (defScope s_odd) cs_odd_1 [("_law_k", 2)] := blkOk_by (by decide +kernel)
theorem ok_cs_odd_2 : BlkOk N_odd (defScope s_odd) cs_odd_2 [("_law_k", 2)] := blkOk_by (by decide +kernel)
theorem ok_cs_pairs_1 : BlkOk N_pairs (defScope s_pairs) cs_pairs_1 [("_law_key_here", 1)] := blkOk_by (by decide +kernel)
theorem ok_cs_recorded_1 : BlkOk N_recorded (defScope s_recorded) cs_recorded_1 [("_law_key_here", 1)] := blkOk_by (by decide +kernel)
theorem ok_cs_stretches_of_1 : BlkOk N_stretches_of (defScope s_stretches_of) cs_stretches_of_1 [("at", 2)] := blkOk_by (by decide +kernel)
theorem ok_cs_twin_1 : BlkOk N_twin (defScope s_twin) cs_twin_1 [("_law_cells", 2)] := blkOk_by (by decide +kernel)
theorem ok_cs_written_1 : BlkOk N_written (defScope s_written) cs_written_1 [("_law_key_here", 1)] := blkOk_by (by decide +kernel)
theorem v_Disk_areas_1_cells : visB (relS cs_Disk_areas_1 (defScope s_Disk_areas)) "cells" = true := by decide +kernel
theorem v_Disk_areas_self : visB (defScope s_Disk_areas) "self" = true := by decide +kernel
theorem v_Disk_check_1_area : visB (relS cs_Disk_check_1 (defScope s_Disk_check)) "area" = true := by decide +kernel
theorem v_Disk_check_1_index : visB (relS cs_Disk_check_1 (defScope s_Disk_check)) "index" = true := by decide +kernel
theorem v_Disk_check_1_self : visB (relS cs_Disk_check_1 (defScope s_Disk_check)) "self" = true := by decide +kernel
theorem v_Disk_check_heads : visB (defScope s_Disk_check) "heads" = true := by decide +kernel
theorem v_Disk_check_self : visB (defScope s_Disk_check) "self" = true := by decide +kernel
theorem v_Disk_check_synced : visB (defScope s_Disk_check) "synced" = true := by decide +kernel
theorem v_Disk_copy_1_cells : visB (relS cs_Disk_copy_1 (defScope s_Disk_copy)) "cells" = true := by decide +kernel
theorem v_Disk_copy_2_key : visB (relS cs_Disk_copy_2 (defScope s_Disk_copy)) "key" = true := by decide +kernel
theorem v_Disk_copy_2_self : visB (relS cs_Disk_copy_2 (defScope s_Disk_copy)) "self" = true := by decide +kernel
theorem v_Disk_copy_self : visB (defScope s_Disk_copy) "self" = true := by decide +kernel
theorem v_Disk_copy_twin : visB (defScope s_Disk_copy) "twin" = true := by decide +kernel
theorem v_Disk_fallen_self : visB (defScope s_Disk_fallen) "self" = true := by decide +kernel
theorem v_Disk_greatest_1_text : visB (relS cs_Disk_greatest_1 (defScope s_Disk_greatest)) "text" = true := by decide +kernel
theorem v_Disk_greatest_cell : visB (defScope s_Disk_greatest) "cell" = true := by decide +kernel
theorem v_Disk_greatest_cells : visB (defScope s_Disk_greatest) "cells" = true := by decide +kernel
theorem v_Disk_greatest_generations : visB (defScope s_Disk_greatest) "generations" = true := by decide +kernel
theorem v_Disk_greatest_self : visB (defScope s_Disk_greatest) "self" = true := by decide +kernel
theorem v_Disk_init_1_key : visB (relS cs_Disk_init_1 (defScope s_Disk_init)) "key" = true := by decide +kernel
theorem v_Disk_init_1_table : visB (relS cs_Disk_init_1 (defScope s_Disk_init)) "table" = true := by decide +kernel
theorem v_Disk_init_area : visB (defScope s_Disk_init) "area" = true := by decide +kernel
theorem v_Disk_init_index : visB (defScope s_Disk_init) "index" = true := by decide +kernel
theorem v_Disk_init_rows : visB (defScope s_Disk_init) "rows" = true := by decide +kernel
theorem v_Disk_init_self : visB (defScope s_Disk_init) "self" = true := by decide +kernel
theorem v_Disk_init_table : visB (defScope s_Disk_init) "table" = true := by decide +kernel
theorem v_Disk_init_text : visB (defScope s_Disk_init) "text" = true := by decide +kernel
theorem v_Disk_put_area : visB (defScope s_Disk_put) "area" = true := by decide +kernel
theorem v_Disk_put_cells : visB (defScope s_Disk_put) "cells" = true := by decide +kernel
theorem v_Disk_put_index : visB (defScope s_Disk_put) "index" = true := by decide +kernel
theorem v_Disk_put_self : visB (defScope s_Disk_put) "self" = true := by decide +kernel
theorem v_Disk_put_text : visB (defScope s_Disk_put) "text" = true := by decide +kernel
theorem v_Disk_sync_area : visB (defScope s_Disk_sync) "area" = true := by decide +kernel
theorem v_Disk_sync_index : visB (defScope s_Disk_sync) "index" = true := by decide +kernel
theorem v_Disk_sync_self : visB (defScope s_Disk_sync) "self" = true := by decide +kernel
theorem v_Disk_sync_text : visB (defScope s_Disk_sync) "text" = true := by decide +kernel
theorem v_Disk_syncs_self : visB (defScope s_Disk_syncs) "self" = true := by decide +kernel
theorem v_Disk_table_1_key : visB (relS cs_Disk_table_1 (defScope s_Disk_table)) "key" = true := by decide +kernel
theorem v_Disk_table_1_self : visB (relS cs_Disk_table_1 (defScope s_Disk_table)) "self" = true := by decide +kernel
theorem v_Disk_table_self : visB (defScope s_Disk_table) "self" = true := by decide +kernel
theorem v_Disk_take_area_area : visB (defScope s_Disk_take_area) "area" = true := by decide +kernel
theorem v_Disk_take_area_at : visB (defScope s_Disk_take_area) "at" = true := by decide +kernel
theorem v_Disk_take_area_generation : visB (defScope s_Disk_take_area) "generation" = true := by decide +kernel
theorem v_Disk_take_area_self : visB (defScope s_Disk_take_area) "self" = true := by decide +kernel
theorem v_Disk_take_area_stretch : visB (defScope s_Disk_take_area) "stretch" = true := by decide +kernel
theorem v_Disk_take_area_stretches : visB (defScope s_Disk_take_area) "stretches" = true := by decide +kernel
theorem v_Disk_unsynced_self : visB (defScope s_Disk_unsynced) "self" = true := by decide +kernel
theorem v_Disk_write_at : visB (defScope s_Disk_write) "at" = true := by decide +kernel
theorem v_Disk_write_changes : visB (defScope s_Disk_write) "changes" = true := by decide +kernel
theorem v_Disk_write_index : visB (defScope s_Disk_write) "index" = true := by decide +kernel
theorem v_Disk_write_key : visB (defScope s_Disk_write) "key" = true := by decide +kernel
theorem v_Disk_write_self : visB (defScope s_Disk_write) "self" = true := by decide +kernel
theorem v_Disk_write_stretch : visB (defScope s_Disk_write) "stretch" = true := by decide +kernel
theorem v_Disk_write_stretches : visB (defScope s_Disk_write) "stretches" = true := by decide +kernel
theorem v_Disk_write_text : visB (defScope s_Disk_write) "text" = true := by decide +kernel
theorem v_Disk_write_value : visB (defScope s_Disk_write) "value" = true := by decide +kernel
theorem v_InvalidNumber_init_self : visB (defScope s_InvalidNumber_init) "self" = true := by decide +kernel
theorem v_InvalidNumber_init_value : visB (defScope s_InvalidNumber_init) "value" = true := by decide +kernel
theorem v_areas_1_law_cells : visB (relS cs_areas_1 (defScope s_areas)) "_law_cells" = true := by decide +kernel
theorem v_areas_1_law_k : visB (relS cs_areas_1 (defScope s_areas)) "_law_k" = true := by decide +kernel
theorem v_areas_law_cells : visB (defScope s_areas) "_law_cells" = true := by decide +kernel
theorem v_areas_law_own : visB (defScope s_areas) "_law_own" = true := by decide +kernel
theorem v_areas_law_some : visB (defScope s_areas) "_law_some" = true := by decide +kernel
theorem v_ask_error : visB (defScope s_ask) "error" = true := by decide +kernel
theorem v_ask_law_fault : visB (defScope s_ask) "_law_fault" = true := by decide +kernel
theorem v_ask_law_told : visB (defScope s_ask) "_law_told" = true := by decide +kernel
theorem v_bag_law_item : visB (defScope s_bag) "_law_item" = true := by decide +kernel
theorem v_bag_law_script : visB (defScope s_bag) "_law_script" = true := by decide +kernel
theorem v_bag_law_seed : visB (defScope s_bag) "_law_seed" = true := by decide +kernel
theorem v_changes_law_bag_here : visB (defScope s_changes) "_law_bag_here" = true := by decide +kernel
theorem v_changes_law_key_here : visB (defScope s_changes) "_law_key_here" = true := by decide +kernel
theorem v_changes_law_pick : visB (defScope s_changes) "_law_pick" = true := by decide +kernel
theorem v_changes_law_shelf_here : visB (defScope s_changes) "_law_shelf_here" = true := by decide +kernel
theorem v_changes_law_some : visB (defScope s_changes) "_law_some" = true := by decide +kernel
theorem v_check_1_law_gen : visB (relS cs_check_1 (defScope s_check)) "_law_gen" = true := by decide +kernel
theorem v_check_1_law_k : visB (relS cs_check_1 (defScope s_check)) "_law_k" = true := by decide +kernel
theorem v_check_1_law_parts : visB (relS cs_check_1 (defScope s_check)) "_law_parts" = true := by decide +kernel
theorem v_check_1_law_side : visB (relS cs_check_1 (defScope s_check)) "_law_side" = true := by decide +kernel
theorem v_check_law_fresh : visB (defScope s_check) "_law_fresh" = true := by decide +kernel
theorem v_check_law_gen : visB (defScope s_check) "_law_gen" = true := by decide +kernel
theorem v_check_law_hard : visB (defScope s_check) "_law_hard" = true := by decide +kernel
theorem v_check_law_own : visB (defScope s_check) "_law_own" = true := by decide +kernel
theorem v_check_law_parts : visB (defScope s_check) "_law_parts" = true := by decide +kernel
theorem v_check_law_side : visB (defScope s_check) "_law_side" = true := by decide +kernel
theorem v_copy_law_key_here : visB (defScope s_copy) "_law_key_here" = true := by decide +kernel
theorem v_copy_law_shelf_here : visB (defScope s_copy) "_law_shelf_here" = true := by decide +kernel
theorem v_copy_law_some : visB (defScope s_copy) "_law_some" = true := by decide +kernel
theorem v_cut_1_law_k : visB (relS cs_cut_1 (defScope s_cut)) "_law_k" = true := by decide +kernel
theorem v_cut_1_law_text : visB (relS cs_cut_1 (defScope s_cut)) "_law_text" = true := by decide +kernel
theorem v_cut_law_text : visB (defScope s_cut) "_law_text" = true := by decide +kernel
theorem v_deed_law_bag_here : visB (defScope s_deed) "_law_bag_here" = true := by decide +kernel
theorem v_deed_law_disk : visB (defScope s_deed) "_law_disk" = true := by decide +kernel
theorem v_deed_law_given : visB (defScope s_deed) "_law_given" = true := by decide +kernel
theorem v_deed_law_kept : visB (defScope s_deed) "_law_kept" = true := by decide +kernel
theorem v_deed_law_own : visB (defScope s_deed) "_law_own" = true := by decide +kernel
theorem v_deed_law_pairs_here : visB (defScope s_deed) "_law_pairs_here" = true := by decide +kernel
theorem v_deed_law_pick : visB (defScope s_deed) "_law_pick" = true := by decide +kernel
theorem v_deed_law_told : visB (defScope s_deed) "_law_told" = true := by decide +kernel
theorem v_disk_so_1_law_key_here : visB (relS cs_disk_so_1 (defScope s_disk_so)) "_law_key_here" = true := by decide +kernel
theorem v_disk_so_1_law_told : visB (relS cs_disk_so_1 (defScope s_disk_so)) "_law_told" = true := by decide +kernel
theorem v_disk_so_law_disk : visB (defScope s_disk_so) "_law_disk" = true := by decide +kernel
theorem v_disk_so_law_own : visB (defScope s_disk_so) "_law_own" = true := by decide +kernel
theorem v_disk_so_law_told : visB (defScope s_disk_so) "_law_told" = true := by decide +kernel
theorem v_draw_law_bag_here : visB (defScope s_draw) "_law_bag_here" = true := by decide +kernel
theorem v_draw_law_digit : visB (defScope s_draw) "_law_digit" = true := by decide +kernel
theorem v_draw_law_item : visB (defScope s_draw) "_law_item" = true := by decide +kernel
theorem v_draw_law_limit : visB (defScope s_draw) "_law_limit" = true := by decide +kernel
theorem v_full_so_law_bag_here : visB (defScope s_full_so) "_law_bag_here" = true := by decide +kernel
theorem v_full_so_law_disk : visB (defScope s_full_so) "_law_disk" = true := by decide +kernel
theorem v_full_so_law_first : visB (defScope s_full_so) "_law_first" = true := by decide +kernel
theorem v_full_so_law_k : visB (defScope s_full_so) "_law_k" = true := by decide +kernel
theorem v_full_so_law_key_here : visB (defScope s_full_so) "_law_key_here" = true := by decide +kernel
theorem v_full_so_law_most_here : visB (defScope s_full_so) "_law_most_here" = true := by decide +kernel
theorem v_full_so_law_own : visB (defScope s_full_so) "_law_own" = true := by decide +kernel
theorem v_generation_of_cell : visB (defScope s_generation_of) "cell" = true := by decide +kernel
theorem v_generation_of_words : visB (defScope s_generation_of) "words" = true := by decide +kernel
theorem v_is_number_least : visB (defScope s_is_number) "least" = true := by decide +kernel
theorem v_is_number_most : visB (defScope s_is_number) "most" = true := by decide +kernel
theorem v_is_number_value : visB (defScope s_is_number) "value" = true := by decide +kernel
theorem v_key_law_bag_here : visB (defScope s_key) "_law_bag_here" = true := by decide +kernel
theorem v_law_law_bag_here : visB (defScope s_law) "_law_bag_here" = true := by decide +kernel
theorem v_law_law_disk : visB (defScope s_law) "_law_disk" = true := by decide +kernel
theorem v_law_law_given : visB (defScope s_law) "_law_given" = true := by decide +kernel
theorem v_law_law_most_here : visB (defScope s_law) "_law_most_here" = true := by decide +kernel
theorem v_law_law_one : visB (defScope s_law) "_law_one" = true := by decide +kernel
theorem v_law_law_own : visB (defScope s_law) "_law_own" = true := by decide +kernel
theorem v_law_law_pair : visB (defScope s_law) "_law_pair" = true := by decide +kernel
theorem v_law_law_script : visB (defScope s_law) "_law_script" = true := by decide +kernel
theorem v_law_law_shelf_here : visB (defScope s_law) "_law_shelf_here" = true := by decide +kernel
theorem v_like_1_law_a : visB (relS cs_like_1 (defScope s_like)) "_law_a" = true := by decide +kernel
theorem v_like_1_law_b : visB (relS cs_like_1 (defScope s_like)) "_law_b" = true := by decide +kernel
theorem v_like_law_due : visB (defScope s_like) "_law_due" = true := by decide +kernel
theorem v_like_law_told : visB (defScope s_like) "_law_told" = true := by decide +kernel
theorem v_long_1_law_bag_here : visB (relS cs_long_1 (defScope s_long)) "_law_bag_here" = true := by decide +kernel
theorem v_long_law_chunk : visB (defScope s_long) "_law_chunk" = true := by decide +kernel
theorem v_long_law_size : visB (defScope s_long) "_law_size" = true := by decide +kernel
theorem v_most_law_bag_here : visB (defScope s_most) "_law_bag_here" = true := by decide +kernel
theorem v_new_law_cells : visB (defScope s_new) "_law_cells" = true := by decide +kernel
theorem v_new_law_k : visB (defScope s_new) "_law_k" = true := by decide +kernel
theorem v_new_law_most_here : visB (defScope s_new) "_law_most_here" = true := by decide +kernel
theorem v_new_law_own : visB (defScope s_new) "_law_own" = true := by decide +kernel
theorem v_new_law_parts : visB (defScope s_new) "_law_parts" = true := by decide +kernel
theorem v_new_law_shelf_here : visB (defScope s_new) "_law_shelf_here" = true := by decide +kernel
theorem v_odd_1_law_bag_here : visB (relS cs_odd_1 (defScope s_odd)) "_law_bag_here" = true := by decide +kernel
theorem v_odd_2_law_bag_here : visB (relS cs_odd_2 (defScope s_odd)) "_law_bag_here" = true := by decide +kernel
theorem v_odd_law_bag_here : visB (defScope s_odd) "_law_bag_here" = true := by decide +kernel
theorem v_odd_law_pick : visB (defScope s_odd) "_law_pick" = true := by decide +kernel
theorem v_of_law_bag_here : visB (defScope s_of) "_law_bag_here" = true := by decide +kernel
theorem v_of_law_things : visB (defScope s_of) "_law_things" = true := by decide +kernel
theorem v_pairs_1_law_key_here : visB (relS cs_pairs_1 (defScope s_pairs)) "_law_key_here" = true := by decide +kernel
theorem v_pairs_1_law_shelf_here : visB (relS cs_pairs_1 (defScope s_pairs)) "_law_shelf_here" = true := by decide +kernel
theorem v_pairs_law_shelf_here : visB (defScope s_pairs) "_law_shelf_here" = true := by decide +kernel
theorem v_recorded_1_law_key_here : visB (relS cs_recorded_1 (defScope s_recorded)) "_law_key_here" = true := by decide +kernel
theorem v_recorded_1_law_pairs_here : visB (relS cs_recorded_1 (defScope s_recorded)) "_law_pairs_here" = true := by decide +kernel
theorem v_recorded_law_pairs_here : visB (defScope s_recorded) "_law_pairs_here" = true := by decide +kernel
theorem v_shelf_law_bag_here : visB (defScope s_shelf) "_law_bag_here" = true := by decide +kernel
theorem v_shelf_law_key_here : visB (defScope s_shelf) "_law_key_here" = true := by decide +kernel
theorem v_shelf_law_some : visB (defScope s_shelf) "_law_some" = true := by decide +kernel
theorem v_size_so_L1_law_most_here : visB ls_size_so_1 "_law_most_here" = true := by decide +kernel
theorem v_size_so_law_bag_here : visB (defScope s_size_so) "_law_bag_here" = true := by decide +kernel
theorem v_size_so_law_fault : visB (defScope s_size_so) "_law_fault" = true := by decide +kernel
theorem v_size_so_law_most_here : visB (defScope s_size_so) "_law_most_here" = true := by decide +kernel
theorem v_size_so_law_told : visB (defScope s_size_so) "_law_told" = true := by decide +kernel
theorem v_spoilt_so_law_disk : visB (defScope s_spoilt_so) "_law_disk" = true := by decide +kernel
theorem v_spoilt_so_law_more : visB (defScope s_spoilt_so) "_law_more" = true := by decide +kernel
theorem v_spoilt_so_law_own : visB (defScope s_spoilt_so) "_law_own" = true := by decide +kernel
theorem v_spoilt_so_law_shelf_here : visB (defScope s_spoilt_so) "_law_shelf_here" = true := by decide +kernel
theorem v_spoilt_so_law_some : visB (defScope s_spoilt_so) "_law_some" = true := by decide +kernel
theorem v_stretches_of_1_at : visB (relS cs_stretches_of_1 (defScope s_stretches_of)) "at" = true := by decide +kernel
theorem v_stretches_of_1_size : visB (relS cs_stretches_of_1 (defScope s_stretches_of)) "size" = true := by decide +kernel
theorem v_stretches_of_1_text : visB (relS cs_stretches_of_1 (defScope s_stretches_of)) "text" = true := by decide +kernel
theorem v_stretches_of_size : visB (defScope s_stretches_of) "size" = true := by decide +kernel
theorem v_stretches_of_text : visB (defScope s_stretches_of) "text" = true := by decide +kernel
theorem v_sync_law_cells : visB (defScope s_sync) "_law_cells" = true := by decide +kernel
theorem v_sync_law_index : visB (defScope s_sync) "_law_index" = true := by decide +kernel
theorem v_sync_law_own : visB (defScope s_sync) "_law_own" = true := by decide +kernel
theorem v_sync_law_side : visB (defScope s_sync) "_law_side" = true := by decide +kernel
theorem v_sync_law_text : visB (defScope s_sync) "_law_text" = true := by decide +kernel
theorem v_text_of_changes : visB (defScope s_text_of) "changes" = true := by decide +kernel
theorem v_text_of_key : visB (defScope s_text_of) "key" = true := by decide +kernel
theorem v_text_of_parts : visB (defScope s_text_of) "parts" = true := by decide +kernel
theorem v_text_of_value : visB (defScope s_text_of) "value" = true := by decide +kernel
theorem v_twin_1_law_cells : visB (relS cs_twin_1 (defScope s_twin)) "_law_cells" = true := by decide +kernel
theorem v_twin_law_own : visB (defScope s_twin) "_law_own" = true := by decide +kernel
theorem v_twin_law_some : visB (defScope s_twin) "_law_some" = true := by decide +kernel
theorem v_value_law_bag_here : visB (defScope s_value) "_law_bag_here" = true := by decide +kernel
theorem v_value_law_key_here : visB (defScope s_value) "_law_key_here" = true := by decide +kernel
theorem v_value_law_pick : visB (defScope s_value) "_law_pick" = true := by decide +kernel
theorem v_words_of_cell : visB (defScope s_words_of) "cell" = true := by decide +kernel
theorem v_words_of_many : visB (defScope s_words_of) "many" = true := by decide +kernel
theorem v_write_law_k : visB (defScope s_write) "_law_k" = true := by decide +kernel
theorem v_write_law_key_here : visB (defScope s_write) "_law_key_here" = true := by decide +kernel
theorem v_write_law_own : visB (defScope s_write) "_law_own" = true := by decide +kernel
theorem v_write_law_pairs_here : visB (defScope s_write) "_law_pairs_here" = true := by decide +kernel
theorem v_write_law_parts : visB (defScope s_write) "_law_parts" = true := by decide +kernel
theorem v_write_law_serial : visB (defScope s_write) "_law_serial" = true := by decide +kernel
theorem v_write_law_shelf_here : visB (defScope s_write) "_law_shelf_here" = true := by decide +kernel
theorem v_write_law_text : visB (defScope s_write) "_law_text" = true := by decide +kernel
theorem v_written_1_law_key_here : visB (relS cs_written_1 (defScope s_written)) "_law_key_here" = true := by decide +kernel
theorem v_written_1_law_shelf_here : visB (relS cs_written_1 (defScope s_written)) "_law_shelf_here" = true := by decide +kernel
theorem v_written_law_shelf_here : visB (defScope s_written) "_law_shelf_here" = true := by decide +kernel
theorem vl_ask : Vis (defScope s_ask) "_law_deed_here" := (visB_ok (by decide +kernel)).1
structure Tx (K : PySem.W.Frag) (mg : Str → Option Value) where
  C_SureletError : Addr
  m_SureletError : mg "SureletError" = some (.ref C_SureletError)
  C_InvalidNumber : Addr
  m_InvalidNumber : mg "InvalidNumber" = some (.ref C_InvalidNumber)
  C_Disk : Addr
  m_Disk : mg "Disk" = some (.ref C_Disk)
  a_InvalidNumber_init : Addr
  cc_InvalidNumber_init : Addr
  cda_InvalidNumber_init : Addr
  fd_InvalidNumber_init : FuncData
  F_InvalidNumber_init : FunS K "__init__" "InvalidNumber.__init__" s_InvalidNumber_init a_InvalidNumber_init fd_InvalidNumber_init cc_InvalidNumber_init cda_InvalidNumber_init
  b_InvalidNumber_init : Binds K fd_InvalidNumber_init P_InvalidNumber_init []
  ce_InvalidNumber_init : ∃ cl cld csl, K.lookup cc_InvalidNumber_init = some ⟨cl, cld, .cell (some (.ref C_InvalidNumber)), csl⟩
  sd_InvalidNumber_init : SupDef P K mg a_InvalidNumber_init C_InvalidNumber cc_InvalidNumber_init cda_InvalidNumber_init "self"
  k_InvalidNumber_init : PySem.W.keepIn K (.ref a_InvalidNumber_init) = true
  a_is_number : Addr
  fd_is_number : FuncData
  F_is_number : Fun K "is_number" "is_number" s_is_number a_is_number fd_is_number
  b_is_number : Binds K fd_is_number P_is_number []
  k_is_number : PySem.W.keepIn K (.ref a_is_number) = true
  m_is_number : mg "is_number" = some (.ref a_is_number)
  a_stretches_of : Addr
  fd_stretches_of : FuncData
  F_stretches_of : Fun K "stretches_of" "stretches_of" s_stretches_of a_stretches_of fd_stretches_of
  b_stretches_of : Binds K fd_stretches_of P_stretches_of []
  k_stretches_of : PySem.W.keepIn K (.ref a_stretches_of) = true
  m_stretches_of : mg "stretches_of" = some (.ref a_stretches_of)
  a_text_of : Addr
  fd_text_of : FuncData
  F_text_of : Fun K "text_of" "text_of" s_text_of a_text_of fd_text_of
  b_text_of : Binds K fd_text_of P_text_of []
  k_text_of : PySem.W.keepIn K (.ref a_text_of) = true
  m_text_of : mg "text_of" = some (.ref a_text_of)
  a_words_of : Addr
  fd_words_of : FuncData
  F_words_of : Fun K "words_of" "words_of" s_words_of a_words_of fd_words_of
  b_words_of : Binds K fd_words_of P_words_of []
  k_words_of : PySem.W.keepIn K (.ref a_words_of) = true
  m_words_of : mg "words_of" = some (.ref a_words_of)
  a_generation_of : Addr
  fd_generation_of : FuncData
  F_generation_of : Fun K "generation_of" "generation_of" s_generation_of a_generation_of fd_generation_of
  b_generation_of : Binds K fd_generation_of P_generation_of []
  k_generation_of : PySem.W.keepIn K (.ref a_generation_of) = true
  m_generation_of : mg "generation_of" = some (.ref a_generation_of)
  a_Disk_init : Addr
  fd_Disk_init : FuncData
  F_Disk_init : L2.FunD K "__init__" "Disk.__init__" (defArgs s_Disk_init) (defBody s_Disk_init) (defScope s_Disk_init) [] [(("rows" : Str), .int 16)] a_Disk_init fd_Disk_init
  k_Disk_init : PySem.W.keepIn K (.ref a_Disk_init) = true
  a_Disk_put : Addr
  fd_Disk_put : FuncData
  F_Disk_put : Fun K "_put" "Disk._put" s_Disk_put a_Disk_put fd_Disk_put
  b_Disk_put : Binds K fd_Disk_put P_Disk_put []
  k_Disk_put : PySem.W.keepIn K (.ref a_Disk_put) = true
  a_Disk_take_area : Addr
  fd_Disk_take_area : FuncData
  F_Disk_take_area : Fun K "_take_area" "Disk._take_area" s_Disk_take_area a_Disk_take_area fd_Disk_take_area
  b_Disk_take_area : Binds K fd_Disk_take_area P_Disk_take_area []
  k_Disk_take_area : PySem.W.keepIn K (.ref a_Disk_take_area) = true
  a_Disk_greatest : Addr
  fd_Disk_greatest : FuncData
  F_Disk_greatest : Fun K "_greatest" "Disk._greatest" s_Disk_greatest a_Disk_greatest fd_Disk_greatest
  b_Disk_greatest : Binds K fd_Disk_greatest P_Disk_greatest []
  k_Disk_greatest : PySem.W.keepIn K (.ref a_Disk_greatest) = true
  a_Disk_write : Addr
  fd_Disk_write : FuncData
  F_Disk_write : Fun K "write" "Disk.write" s_Disk_write a_Disk_write fd_Disk_write
  b_Disk_write : Binds K fd_Disk_write P_Disk_write []
  k_Disk_write : PySem.W.keepIn K (.ref a_Disk_write) = true
  a_Disk_check : Addr
  fd_Disk_check : FuncData
  F_Disk_check : L2.FunD K "check" "Disk.check" (defArgs s_Disk_check) (defBody s_Disk_check) (defScope s_Disk_check) [] [(("synced" : Str), .bl true)] a_Disk_check fd_Disk_check
  k_Disk_check : PySem.W.keepIn K (.ref a_Disk_check) = true
  a_Disk_sync : Addr
  fd_Disk_sync : FuncData
  F_Disk_sync : Fun K "sync" "Disk.sync" s_Disk_sync a_Disk_sync fd_Disk_sync
  b_Disk_sync : Binds K fd_Disk_sync P_Disk_sync []
  k_Disk_sync : PySem.W.keepIn K (.ref a_Disk_sync) = true
  a_Disk_table : Addr
  fd_Disk_table : FuncData
  F_Disk_table : Fun K "table" "Disk.table" s_Disk_table a_Disk_table fd_Disk_table
  b_Disk_table : Binds K fd_Disk_table P_Disk_table []
  k_Disk_table : PySem.W.keepIn K (.ref a_Disk_table) = true
  a_Disk_areas : Addr
  fd_Disk_areas : FuncData
  F_Disk_areas : Fun K "areas" "Disk.areas" s_Disk_areas a_Disk_areas fd_Disk_areas
  b_Disk_areas : Binds K fd_Disk_areas P_Disk_areas []
  k_Disk_areas : PySem.W.keepIn K (.ref a_Disk_areas) = true
  a_Disk_unsynced : Addr
  fd_Disk_unsynced : FuncData
  F_Disk_unsynced : Fun K "unsynced" "Disk.unsynced" s_Disk_unsynced a_Disk_unsynced fd_Disk_unsynced
  b_Disk_unsynced : Binds K fd_Disk_unsynced P_Disk_unsynced []
  k_Disk_unsynced : PySem.W.keepIn K (.ref a_Disk_unsynced) = true
  a_Disk_syncs : Addr
  a_Disk_syncs_p : Addr
  fd_Disk_syncs : FuncData
  F_Disk_syncs : Fun K "syncs" "Disk.syncs" s_Disk_syncs a_Disk_syncs fd_Disk_syncs
  b_Disk_syncs : Binds K fd_Disk_syncs P_Disk_syncs []
  k_Disk_syncs : PySem.W.keepIn K (.ref a_Disk_syncs) = true
  a_Disk_fallen : Addr
  a_Disk_fallen_p : Addr
  fd_Disk_fallen : FuncData
  F_Disk_fallen : Fun K "fallen" "Disk.fallen" s_Disk_fallen a_Disk_fallen fd_Disk_fallen
  b_Disk_fallen : Binds K fd_Disk_fallen P_Disk_fallen []
  k_Disk_fallen : PySem.W.keepIn K (.ref a_Disk_fallen) = true
  a_Disk_copy : Addr
  fd_Disk_copy : FuncData
  F_Disk_copy : Fun K "copy" "Disk.copy" s_Disk_copy a_Disk_copy fd_Disk_copy
  b_Disk_copy : Binds K fd_Disk_copy P_Disk_copy []
  k_Disk_copy : PySem.W.keepIn K (.ref a_Disk_copy) = true
  a_bag : Addr
  fd_bag : FuncData
  F_bag : Fun K "_law_bag" "_law_bag" s_bag a_bag fd_bag
  b_bag : Binds K fd_bag P_bag []
  k_bag : PySem.W.keepIn K (.ref a_bag) = true
  m_bag : mg "_law_bag" = some (.ref a_bag)
  a_draw : Addr
  fd_draw : FuncData
  F_draw : Fun K "_law_draw" "_law_draw" s_draw a_draw fd_draw
  b_draw : Binds K fd_draw P_draw []
  k_draw : PySem.W.keepIn K (.ref a_draw) = true
  m_draw : mg "_law_draw" = some (.ref a_draw)
  a_of : Addr
  fd_of : FuncData
  F_of : Fun K "_law_of" "_law_of" s_of a_of fd_of
  b_of : Binds K fd_of P_of []
  k_of : PySem.W.keepIn K (.ref a_of) = true
  m_of : mg "_law_of" = some (.ref a_of)
  a_like : Addr
  fd_like : FuncData
  F_like : Fun K "_law_like" "_law_like" s_like a_like fd_like
  b_like : Binds K fd_like P_like []
  k_like : PySem.W.keepIn K (.ref a_like) = true
  m_like : mg "_law_like" = some (.ref a_like)
  a_odd : Addr
  fd_odd : FuncData
  F_odd : Fun K "_law_odd" "_law_odd" s_odd a_odd fd_odd
  b_odd : Binds K fd_odd P_odd []
  k_odd : PySem.W.keepIn K (.ref a_odd) = true
  m_odd : mg "_law_odd" = some (.ref a_odd)
  a_cut : Addr
  fd_cut : FuncData
  F_cut : Fun K "_law_cut" "_law_cut" s_cut a_cut fd_cut
  b_cut : Binds K fd_cut P_cut []
  k_cut : PySem.W.keepIn K (.ref a_cut) = true
  m_cut : mg "_law_cut" = some (.ref a_cut)
  a_written : Addr
  fd_written : FuncData
  F_written : Fun K "_law_written" "_law_written" s_written a_written fd_written
  b_written : Binds K fd_written P_written []
  k_written : PySem.W.keepIn K (.ref a_written) = true
  m_written : mg "_law_written" = some (.ref a_written)
  a_recorded : Addr
  fd_recorded : FuncData
  F_recorded : Fun K "_law_recorded" "_law_recorded" s_recorded a_recorded fd_recorded
  b_recorded : Binds K fd_recorded P_recorded []
  k_recorded : PySem.W.keepIn K (.ref a_recorded) = true
  m_recorded : mg "_law_recorded" = some (.ref a_recorded)
  a_new : Addr
  fd_new : FuncData
  F_new : Fun K "_law_new" "_law_new" s_new a_new fd_new
  b_new : Binds K fd_new P_new []
  k_new : PySem.W.keepIn K (.ref a_new) = true
  m_new : mg "_law_new" = some (.ref a_new)
  a_copy : Addr
  fd_copy : FuncData
  F_copy : Fun K "_law_copy" "_law_copy" s_copy a_copy fd_copy
  b_copy : Binds K fd_copy P_copy []
  k_copy : PySem.W.keepIn K (.ref a_copy) = true
  m_copy : mg "_law_copy" = some (.ref a_copy)
  a_sync : Addr
  fd_sync : FuncData
  F_sync : Fun K "_law_sync" "_law_sync" s_sync a_sync fd_sync
  b_sync : Binds K fd_sync P_sync []
  k_sync : PySem.W.keepIn K (.ref a_sync) = true
  m_sync : mg "_law_sync" = some (.ref a_sync)
  a_check : Addr
  fd_check : FuncData
  F_check : Fun K "_law_check" "_law_check" s_check a_check fd_check
  b_check : Binds K fd_check P_check []
  k_check : PySem.W.keepIn K (.ref a_check) = true
  m_check : mg "_law_check" = some (.ref a_check)
  a_write : Addr
  fd_write : FuncData
  F_write : Fun K "_law_write" "_law_write" s_write a_write fd_write
  b_write : Binds K fd_write P_write []
  k_write : PySem.W.keepIn K (.ref a_write) = true
  m_write : mg "_law_write" = some (.ref a_write)
  a_areas : Addr
  fd_areas : FuncData
  F_areas : Fun K "_law_areas" "_law_areas" s_areas a_areas fd_areas
  b_areas : Binds K fd_areas P_areas []
  k_areas : PySem.W.keepIn K (.ref a_areas) = true
  m_areas : mg "_law_areas" = some (.ref a_areas)
  a_key : Addr
  fd_key : FuncData
  F_key : Fun K "_law_key" "_law_key" s_key a_key fd_key
  b_key : Binds K fd_key P_key []
  k_key : PySem.W.keepIn K (.ref a_key) = true
  m_key : mg "_law_key" = some (.ref a_key)
  a_long : Addr
  fd_long : FuncData
  F_long : Fun K "_law_long" "_law_long" s_long a_long fd_long
  b_long : Binds K fd_long P_long []
  k_long : PySem.W.keepIn K (.ref a_long) = true
  m_long : mg "_law_long" = some (.ref a_long)
  a_value : Addr
  fd_value : FuncData
  F_value : Fun K "_law_value" "_law_value" s_value a_value fd_value
  b_value : Binds K fd_value P_value []
  k_value : PySem.W.keepIn K (.ref a_value) = true
  m_value : mg "_law_value" = some (.ref a_value)
  a_changes : Addr
  fd_changes : FuncData
  F_changes : Fun K "_law_changes" "_law_changes" s_changes a_changes fd_changes
  b_changes : Binds K fd_changes P_changes []
  k_changes : PySem.W.keepIn K (.ref a_changes) = true
  m_changes : mg "_law_changes" = some (.ref a_changes)
  a_shelf : Addr
  fd_shelf : FuncData
  F_shelf : Fun K "_law_shelf" "_law_shelf" s_shelf a_shelf fd_shelf
  b_shelf : Binds K fd_shelf P_shelf []
  k_shelf : PySem.W.keepIn K (.ref a_shelf) = true
  m_shelf : mg "_law_shelf" = some (.ref a_shelf)
  a_most : Addr
  fd_most : FuncData
  F_most : Fun K "_law_most" "_law_most" s_most a_most fd_most
  b_most : Binds K fd_most P_most []
  k_most : PySem.W.keepIn K (.ref a_most) = true
  m_most : mg "_law_most" = some (.ref a_most)
  a_pairs : Addr
  fd_pairs : FuncData
  F_pairs : Fun K "_law_pairs" "_law_pairs" s_pairs a_pairs fd_pairs
  b_pairs : Binds K fd_pairs P_pairs []
  k_pairs : PySem.W.keepIn K (.ref a_pairs) = true
  m_pairs : mg "_law_pairs" = some (.ref a_pairs)
  a_disk_so : Addr
  fd_disk_so : FuncData
  F_disk_so : Fun K "_law_disk_so" "_law_disk_so" s_disk_so a_disk_so fd_disk_so
  b_disk_so : Binds K fd_disk_so P_disk_so []
  k_disk_so : PySem.W.keepIn K (.ref a_disk_so) = true
  m_disk_so : mg "_law_disk_so" = some (.ref a_disk_so)
  a_ask : Addr
  fd_ask : FuncData
  F_ask : Fun K "_law_ask" "_law_ask" s_ask a_ask fd_ask
  b_ask : Binds K fd_ask P_ask []
  k_ask : PySem.W.keepIn K (.ref a_ask) = true
  m_ask : mg "_law_ask" = some (.ref a_ask)
  a_deed : Addr
  fd_deed : FuncData
  F_deed : Fun K "_law_deed" "_law_deed" s_deed a_deed fd_deed
  b_deed : Binds K fd_deed P_deed []
  k_deed : PySem.W.keepIn K (.ref a_deed) = true
  m_deed : mg "_law_deed" = some (.ref a_deed)
  a_twin : Addr
  fd_twin : FuncData
  F_twin : Fun K "_law_twin" "_law_twin" s_twin a_twin fd_twin
  b_twin : Binds K fd_twin P_twin []
  k_twin : PySem.W.keepIn K (.ref a_twin) = true
  m_twin : mg "_law_twin" = some (.ref a_twin)
  a_spoilt_so : Addr
  fd_spoilt_so : FuncData
  F_spoilt_so : Fun K "_law_spoilt_so" "_law_spoilt_so" s_spoilt_so a_spoilt_so fd_spoilt_so
  b_spoilt_so : Binds K fd_spoilt_so P_spoilt_so []
  k_spoilt_so : PySem.W.keepIn K (.ref a_spoilt_so) = true
  m_spoilt_so : mg "_law_spoilt_so" = some (.ref a_spoilt_so)
  a_size_so : Addr
  fd_size_so : FuncData
  cda_size_so : Addr
  tb_size_so : Addr
  F_size_so : FunL K "_law_size_so" "_law_size_so" s_size_so a_size_so fd_size_so cda_size_so
  b_size_so : Binds K fd_size_so P_size_so []
  k_size_so : PySem.W.keepIn K (.ref a_size_so) = true
  m_size_so : mg "_law_size_so" = some (.ref a_size_so)
  a_full_so : Addr
  fd_full_so : FuncData
  F_full_so : Fun K "_law_full_so" "_law_full_so" s_full_so a_full_so fd_full_so
  b_full_so : Binds K fd_full_so P_full_so []
  k_full_so : PySem.W.keepIn K (.ref a_full_so) = true
  m_full_so : mg "_law_full_so" = some (.ref a_full_so)
  a_law : Addr
  fd_law : FuncData
  F_law : Fun K "law" "law" s_law a_law fd_law
  b_law : Binds K fd_law P_law []
  k_law : PySem.W.keepIn K (.ref a_law) = true
  m_law : mg "law" = some (.ref a_law)
  n_all : mg "all" = none
  n_bool : mg "bool" = none
  n_dict : mg "dict" = none
  n_enumerate : mg "enumerate" = none
  n_int : mg "int" = none
  n_isinstance : mg "isinstance" = none
  n_len : mg "len" = none
  n_list : mg "list" = none
  n_max : mg "max" = none
  n_range : mg "range" = none
  n_sorted : mg "sorted" = none
  n_str : mg "str" = none
  n_super : mg "super" = none
  n_tuple : mg "tuple" = none
  n_zip : mg "zip" = none
  kb_Disk_write_changes : KBinds K fd_Disk_write P_Disk_write ["changes"] (fun (us ws : List Value) => match us, ws with | [u0], [w0] => [u0, w0] | _, _ => []) (fun (us ws : List V) => match us, ws with | [u0], [w0] => [u0, w0] | _, _ => [])
  oex_InvalidNumber : OexC K C_InvalidNumber
  se_InvalidNumber : SupAtE K C_InvalidNumber C_InvalidNumber
  xf_InvalidNumber : XfC K C_InvalidNumber
  ii_InvalidNumber : PySem.W.findIn K (.ref C_InvalidNumber) "__init__" = some (some (.ref a_InvalidNumber_init))
  ti_InvalidNumber : PySem.W.typeIn K (.ref a_InvalidNumber_init) = some (.type "function")
  exm_InvalidNumber_InvalidNumber : PySem.W.exmOne K (.ref C_InvalidNumber) (.ref C_InvalidNumber) = some true
  no_InvalidNumber_value : NoAttr K C_InvalidNumber "value"
  no_InvalidNumber_code : NoAttr K C_InvalidNumber "code"
  cl_Disk : Cls K C_Disk
  mk_Disk : Mk K C_Disk a_Disk_init
  ty_Disk : ClsTy K C_Disk
  kt_Disk_Disk : PySem.W.kitOne K (.ref C_Disk) (.ref C_Disk) = some true
  no_Disk_most : NoAttr K C_Disk "_most"
  no_Disk_table : NoAttr K C_Disk "_table"
  no_Disk_areas : NoAttr K C_Disk "_areas"
  no_Disk_unsynced : NoAttr K C_Disk "_unsynced"
  no_Disk_syncs : NoAttr K C_Disk "_syncs"
  no_Disk_fallen : NoAttr K C_Disk "_fallen"
  no_Disk_area : NoAttr K C_Disk "_area"
  no_Disk_generation : NoAttr K C_Disk "_generation"
  no_Disk_pieces : NoAttr K C_Disk "_pieces"
  no_Disk_rows : NoAttr K C_Disk "_rows"
  me_Disk_put : Meth K C_Disk "_put" a_Disk_put
  me_Disk_take_area : Meth K C_Disk "_take_area" a_Disk_take_area
  me_Disk_greatest : Meth K C_Disk "_greatest" a_Disk_greatest
  me_Disk_write : Meth K C_Disk "write" a_Disk_write
  me_Disk_check : Meth K C_Disk "check" a_Disk_check
  me_Disk_sync : Meth K C_Disk "sync" a_Disk_sync
  me_Disk_table : Meth K C_Disk "table" a_Disk_table
  me_Disk_areas : Meth K C_Disk "areas" a_Disk_areas
  me_Disk_unsynced : Meth K C_Disk "unsynced" a_Disk_unsynced
  me_Disk_copy : Meth K C_Disk "copy" a_Disk_copy
  pr_Disk_syncs : PropOf K C_Disk "syncs" a_Disk_syncs_p a_Disk_syncs
  pr_Disk_fallen : PropOf K C_Disk "fallen" a_Disk_fallen_p a_Disk_fallen
  cr_Disk : ClX.CRead K C_Disk (.type "type")
  cv_Disk_STRETCH : ∃ u, ClX.CVal K C_Disk (.type "type") "STRETCH" (.int 60) u


section
variable {X : Cx}
theorem kc_sorted (K : PySem.W.Frag) (hK : X.K = K := by rfl) : CallR X (.builtin "sorted") (rSorted K) := by subst hK; exact cr_sorted
theorem kc_maxL (K : PySem.W.Frag) (hc : X.calm = true) (hK : X.K = K := by rfl) : CallR X (.builtin "max") (L2.rMax K) := by subst hK; exact cr_max hc
theorem kc_minL (K : PySem.W.Frag) (hc : X.calm = true) (hK : X.K = K := by rfl) : CallR X (.builtin "min") (L2.rMin K) := by subst hK; exact cr_min hc
def rSortDI : List V → Hp → VK → Prop := fun xs H Q => ∃ (a : Addr) (kvs : List (Key × V)) (ks : List Int), xs = [.ref a] ∧ Rd H a (.dK kvs) ∧ kvs.map (·.1) = ks.map Sum.inl ∧ ks.length < 64 ∧
    ∀ (ys : List Int) (p : Addr), ys.Perm ks → ys.Pairwise (· ≤ ·) → H p = none → Q (.ref p) (upd H p (.lst (ys.map V.int)))
theorem kc_sortedDI (hc : X.calm = true) : CallR X (.builtin "sorted") rSortDI := call_sortedDI hc
/-- a list or a tuple that is walked -/
def iSeq (K : PySem.W.Frag) (tl : TE) : TI := fun σ H R => iList K tl σ H R ∨ iTup K tl σ H R
theorem kpi_seq (K : PySem.W.Frag) {tg l : Expr} {tl : TE} (hl : PE X l tl) (hK : X.K = K := by rfl) : PI X tg l (iSeq K tl) :=
  ⟨fun pins s σ H R I h => h.elim (fun h => (kpi_list K hl hK).run pins s σ H R I h) (fun h => (kpi_tup K hl hK).run pins s σ H R I h)⟩
end
section
variable {K : PySem.W.Frag} {σ : L2.St} {H : Hp} {D : Ends} {Q : VK}
theorem walk_zipT {a b : Addr} {xs ys : List V} {n : Nat} (hn : n = min xs.length ys.length) : Walk (RZ.ItzT K a b) n (fun H => SqT K H a xs ∧ SqT K H b ys) (YPair (fun i => xs[i]?) (fun i => ys[i]?)) := by
  subst hn
  refine ⟨fun i _ hi q => ?_, fun _ q => ⟨xs, ys, q.1, q.2, by omega⟩, fun i H v H' _ q y => ?_⟩
  · have h1 : i < xs.length := by omega
    have h2 : i < ys.length := by omega
    exact ⟨xs, ys, xs[i], ys[i], q.1, q.2, by simp [h1], by simp [h2]⟩
  · obtain ⟨T, x, z, h1, h2, h3, h4, h5⟩ := y
    exact ⟨T, x, z, h1, h2, h3, h4 xs q.1, h5 ys q.2⟩
theorem walk_zipL {a b : Addr} {xs ys : List V} {n : Nat} (hn : n = min xs.length ys.length) : Walk (Itz K a b) n (fun H => SqL K H a xs ∧ SqL K H b ys) (YPair (fun i => xs[i]?) (fun i => ys[i]?)) := walk_zip hn
theorem k_iStr {te : TE} {R : It → Hp → Prop} (h : te σ H fun v H1 => ∃ x, v = .str x ∧ R (Its x) H1) : iStr te σ H R := h
theorem zL {A B : Prop} (h : A) : A ∨ B := .inl h
theorem zT {A B : Prop} (h : B) : A ∨ B := .inr h
theorem walk_L {a : Addr} {xs : List V} : Walk (Itl K a) xs.length (fun H => SqL K H a xs) (YAt xs) := walk_list
theorem walk_T {a : Addr} {xs : List V} : Walk (Itt K a) xs.length (fun H => SqT K H a xs) (YAt xs) := walk_tup
theorem k_iZipA {ta : TA} {R : It → Hp → Prop} (h : ta σ H fun vs H1 => ∃ a b xs ys, vs = [.ref a, .ref b] ∧ ((SqL K H1 a xs ∧ SqL K H1 b ys ∧ R (Itz K a b) H1) ∨ (SqT K H1 a xs ∧ SqT K H1 b ys ∧ R (RZ.ItzT K a b) H1))) : RZ.iZipA K ta σ H R := h
theorem k_seqL {tl : TE} {R : It → Hp → Prop} (h : iList K tl σ H R) : iSeq K tl σ H R := .inl h
theorem k_seqT {tl : TE} {R : It → Hp → Prop} (h : iTup K tl σ H R) : iSeq K tl σ H R := .inr h
theorem k_dnew (h : ∀ p, H p = none → Q (.ref p) (upd H p (.dK []))) : tDNewK σ H Q := h
theorem k_dget2 {td ty tx : TE} (h : td σ H fun x H1 => ∃ a, x = .ref a ∧ IsD H1 a ∧ ty σ H1 fun y H2 => tx σ H2 fun z H3 => ∃ o, DGet H3 a y o ∧ Q (o.getD z) H3) : tDGet2 td ty tx σ H Q := h
theorem k_dget {td ty : TE} (h : td σ H fun x H1 => ty σ H1 fun y H2 => ∃ a v, x = .ref a ∧ DGet H2 a y (some v) ∧ Q v H2) : tDGet td ty σ H Q := h
theorem k_aug {i : Nat} {x : V} {te : TE} {ti : TIp} (hx : σ[i]? = some (some x)) (h : te σ H fun y H1 => ti x y H1 fun z H2 => D.nx (σ.set i (some z)) H2) : tAug i te ti D σ H := ⟨x, hx, h⟩
theorem k_asg2 {te : TE} {g1 g2 : TG} (h : te σ H fun x H1 => g1 x σ H1 fun σ1 H2 => g2 x σ1 H2 D.nx) : tAsg2 te g1 g2 D σ H := h
theorem k_ipI {f : Int → Int → Int} {i j : Int} (h : Q (.int (f i j)) H) : ipI f (.int i) (.int j) H Q := ⟨i, j, rfl, rfl, h⟩
theorem k_setD {a : Addr} {i v : V} {H' : Hp} {Q : Hp → Prop} (h : DPut H a i v H') (q : Q H') : rSetD (.ref a) i v H Q := ⟨a, H', rfl, h, q⟩
end

/-! ### sorted strings are told by their members; texts in stretches -/
def leS (a b : Str) : Prop := ¬ (b.cps.toList < a.cps.toList)
theorem leS_trans {a b c : Str} (h1 : leS a b) (h2 : leS b c) : leS a c := List.le_trans (show a.cps.toList ≤ b.cps.toList from h1) (show b.cps.toList ≤ c.cps.toList from h2)
theorem leS_anti {a b : Str} (h1 : leS a b) (h2 : leS b a) : a = b := by
  have : a.cps.toList = b.cps.toList := List.le_antisymm h1 h2
  cases a
  cases b
  congr 1
  exact Array.toList_inj.mp this
theorem ris_pw : ∀ {l : List Str} {p : Str}, risingS p l = true → (p :: l).Pairwise leS
  | [], p, _ => by simp
  | x :: r, p, h => by
    have h : (!ltCps x.cps.toList p.cps.toList && risingS x r) = true := h
    rw [Bool.and_eq_true] at h
    have ih := ris_pw h.2
    have h1 : leS p x := fun q => by
      have e := PyProof.Rows.ltCps_eq x.cps.toList p.cps.toList
      rw [decide_eq_true q] at e
      rw [e] at h
      cases h.1
    refine List.pairwise_cons.mpr ⟨fun y hy => ?_, ih⟩
    rcases List.mem_cons.mp hy with rfl | hy
    · exact h1
    · exact leS_trans h1 (List.rel_of_pairwise_cons ih hy)
theorem sorted_pw {l : List Str} (h : sortedS l = true) : l.Pairwise leS := by
  cases l with
  | nil => exact List.Pairwise.nil
  | cons x r => exact ris_pw h
theorem sort_uniq {l1 l2 : List Str} (h1 : sortedS l1 = true) (h2 : sortedS l2 = true) (p : l1.Perm l2) : l1 = l2 :=
  List.Perm.eq_of_pairwise (le := leS) (fun a b _ _ x y => leS_anti x y) (sorted_pw h1) (sorted_pw h2) p
/-- stretches of 60 -/
def cutN (z : Str) : Nat := (z.length + 59) / 60
def cutZ (z : Str) : List Str := (List.range (cutN z)).map fun i => cutS z (some ((0 : Int) + (i : Nat) * 60)) (some ((0 : Int) + (i : Nat) * 60 + 60))
theorem size_60 (n : Nat) : Builtin.Range.rangeSize 0 (n : Nat) 60 = ((n + 59) / 60 : Nat) := by
  unfold Builtin.Range.rangeSize
  rw [if_pos (by decide)]
  by_cases h0 : n = 0
  · subst h0
    rw [if_neg (by decide)]
    rfl
  · rw [if_pos (by omega)]
    omega
theorem rgc_60 {n : Nat} (h : n ≤ 100000) : RgC 0 (n : Nat) 60 ((n + 59) / 60) := by
  refine ⟨by decide, by decide, ?_, size_60 n⟩
  unfold Builtin.Range.small
  rw [size_60]
  have h1 : (n + 59) / 60 ≤ 100000 := by omega
  generalize (n + 59) / 60 = m at h1
  have fit : ∀ i : Int, -1000000 ≤ i → i ≤ 1000000 → Builtin.Range.rangeFitsLong i = true := fun i h1 h2 => by
    unfold Builtin.Range.rangeFitsLong
    rw [Bool.and_eq_true]
    exact ⟨decide_eq_true (by omega), decide_eq_true (by omega)⟩
  rw [fit 0 (by decide) (by decide), fit (n : Int) (by omega) (by omega), fit 60 (by decide) (by decide), fit (m : Int) (by omega) (by omega), if_pos (by decide), fit ((n : Int) + (60 - 1)) (by omega) (by omega), Bool.or_true]
  rfl

section
variable {w : World} {K : PySem.W.Frag} {mg : Str → Option Value} {base : Heap}
/-! ### texts -/
theorem same_put {G G' : Hp} {L : Addr} {o : HO} (h : Same G G') (n : G L = none) : Same G (upd G' L o) := fun a u e => by
  rw [upd_ne (ne_of_none e n)]
  exact h _ _ e
theorem k_bm {K : PySem.W.Frag} {T : String} {r : V → List V → Hp → VK → Prop} {to : TE} {t : TA} {σ : L2.St} {H : Hp} {Q : VK} (h : to σ H fun x H1 => tyV K T x H1 ∧ t σ H1 fun xs H2 => r x xs H2 Q) : tBM K T r to t σ H Q := h
theorem k_app {l : Addr} {xs : List V} {y : V} {H : Hp} {Q : VK} (h : H l = some (.lst xs)) (hz : xs.length < 100000) (k : Q .non (upd H l (.lst (xs ++ [y])))) : rAppend (.ref l) [y] H Q := ⟨l, xs, y, rfl, rfl, h, small_lt (by omega), k⟩
def vO : Option Str → V
  | none => .non
  | some z => .str z
theorem vO_non (o : Option Str) : vO o = .non ↔ o = none := by cases o <;> simp [vO]
theorem k_iRng3 {ta : TA} {σ : L2.St} {H : Hp} {R : It → Hp → Prop} (h : ta σ H fun vs H1 => ∃ (i j c : Int) (n : Nat), vs = [.int i, .int j, .int c] ∧ RgC i j c n ∧ R (Itc i c n) H1) : iRng3 ta σ H R := h
theorem k_slS {z : Str} {lo hi : Option Int} {H : Hp} {Q : VK} (h : z.length ≤ sizeLine) (k : Q (.str (cutS z lo hi)) H) : rSlS (.str z) lo hi H Q := ⟨z, rfl, h, k⟩
def spStr : Sp := fun vs H Q _ => ∃ z : Str, vs = [.str z, .int 60] ∧ z.length ≤ 100000 ∧ ∀ (L : Addr) (H' : Hp), H L = none → Same H H' → H' L = some (.lst ((cutZ z).map V.str)) → Q (.ref L) H'
theorem ok_stretches_of (T : Tx K mg) : FnOk P w K mg base CX0 1 T.a_stretches_of T.fd_stretches_of P_stretches_of spStr := by
  refine T.F_stretches_of.ok sc_stretches_of (fun vs H Q E h => ?_) (fun cdv A outer s H vs Q E hr h => ?_)
  · obtain ⟨z, rfl, _⟩ := h
    rfl
  · obtain ⟨z, rfl, hz, k⟩ := h
    have nd := sc_stretches_of.nd
    refine ⟨_, (pss_one (ps_ret (pe_lc (own := [("at", 2)]) rfl nd (pi_range3 g_stretches_of_range T.n_range (pa_cons pe_int (pa_cons (kcB b_len (by decide) (by decide) (kc_len K) g_stretches_of_len T.n_len (pa_cons (kv (i := 0) v_stretches_of_text) pa_nil)) (pa_cons (kv (i := 1) v_stretches_of_size) pa_nil)))) ok_cs_stretches_of_1 (fun _ _ _ _ _ => (kgL (i := 2) nd l_stretches_of_1_at)) (fun _ _ _ _ _ => pts_nil) (fun _ _ _ _ _ => (pe_slice sl_str (kv (i := 0) v_stretches_of_1_text) (po_some (kv (i := 2) v_stretches_of_1_at)) (po_some (pe_op kop_add (kv (i := 2) v_stretches_of_1_at) (kv (i := 1) v_stretches_of_1_size)))))))), ?_⟩
    have hzs : z.length ≤ sizeLine := small_size (by omega)
    have hcn : cutN z ≤ 100000 := by unfold cutN; omega
    walk_at "ss"
    refine k_iRng3 ?_
    walk_at "ss"
    refine k_lenS hzs ?_
    walk_at "ss"
    refine ⟨0, (z.length : Nat), 60, cutN z, rfl, rgc_60 hz, ?_⟩
    intro D nD
    refine k_lcIt walk_rangeC (fun i H' => H' D = some (.lst (((List.range i).map fun i => cutS z (some ((0 : Int) + (i : Nat) * 60)) (some ((0 : Int) + (i : Nat) * 60 + 60))).map V.str)) ∧ Same H H') ⟨upd_same, same_new nD⟩ (fun _ _ _ _ => True.intro) ?_ ?_
    · rintro i x H1 H2 hi ⟨hD, sm⟩ ⟨rfl, rfl⟩
      walk_at "ss"
      refine ⟨rfl, ?_⟩
      walk_at "ss"
      refine k_slS hzs ?_
      refine ⟨_, hD, small_lt (by simp only [List.length_map, List.length_range]; omega), ?_, same_put sm nD⟩
      rw [upd_same, List.range_succ, List.map_append, List.map_append]
      rfl
    · rintro H1 ⟨hD, sm⟩
      exact k D H1 nD sm hD
/-- the text of a key and its value -/
def partT (k : Str) : Option Str → Str
  | none => Str.empty ++ k ++ ("!;" : Str)
  | some v => Str.empty ++ k ++ ("=" : Str) ++ v ++ (";" : Str)
abbrev CsL := List (Str × Option Str)
def kC (cs : CsL) : List (Key × V) := cs.map fun z => (.inr z.1, vO z.2)
def getC (cs : CsL) (k : Str) : Option (Option Str) := (cs.find? fun z => decide (z.1 = k)).map (·.2)
theorem val_kC (n : Str) : ∀ cs : CsL, valV (kC cs) (.inr n) = (getC cs n).map vO
  | [] => rfl
  | z :: cs => by
    have ih := val_kC n cs
    unfold getC at ih ⊢
    by_cases e : z.1 = n
    · have : (Sum.inr z.1 : Key) = .inr n := by rw [e]
      rw [show kC (z :: cs) = (.inr z.1, vO z.2) :: kC cs from rfl, valV_pos (p := ((.inr z.1 : Key), vO z.2)) this]
      simp [List.find?_cons, e]
    · have : ¬ (Sum.inr z.1 : Key) = .inr n := fun q => e (Sum.inr.inj q)
      rw [show kC (z :: cs) = (.inr z.1, vO z.2) :: kC cs from rfl, valV_neg (p := ((.inr z.1 : Key), vO z.2)) this, ih]
      simp [List.find?_cons, e]
theorem getC_some {cs : CsL} {k : Str} (h : k ∈ cs.map (·.1)) : ∃ o, getC cs k = some o ∧ (k, o) ∈ cs := by
  unfold getC
  cases hf : cs.find? fun z => decide (z.1 = k) with
  | none =>
    obtain ⟨z, hz, e⟩ := List.mem_map.mp h
    have := List.find?_eq_none.mp hf z hz
    simp [e] at this
  | some z =>
    have h1 := List.mem_of_find?_eq_some hf
    have h2 : z.1 = k := by have := List.find?_some hf; simpa using this
    refine ⟨z.2, rfl, ?_⟩
    rw [← h2]
    exact h1
def textS (cs : CsL) (ys : List Str) : Str := Txt.join Str.empty (ys.map fun k => partT k ((getC cs k).getD none))
/-- z is the text of the changes -/
def TextOf (cs : CsL) (z : Str) : Prop := ∃ ys : List Str, ys.Perm (cs.map (·.1)) ∧ sortedS ys = true ∧ z = textS cs ys
theorem TextOf.uniq {cs : CsL} {z z' : Str} (h : TextOf cs z) (h' : TextOf cs z') : z = z' := by
  obtain ⟨ys, p, s, rfl⟩ := h
  obtain ⟨ys', p', s', rfl⟩ := h'
  rw [sort_uniq s s' (p.trans p'.symm)]
structure CsOk (cs : CsL) : Prop where
  len : cs.length ≤ 20
  k16 : ∀ c ∈ cs, c.1.length ≤ 16
  v300 : ∀ c ∈ cs, ∀ v, c.2 = some v → v.length ≤ 300
theorem part_len {k : Str} {o : Option Str} (h : k.length ≤ 16) (hv : ∀ v, o = some v → v.length ≤ 300) : (partT k o).length ≤ 320 := by
  have l1 : ("!;" : Str).length = 2 := by decide +kernel
  have l2 : ("=" : Str).length = 1 := by decide +kernel
  have l3 : (";" : Str).length = 1 := by decide +kernel
  cases o with
  | none =>
    simp only [partT, PySem.Str.length_append, len_empty, l1]
    omega
  | some v =>
    have := hv v rfl
    simp only [partT, PySem.Str.length_append, len_empty, l2, l3]
    omega
theorem txtJoin_len (a : Str) (ys : List Str) : (Txt.join a ys).length ≤ (ys.map (·.length)).sum + ys.length * a.length := by
  show (Builtin.Str.glued a ys).length ≤ _
  rw [StrLaws.glued_eq_join]
  exact StrLaws.join_length_le a ys
theorem sum_le {B : Nat} : ∀ {ys : List Str}, (∀ y ∈ ys, y.length ≤ B) → (ys.map (·.length)).sum ≤ ys.length * B
  | [], _ => Nat.zero_le _
  | y :: r, h => by
    have h1 := h y (List.mem_cons_self ..)
    have h2 := sum_le (ys := r) fun z hz => h z (List.mem_cons_of_mem _ hz)
    simp only [List.map_cons, List.sum_cons, List.length_cons, Nat.add_mul, Nat.one_mul]
    omega
theorem parts_sum {cs : CsL} (ok : CsOk cs) {ys : List Str} (p : ys.Perm (cs.map (·.1))) : ((ys.map fun k => partT k ((getC cs k).getD none)).map (·.length)).sum ≤ 6400 := by
  have hl : ys.length ≤ 20 := by have := p.length_eq; rw [List.length_map] at this; have := ok.len; omega
  refine Nat.le_trans (sum_le (B := 320) fun y hy => ?_) (by rw [List.length_map]; omega)
  obtain ⟨k, hk, rfl⟩ := List.mem_map.mp hy
  obtain ⟨o, ho, hm⟩ := getC_some (p.mem_iff.mp hk)
  rw [ho]
  exact part_len (ok.k16 _ hm) (ok.v300 _ hm)
theorem TextOf.len {cs : CsL} (ok : CsOk cs) {z : Str} (h : TextOf cs z) : z.length ≤ 6400 := by
  obtain ⟨ys, p, s, rfl⟩ := h
  refine Nat.le_trans (txtJoin_len _ _) ?_
  have := parts_sum ok p
  show _ + _ * 0 ≤ _
  omega
def spText : Sp := fun vs H Q _ => ∃ (d : Addr) (cs : CsL), vs = [.ref d] ∧ H d = some (.dK (kC cs)) ∧ CsOk cs ∧ ∀ (z : Str) (H' : Hp), TextOf cs z → Same H H' → Q (.str z) H'
theorem ok_text_of (T : Tx K mg) : FnOk P w K mg base CX0 1 T.a_text_of T.fd_text_of P_text_of spText := by
  refine T.F_text_of.ok sc_text_of (fun vs H Q E h => ?_) (fun cdv A outer s H vs Q E hr h => ?_)
  · obtain ⟨d, cs, rfl, _⟩ := h
    rfl
  · obtain ⟨d, cs, rfl, hd, ok, k⟩ := h
    have nd := sc_text_of.nd
    refine ⟨_, (pss_cons (ks_setL (i := 1) nd l_text_of_parts (pe_lst pa_nil))
      (pss_cons (ps_for PassesOwn.never rfl (kpi_list K (kcB b_sorted (by decide) (by decide) (call_sortedD rfl) g_text_of_sorted T.n_sorted (pa_cons (kv (i := 0) v_text_of_changes) pa_nil))) (kgL (i := 2) nd l_text_of_key) (pss_cons (ks_setL (i := 3) nd l_text_of_value (pe_dget (hu_of hr) (kv (i := 0) v_text_of_changes) (kv (i := 2) v_text_of_key) (fun _ _ => rfl)))
      (pss_one (ps_expr (pe_bm PySem.F.plainAttrs_list PySem.F.slot_list_append PySem.F.type_list_append mt_append (kv (i := 1) v_text_of_parts) (pa_cons (pe_ifExp (pt_cmpR op_isN (kv (i := 3) v_text_of_value) pe_non (nomark _)) (pe_joined (.cons (pe_fmt (kv (i := 2) v_text_of_key)) (.cons pe_str .nil))) (pe_joined (.cons (pe_fmt (kv (i := 2) v_text_of_key)) (.cons pe_str (.cons (pe_fmt (kv (i := 3) v_text_of_value)) (.cons pe_str .nil)))))) pa_nil))))))
      (pss_one (ps_ret (kpe_join K pe_str (kv (i := 1) v_text_of_parts)))))), ?_⟩
    walk_at "ss"
    intro L nL
    generalize eL : upd H L _ = H1
    have s1 := upd_sm eL nL
    have hL := upd_at eL
    clear eL
    have hd1 := s1 _ _ hd
    have nLd : L ≠ d := fun e => by rw [e, hd] at nL; cases nL
    walk_at "ss"
    refine ⟨d, kC cs, cs.map (·.1), rfl, .inl hd1, by simp [kC], by rw [List.length_map]; have := ok.len; omega, fun ys q hp hs nq => ?_⟩
    generalize eL : upd H1 q _ = H2
    have s2 := upd_sm eL nq
    have hq := upd_at eL
    clear eL
    have hL2 := s2 _ _ hL
    have hd2 := s2 _ _ hd1
    have nLq : L ≠ q := ne_of_none hL nq
    have hyl : ys.length ≤ 20 := by have := hp.length_eq; rw [List.length_map] at this; have := ok.len; omega
    refine k_iL (SqL.of hq) ?_
    refine k_forList (ys.map V.str) (fun i σ H' => (∃ u1 u2, σ = [some (.ref d), some (.ref L), u1, u2]) ∧ H' L = some (.lst (((ys.take i).map fun k => partT k ((getC cs k).getD none)).map V.str)) ∧ ∀ x o, H2 x = some o → x ≠ L → H' x = some o) ⟨⟨_, _, rfl⟩, hL2, fun x o h _ => h⟩ ?_ ?_ ?_
    · rintro i σ H' _ ⟨_, _, fr⟩
      exact SqL.of (fr _ _ hq (Ne.symm nLq))
    · rintro i x σ H' hx ⟨⟨u1, u2, rfl⟩, hLi, fr⟩
      rw [List.getElem?_map] at hx
      obtain ⟨y, hy, rfl⟩ := Option.map_eq_some_iff.mp hx
      have hym := List.mem_of_getElem? hy
      obtain ⟨o, ho, hm⟩ := getC_some (hp.mem_iff.mp hym)
      have hdi := fr _ _ hd2 (Ne.symm nLd)
      have gd := DGet.k (k := Sum.inr y) hdi
      rw [val_kC, ho] at gd
      have hil : i < ys.length := (List.getElem?_eq_some_iff.mp hy).1
      have l1 : ("!;" : Str).length = 2 := by decide +kernel
      have l2 : ("=" : Str).length = 1 := by decide +kernel
      have l3 : (";" : Str).length = 1 := by decide +kernel
      have hk16 : y.length ≤ 16 := ok.k16 _ hm
      walk_at "ss"
      refine k_dget ?_
      walk_at "ss"
      refine ⟨d, _, rfl, gd, ?_⟩
      have fin : ∀ out : Str, out = partT y o → rAppend (.ref L) [V.str out] H' (fun _ H1 => (∃ u1 u2, [some (V.ref d), some (V.ref L), some (V.str y), some (vO o)] = [some (V.ref d), some (V.ref L), u1, u2]) ∧ H1 L = some (.lst (((ys.take (i + 1)).map fun k => partT k ((getC cs k).getD none)).map V.str)) ∧ ∀ x o, H2 x = some o → x ≠ L → H1 x = some o) := fun out e => by
        refine k_app hLi (by simp only [List.length_map, List.length_take]; omega) ⟨⟨_, _, rfl⟩, ?_, fun x u hu nx => (upd_ne nx).trans (fr x u hu nx)⟩
        rw [upd_same, List.take_add_one, hy, e]
        simp [ho]
      walk_at "ss"
      refine k_bm ?_
      walk_at "ss"
      refine ⟨.inl ⟨rfl, _, SqL.of hLi⟩, ?_⟩
      walk_at "ss"
      refine ⟨rfl, ?_⟩
      refine ⟨_, rfl, ?_⟩
      cases o with
      | none =>
        refine k_dt rfl ?_
        walk_at "ss"
        refine k_fmtS (by omega) ?_
        refine k_jsV (by simp only [PySem.Str.length_append, len_empty]; omega) ?_
        walk_at "ss"
        refine k_jsV (by simp only [PySem.Str.length_append, len_empty, l1]; omega) ?_
        walk_at "ss"
        exact fin _ rfl
      | some v =>
        have hv3 := ok.v300 _ hm v rfl
        refine k_df (fun e => by cases e) ?_
        walk_at "ss"
        refine k_fmtS (by omega) ?_
        refine k_jsV (by simp only [PySem.Str.length_append, len_empty]; omega) ?_
        walk_at "ss"
        refine k_jsV (by simp only [PySem.Str.length_append, len_empty, l2]; omega) ?_
        walk_at "ss"
        refine k_fmtS (by omega) ?_
        refine k_jsV (by simp only [PySem.Str.length_append, len_empty, l2]; omega) ?_
        walk_at "ss"
        refine k_jsV (by simp only [PySem.Str.length_append, len_empty, l2, l3]; omega) ?_
        walk_at "ss"
        exact fin _ rfl
    · rintro σ H' ⟨⟨u1, u2, rfl⟩, hLi, fr⟩
      rw [List.length_map, List.take_length] at hLi
      walk_at "ss"
      have hps := parts_sum ok hp
      refine k_joinL (SqL.of hLi) (by show _ + _ * 0 ≤ _; omega) fun out eout => ?_
      exact k out H' ⟨ys, hp, hs, eout⟩ fun x o hx => fr x o (s2 _ _ (s1 _ _ hx)) (ne_of_none hx nL)
end

/-! ### s.split(" ", k) of words glued by blanks -/
section
open PySem.StrLaws Builtin.Str
def glueL : List (List Nat) → List Nat → List Nat
  | [], r => r
  | p :: ps, r => p ++ 32 :: glueL ps r
def cutsL : List (List Nat) → Nat → List Nat
  | [], _ => []
  | p :: ps, o => (o + p.length) :: cutsL ps (o + p.length + 1)
def stepO (zl : List Nat) (limit : Nat) (st : Array Nat × Nat) (i : Nat) : Array Nat × Nat := if st.1.size < limit ∧ st.2 ≤ i ∧ zl[i]? = some 32 then (st.1.push i, i + 1) else st
theorem sub_at (z : Str) (i : Nat) : (i + (" " : Str).length ≤ z.length ∧ subAt z " " i = true) ↔ z.cps.toList[i]? = some 32 := by
  have l1 : (" " : Str).length = 1 := by decide +kernel
  have c1 : (" " : Str).cps.toList = [32] := by decide +kernel
  unfold subAt
  rw [l1, beq_iff_eq, ← Array.toList_inj, c1, Array.toList_extract]
  have hz : z.length = z.cps.toList.length := by rw [Array.length_toList]; rfl
  rw [hz]
  constructor
  · rintro ⟨h1, h2⟩
    have h3 : z.cps.toList[i]? = some z.cps.toList[i] := List.getElem?_eq_getElem (by omega)
    rw [List.extract_eq_drop_take] at h2
    rw [List.drop_eq_getElem_cons (by omega)] at h2
    rw [show i + 1 - i = 1 by omega] at h2
    simp at h2
    rw [h3]
    simpa using h2
  · intro h
    have hi := (List.getElem?_eq_some_iff.mp h).1
    refine ⟨by omega, ?_⟩
    rw [List.extract_eq_drop_take, List.drop_eq_getElem_cons hi, show i + 1 - i = 1 by omega, (List.getElem?_eq_some_iff.mp h).2]
    rfl
theorem run_eq (z : Str) (limit : Nat) : ∀ (l : List Nat) (st : Array Nat × Nat), (forIn l st (occBody z " " z.length limit)).run = l.foldl (stepO z.cps.toList limit) st
  | [], st => rfl
  | i :: l, st => by
    have l1 : (" " : Str).length = 1 := by decide +kernel
    have e := sub_at z i
    rw [List.forIn_cons]
    unfold occBody
    by_cases hc : ((st.fst.size < limit ∧ st.snd ≤ i) ∧ i + (" " : Str).length ≤ z.length) ∧ subAt z " " i = true
    · rw [if_pos hc]
      have hs : stepO z.cps.toList limit st i = (st.1.push i, i + 1) := by
        unfold stepO
        rw [if_pos ⟨hc.1.1.1, hc.1.1.2, e.mp ⟨hc.1.2, hc.2⟩⟩]
      rw [List.foldl_cons, hs]
      have := run_eq z limit l (st.1.push i, i + (" " : Str).length)
      rw [l1] at this ⊢
      exact this
    · rw [if_neg hc]
      have hs : stepO z.cps.toList limit st i = st := by
        unfold stepO
        rw [if_neg (fun q => hc ⟨⟨⟨q.1, q.2.1⟩, (e.mpr q.2.2).1⟩, (e.mpr q.2.2).2⟩)]
      rw [List.foldl_cons, hs]
      exact run_eq z limit l st
theorem fold_no {zl : List Nat} {limit : Nat} : ∀ {l : List Nat} {st : Array Nat × Nat}, (∀ i ∈ l, zl[i]? ≠ some 32) → l.foldl (stepO zl limit) st = st
  | [], _, _ => rfl
  | i :: l, st, h => by
    have hs : stepO zl limit st i = st := by
      unfold stepO
      rw [if_neg (fun q => h i List.mem_cons_self q.2.2)]
    rw [List.foldl_cons, hs]
    exact fold_no fun j hj => h j (List.mem_cons_of_mem _ hj)
theorem fold_full {zl : List Nat} {limit : Nat} : ∀ {l : List Nat} {st : Array Nat × Nat}, limit ≤ st.1.size → l.foldl (stepO zl limit) st = st
  | [], _, _ => rfl
  | i :: l, st, h => by
    have hs : stepO zl limit st i = st := by
      unfold stepO
      rw [if_neg (fun q => by omega)]
    rw [List.foldl_cons, hs]
    exact fold_full h
theorem fold_cuts {zl r : List Nat} {limit : Nat} : ∀ (ps : List (List Nat)) (o n : Nat) (st : Array Nat × Nat), (∀ p ∈ ps, 32 ∉ p) → zl.drop o = glueL ps r → st.2 ≤ o → st.1.size + ps.length = limit → (glueL ps r).length < n → o ≤ zl.length →
    ((List.range' o n).foldl (stepO zl limit) st).1.toList = st.1.toList ++ cutsL ps o
  | [], o, n, st, _, _, _, hs, _, _ => by
    rw [fold_full (by simp at hs; omega)]
    simp [cutsL]
  | p :: ps, o, n, st, hp, hd, hle, hs, hn, ho => by
    have hlen : (glueL (p :: ps) r).length = p.length + 1 + (glueL ps r).length := by
      show (p ++ 32 :: glueL ps r).length = _
      simp
      omega
    obtain ⟨m, rfl⟩ : ∃ m, n = p.length + (1 + m) := ⟨n - p.length - 1, by omega⟩
    have hat : ∀ i, i < p.length → zl[o + i]? = p[i]? := fun i hi => by
      have := congrArg (fun l => l[i]?) hd
      simp only [List.getElem?_drop] at this
      rw [this]
      show (p ++ 32 :: glueL ps r)[i]? = _
      rw [List.getElem?_append_left hi]
    have hsp : zl[o + p.length]? = some 32 := by
      have := congrArg (fun l => l[p.length]?) hd
      simp only [List.getElem?_drop] at this
      rw [this]
      show (p ++ 32 :: glueL ps r)[p.length]? = _
      rw [List.getElem?_append_right (Nat.le_refl _), Nat.sub_self]
      rfl
    have hd2 : zl.drop (o + p.length + 1) = glueL ps r := by
      have h1 : zl.drop (o + p.length + 1) = (zl.drop o).drop (p.length + 1) := by rw [List.drop_drop]; congr 1
      rw [h1, hd]
      show (p ++ 32 :: glueL ps r).drop (p.length + 1) = _
      rw [← List.drop_drop, List.drop_left' rfl]
      rfl
    have hno : ∀ i ∈ List.range' o p.length, zl[i]? ≠ some 32 := fun i hi => by
      obtain ⟨h1, h2⟩ := List.mem_range'_1.mp hi
      obtain ⟨j, rfl⟩ := Nat.exists_eq_add_of_le h1
      rw [hat j (by omega)]
      intro q
      exact hp p List.mem_cons_self (List.mem_of_getElem? q)
    rw [show List.range' o (p.length + (1 + m)) = List.range' o p.length ++ (List.range' (o + p.length) 1 ++ List.range' (o + p.length + 1) m) by rw [List.range'_append_1, List.range'_append_1], List.foldl_append, fold_no hno]
    · rw [List.foldl_append]
      have h1 : (List.range' (o + p.length) 1).foldl (stepO zl limit) st = (st.1.push (o + p.length), o + p.length + 1) := by
        show stepO zl limit st (o + p.length) = _
        unfold stepO
        rw [if_pos ⟨by simp at hs; omega, by omega, hsp⟩]
      rw [h1, fold_cuts ps (o + p.length + 1) m _ (fun q hq => hp q (List.mem_cons_of_mem _ hq)) hd2 (Nat.le_refl _) (by simp at hs ⊢; omega) (by omega) (by have := (List.getElem?_eq_some_iff.mp hsp).1; omega)]
      show (st.1.push (o + p.length)).toList ++ _ = _
      rw [Array.toList_push, List.append_assoc]
      rfl
theorem str_mk {z : Str} {l : List Nat} (h : z.cps.toList = l) : z = ⟨l.toArray⟩ := by
  cases z
  congr 1
  rw [← h]
theorem parts_cuts (z : Str) {r : List Nat} : ∀ (ps : List (List Nat)) (o : Nat), z.cps.toList.drop o = glueL ps r → o ≤ z.length →
    ((o :: (cutsL ps o).map (· + 1)).zip (cutsL ps o ++ [z.length])).map (fun q => strSub z q.1 q.2) = (ps ++ [r]).map fun l => (⟨l.toArray⟩ : Str)
  | [], o, hd, ho => by
    show [strSub z o z.length] = [⟨r.toArray⟩]
    congr 1
    refine str_mk ?_
    unfold strSub
    rw [Array.toList_extract, List.extract_eq_drop_take, hd]
    refine List.take_of_length_le ?_
    have := congrArg List.length hd
    rw [List.length_drop, Array.length_toList] at this
    show (glueL [] r).length ≤ z.length - o
    have e : z.length = z.cps.size := rfl
    omega
  | p :: ps, o, hd, ho => by
    have hsp : z.cps.toList[o + p.length]? = some 32 := by
      have := congrArg (fun l => l[p.length]?) hd
      simp only [List.getElem?_drop] at this
      rw [this]
      show (p ++ 32 :: glueL ps r)[p.length]? = _
      rw [List.getElem?_append_right (Nat.le_refl _), Nat.sub_self]
      rfl
    have hd2 : z.cps.toList.drop (o + p.length + 1) = glueL ps r := by
      have h1 : z.cps.toList.drop (o + p.length + 1) = (z.cps.toList.drop o).drop (p.length + 1) := by rw [List.drop_drop]; congr 1
      rw [h1, hd]
      show (p ++ 32 :: glueL ps r).drop (p.length + 1) = _
      rw [← List.drop_drop, List.drop_left' rfl]
      rfl
    have hlt : o + p.length < z.length := by
      have := (List.getElem?_eq_some_iff.mp hsp).1
      rw [Array.length_toList] at this
      exact this
    have ih := parts_cuts z ps (o + p.length + 1) hd2 (by omega)
    show strSub z o (o + p.length) :: _ = ⟨p.toArray⟩ :: _
    congr 1
    refine str_mk ?_
    unfold strSub
    rw [Array.toList_extract, List.extract_eq_drop_take, hd, show o + p.length - o = p.length by omega]
    exact List.take_left' rfl
theorem kind_pos (z : Str) : 1 ≤ Builtin.Str.strKind z := by
  unfold Builtin.Str.strKind
  split
  · exact Nat.le_refl _
  · split <;> decide
/-- words glued by blanks, split as often -/
theorem split_glue {z : Str} {ps : List (List Nat)} {r : List Nat} {k : Nat} (hz : z.cps.toList = glueL ps r) (hp : ∀ p ∈ ps, 32 ∉ p) (hk : ps.length = k) (h1 : 1 ≤ k) : Txt.splitMax z " " (k : Nat) = (ps ++ [r]).map fun l => (⟨l.toArray⟩ : Str) := by
  have l1 : (" " : Str).length = 1 := by decide +kernel
  have k1 : Builtin.Str.strKind " " = 1 := by decide +kernel
  have hlen : (glueL ps r).length = z.length := by rw [← hz, Array.length_toList]; rfl
  have hpos : 1 ≤ z.length := by
    rw [← hlen]
    cases ps with
    | nil => simp at hk; omega
    | cons p ps => show 1 ≤ (p ++ 32 :: glueL ps r).length; simp; omega
  have hocc : occurrences z " " 0 z.length (limitOf z (k : Nat)) = cutsL ps 0 := by
    have hlim : limitOf z (k : Nat) = k := by
      unfold limitOf
      rw [if_neg (by omega)]
      omega
    rw [occ_eq, run_eq, hlim, fold_cuts (r := r) ps 0 _ _ hp (by rw [List.drop_zero]; exact hz) (Nat.le_refl _) (by simpa using hk) (by omega) (Nat.zero_le _)]
    rfl
  unfold Txt.splitMax
  rw [hocc, l1, k1, decide_eq_false (by omega), decide_eq_false (by have := kind_pos z; omega), if_neg (by decide), if_neg]
  · unfold partsBetween
    exact parts_cuts z ps 0 (by rw [List.drop_zero]; exact hz) (Nat.zero_le _)
  · cases ps with
    | nil => simp at hk; omega
    | cons p ps => simp [cutsL]
end

section
open TL
variable {w : World} {K : PySem.W.Frag} {mg : Str → Option Value} {base : Heap}
/-! ### a disk as data, and on the heap -/
theorem put_old {x : Str} {v : V} : ∀ {ns : List Str} {vs : List V} {i : Nat}, pos? x ns = some i → i < vs.length → putF x v (FL ns vs) = FL ns (vs.set i v)
  | [], _, _, h, _ => by cases h
  | n :: r, [], i, h, hl => by simp at hl
  | n :: r, w :: ws, i, h, hl => by
    unfold pos? at h
    show (if n = x then (n, v) :: FL r ws else (n, w) :: putF x v (FL r ws)) = _
    by_cases e : n = x
    · rw [if_pos (by rw [e]; simp)] at h
      cases h
      rw [if_pos e]
      rfl
    · rw [if_neg (by simpa using e)] at h
      rw [if_neg e]
      cases hp : pos? x r with
      | none => rw [hp] at h; cases h
      | some j =>
        rw [hp] at h
        cases h
        rw [put_old hp (by simpa using hl)]
        rfl
/-- a field that is there already -/
theorem k_putOld {K : PySem.W.Frag} {H : Hp} {a C dx : Addr} {f : Str} {ns : List Str} {vs : List V} {y : V} {i : Nat} {Q : Hp → Prop} (h : H a = some (.ins C dx (FL ns vs))) (c : Cls K C) (n : NoAttr K C f) (hi : pos? f ns = some i) (hl : i < vs.length) (hs : ns.length < 1000)
    (q : Q (upd H a (.ins C dx (FL ns (vs.set i y))))) : rPutF K f y (.ref a) H Q :=
  ⟨a, C, dx, _, rfl, h, c, n, Nat.lt_of_le_of_lt fl_len hs, by rw [put_old hi hl]; exact q⟩
theorem k_meth {R : Addr → Sp → Prop} {m : Str} {E : XK} {ta : TE} {t : TA} {σ : L2.St} {H : Hp} {Q : VK} (h : ta σ H fun x H1 => ∃ a C dx fs sp, x = V.ref a ∧ H1 a = some (.ins C dx fs) ∧ R C sp ∧ fs.lookup m = none ∧ t σ H1 fun vs H2 => sp (x :: vs) H2 Q E) : tMethP R m E ta t σ H Q := h
abbrev One1 (C0 : Addr) (sp0 : Sp) : Addr → Sp → Prop := fun C sp => C = C0 ∧ sp = sp0
theorem disp1 {C0 g0 : Addr} {fd0 : FuncData} {ps0 : List Str} {sp0 : Sp} {k : Nat} {m : Str} (cl : Cls K C0) (me : Meth K C0 m g0) (Fn : FnOk P w K mg base CX0 k g0 fd0 ps0 sp0) (b : Binds K fd0 ps0 []) :
    ∀ C sp, One1 C0 sp0 C sp → ∃ g fd ps, Cls K C ∧ Meth K C m g ∧ FnOk P w K mg base CX0 k g fd ps sp ∧ Binds K fd ps [] := by
  rintro C sp ⟨rfl, rfl⟩
  exact ⟨_, _, _, cl, me, Fn, b⟩
def numT (n : Nat) : Str := Str.ofString (toString ((n : Nat) : Int))
theorem numT_cps (n : Nat) : (numT n).cps.toList = numL n := tl_num n
/-- the generation that a text tells -/
def TxtG (g : Nat) (z : Str) : Prop := ∃ a r : List Nat, 32 ∉ a ∧ z.cps.toList = glueL [a, numL g] r
theorem TxtG.split {g : Nat} {z : Str} (h : TxtG g z) : ∃ a r : Str, Txt.splitMax z " " 2 = [a, numT g, r] := by
  obtain ⟨a, r, ha, hz⟩ := h
  refine ⟨⟨a.toArray⟩, ⟨r.toArray⟩, ?_⟩
  have := split_glue (z := z) (ps := [a, numL g]) (r := r) (k := 2) hz (fun p hp => by
    simp only [List.mem_cons, List.not_mem_nil, or_false] at hp
    rcases hp with rfl | rfl
    · exact ha
    · exact numL_free (.inl (by decide))) rfl (by decide)
  have e : numT g = ⟨(numL g).toArray⟩ := str_mk (numT_cps g)
  rw [e]
  exact this
theorem TxtG.uniq {g g' : Nat} {z : Str} (h : TxtG g z) (h' : TxtG g' z) : g = g' := by
  obtain ⟨a, r, e⟩ := h.split
  obtain ⟨a', r', e'⟩ := h'.split
  rw [e] at e'
  have e2 : numT g = numT g' := by injection e' with _ e'; injection e' with e' _
  have := congrArg (fun s : Str => s.cps.toList) e2
  simp only [numT_cps] at this
  exact numL_inj this
theorem TxtG.ne {g : Nat} {z : Str} (h : TxtG g z) : z ≠ Str.empty := by
  obtain ⟨a, r, ha, hz⟩ := h
  intro e
  rw [e] at hz
  have := congrArg List.length hz
  rw [show (Str.empty).cps.toList = [] from rfl] at this
  simp [glueL] at this
/-- the generation of a cell -/
def GenC (o : Option Str) (g : Nat) : Prop := match o with
  | none => g = 0
  | some z => (z = Str.empty ∧ g = 0) ∨ TxtG g z
theorem GenC.uniq {o : Option Str} {g g' : Nat} (h : GenC o g) (h' : GenC o g') : g = g' := by
  cases o with
  | none => exact (show g = 0 from h).trans (show g' = 0 from h').symm
  | some z =>
    rcases h with ⟨e, h⟩ | h <;> rcases h' with ⟨e', h'⟩ | h'
    · rw [h, h']
    · exact absurd e h'.ne
    · exact absurd e' h.ne
    · exact h.uniq h'
def wordsOf (o : Option Str) (k : Nat) : List Str := match o with
  | none => []
  | some z => if z = Str.empty then [] else Txt.splitMax z " " (k : Nat)
def spWords : Sp := fun vs H Q _ => ∃ (o : Option Str) (n : Nat), vs = [vO o, .int (n : Nat)] ∧ n ≤ 10 ∧ (∀ z, o = some z → z.length ≤ 10000) ∧ ∀ (L : Addr) (H' : Hp), H L = none → Same H H' → H' L = some (.lst ((wordsOf o n).map V.str)) → Q (.ref L) H'
theorem ok_words_of (T : Tx K mg) : FnOk P w K mg base CX0 1 T.a_words_of T.fd_words_of P_words_of spWords := by
  refine T.F_words_of.ok sc_words_of (fun vs H Q E h => ?_) (fun cdv A outer s H vs Q E hr h => ?_)
  · obtain ⟨o, n, rfl, _⟩ := h
    rfl
  · obtain ⟨o, n, rfl, hn, hz, k⟩ := h
    have nd := sc_words_of.nd
    refine ⟨_, (pss_cons (ps_if (PW.pt (pw_or (pt_cmpR op_isN (kv (i := 0) v_words_of_cell) pe_non (nomark _)) (pw_or1 (pt_cmpR op_eq (kv (i := 0) v_words_of_cell) pe_str (nomark _))))) (pss_one (ps_ret (pe_lst pa_nil))) pss_nil)
      (pss_one (ps_ret (pe_bm PySem.F.plainAttrs_str PySem.F.slot_str_split PySem.F.type_str_split mt_splitMax (kv (i := 0) v_words_of_cell) (pa_cons pe_str (pa_cons (kv (i := 1) v_words_of_many) pa_nil)))))), ?_⟩
    walk_at "ss"
    refine ⟨rfl, ?_⟩
    refine ⟨_, rfl, ?_⟩
    cases o with
    | none =>
      refine k_dt rfl ?_
      walk_at "ss"
      intro L nL
      exact k L _ nL (same_new nL) upd_same
    | some z =>
      refine k_df (fun e => by cases e) ?_
      walk_at "ss"
      refine k_eq rfl ?_
      rw [show decide (vO (some z) = V.str ("" : Str)) = decide (z = Str.empty) by simp [vO]; rfl]
      refine ⟨_, rfl, ?_⟩
      refine k_d (fun he => ?_) (fun he => ?_)
      · walk_at "ss"
        intro L nL
        exact k L _ nL (same_new nL) (by rw [upd_same]; show _ = some (HO.lst ((if z = Str.empty then [] else Txt.splitMax z " " (n : Nat)).map V.str)); rw [if_pos he]; rfl)
      · have hz1 := hz z rfl
        walk_at "ss"
        refine k_bm ?_
        walk_at "ss"
        refine ⟨rfl, ?_⟩
        walk_at "ss"
        refine ⟨z, " ", (n : Nat), rfl, rfl, by decide +kernel, by omega, by omega, small_size (by omega), fun L nL => ?_⟩
        refine k L _ nL (same_new nL) ?_
        rw [upd_same]
        show _ = some (HO.lst ((if z = Str.empty then [] else Txt.splitMax z " " (n : Nat)).map V.str))
        rw [if_neg he]
def spGen : Sp := fun vs H Q _ => ∃ (o : Option Str) (g : Nat), vs = [vO o] ∧ GenC o g ∧ g ≤ 1000000 ∧ (∀ z, o = some z → z.length ≤ 10000) ∧ ∀ H', Same H H' → Q (.int (g : Nat)) H'
theorem ok_generation_of (T : Tx K mg) : FnOk P w K mg base CX0 2 T.a_generation_of T.fd_generation_of P_generation_of spGen := by
  refine T.F_generation_of.ok sc_generation_of (fun vs H Q E h => ?_) (fun cdv A outer s H vs Q E hr h => ?_)
  · obtain ⟨o, g, rfl, _⟩ := h
    rfl
  · obtain ⟨o, g, rfl, hg, hg6, hz, k⟩ := h
    have nd := sc_generation_of.nd
    refine ⟨_, (pss_cons (ks_setL (i := 1) nd l_generation_of_words (pe_call (ok_words_of T) (hr.mono (by first | decide | omega)) g_generation_of_words_of T.m_words_of T.k_words_of T.b_words_of .nil pass0 (pa_cons (kv (i := 0) v_generation_of_cell) (pa_cons pe_int pa_nil))))
      (pss_one (ps_ret (pe_ifExp (pt_cmpR op_gt (kcB b_len (by decide) (by decide) (kc_len K) g_generation_of_len T.n_len (pa_cons (kv (i := 1) v_generation_of_words) pa_nil)) pe_int (nomark _)) (kcT b_int (by decide) (by decide) call_int_str g_generation_of_int T.n_int (pa_cons (pe_ix (kix K) (kv (i := 1) v_generation_of_words) pe_int (fun _ _ => rfl)) pa_nil)) pe_int)))), ?_⟩
    walk_at "ss"
    refine ⟨o, 2, rfl, by decide, hz, fun L H1 nL s1 hL => ?_⟩
    walk_at "ss"
    have zero : wordsOf o 2 = [] ∧ g = 0 ∨ ∃ a r : Str, wordsOf o 2 = [a, numT g, r] := by
      cases o with
      | none => exact .inl ⟨rfl, hg⟩
      | some z =>
        rcases hg with ⟨e, h⟩ | h
        · exact .inl ⟨by show (if z = Str.empty then _ else _) = _; rw [if_pos e], h⟩
        · obtain ⟨a, r, e⟩ := h.split
          exact .inr ⟨a, r, by show (if z = Str.empty then _ else _) = _; rw [if_neg h.ne]; exact e⟩
    rcases zero with ⟨e, rfl⟩ | ⟨a, r, e⟩
    · rw [e]
      refine k_df (by simp) ?_
      exact k H1 s1
    · rw [e] at hL ⊢
      refine k_dt (by simp) ?_
      walk_at "ss"
      have hlen : (numL g).length ≤ 10 := numL_len (by decide) (by omega)
      have hl2 : (numT g).length ≤ 640 := by
        have : (numT g).length = (numT g).cps.toList.length := by rw [Array.length_toList]; rfl
        rw [this, numT_cps]
        omega
      exact ⟨numT g, g, rfl, int_num (by omega), hl2, k H1 s1⟩
end

section
open TL
variable {w : World} {K : PySem.W.Frag} {mg : Str → Option Value} {base : Heap}
/-! ### frames -/
/-- all but what stands at F stays -/
def Fr (F : List Addr) (H H' : Hp) : Prop := ∀ x o, H x = some o → x ∉ F → H' x = some o
theorem Fr.refl (F : List Addr) (H : Hp) : Fr F H H := fun _ _ h _ => h
theorem Fr.of {F : List Addr} {H H' : Hp} (h : Same H H') : Fr F H H' := fun x o e _ => h x o e
/-- F2 is of F, or new behind H -/
def Nw (F F2 : List Addr) (H : Hp) : Prop := ∀ x ∈ F2, x ∈ F ∨ H x = none
theorem Fr.trans {F F2 : List Addr} {H H1 H2 : Hp} (h : Fr F H H1) (h2 : Fr F2 H1 H2) (n : Nw F F2 H) : Fr F H H2 := fun x o e ne => by
  refine h2 x o (h x o e ne) fun m => ?_
  rcases n x m with q | q
  · exact ne q
  · rw [e] at q; cases q
theorem Fr.mono {F F2 : List Addr} {H H' : Hp} (h : Fr F H H') (hs : ∀ x ∈ F, x ∈ F2) : Fr F2 H H' := fun x o e ne => h x o e fun m => ne (hs x m)
theorem Fr.put {F : List Addr} {H H' : Hp} {x : Addr} {o : HO} (h : Fr F H H') (hx : x ∈ F ∨ H x = none) : Fr F H (upd H' x o) := fun y u e ne => by
  have nyx : y ≠ x := fun q => by
    subst q
    rcases hx with hx | hx
    · exact ne hx
    · rw [e] at hx; cases hx
  rw [upd_ne nyx]
  exact h y u e ne
theorem Fr.same {F : List Addr} {H H1 H2 : Hp} (h : Fr F H H1) (s : Same H1 H2) : Fr F H H2 := fun x o e ne => s _ _ (h x o e ne)
theorem Nw.refl (F : List Addr) (H : Hp) : Nw F F H := fun _ h => .inl h
/-! ### a disk -/
abbrev Wr := Nat × Nat × Str
structure DS where
  most : Int
  tab : List (Str × Str)
  c0 : List (Option Str)
  c1 : List (Option Str)
  uns : List Wr
  syncs : Nat
  fallen : Bool
  area : Nat
  gen : Nat
  pieces : Nat
  rows : Nat
def putC (c : List (Option Str)) (i : Nat) (z : Str) : List (Option Str) := if i < c.length then c.set i (some z) else c ++ List.replicate (i - c.length) none ++ [some z]
theorem putC_len (c : List (Option Str)) (i : Nat) (z : Str) : (putC c i z).length = max c.length (i + 1) := by
  unfold putC
  split
  · rw [List.length_set]; omega
  · simp; omega
def DS.put (s : DS) (x : Wr) : DS := if x.1 = 0 then { s with c0 := putC s.c0 x.2.1 x.2.2 } else { s with c1 := putC s.c1 x.2.1 x.2.2 }
def kT (t : List (Str × Str)) : List (Key × V) := t.map fun z => (.inr z.1, .str z.2)
structure DF where
  a : Addr
  t : Addr
  ar : Addr
  c0 : Addr
  c1 : Addr
  u : Addr
def DF.l (f : DF) : List Addr := [f.a, f.t, f.ar, f.c0, f.c1, f.u]
abbrev nD6 : List Str := ["_most", "_table", "_areas", "_unsynced", "_syncs", "_fallen"]
abbrev nD : List Str := ["_most", "_table", "_areas", "_unsynced", "_syncs", "_fallen", "_area", "_generation", "_pieces", "_rows"]
def vD6 (f : DF) (s : DS) : List V := [.int s.most, .ref f.t, .ref f.ar, .ref f.u, .int (s.syncs : Nat), .bl s.fallen]
def vD (f : DF) (s : DS) : List V := [.int s.most, .ref f.t, .ref f.ar, .ref f.u, .int (s.syncs : Nat), .bl s.fallen, .int (s.area : Nat), .int (s.gen : Nat), .int (s.pieces : Nat), .int (s.rows : Nat)]
abbrev UL := List (Addr × Wr)
def WrAt (H : Hp) (z : Addr × Wr) : Prop := H z.1 = some (.tup [.int (z.2.1 : Nat), .int (z.2.2.1 : Nat), .str z.2.2.2])
structure UnsAt (H : Hp) (u : Addr) (l : UL) : Prop where
  at_ : H u = some (.lst (l.map fun z => V.ref z.1))
  ws : ∀ z ∈ l, WrAt H z
/-- all of a disk but its own fields -/
structure DiskB (H : Hp) (f : DF) (s : DS) (l : UL) : Prop where
  nd : f.l.Nodup
  ht : H f.t = some (.dK (kT s.tab))
  har : H f.ar = some (.lst [.ref f.c0, .ref f.c1])
  h0 : H f.c0 = some (.lst (s.c0.map vO))
  h1 : H f.c1 = some (.lst (s.c1.map vO))
  hu : UnsAt H f.u l
  eu : l.map (·.2) = s.uns
/-- its fields: before and behind the first area -/
def FldAt (T : Tx K mg) (H : Hp) (f : DF) (s : DS) (full : Bool) : Prop := ∃ dx : Addr, H f.a = some (.ins T.C_Disk dx (if full = true then FL nD (vD f s) else FL nD6 (vD6 f s)))
structure DiskAt (T : Tx K mg) (H : Hp) (f : DF) (s : DS) : Prop where
  at_ : FldAt T H f s true
  b : ∃ l, DiskB H f s l
structure Sz (s : DS) (n : Nat) : Prop where
  c0 : s.c0.length ≤ n
  c1 : s.c1.length ≤ n
  u : s.uns.length ≤ n
  i : ∀ x ∈ s.uns, x.2.1 < n
theorem k_via {te : TE} {σ : L2.St} {H : Hp} {Q : VK} (W : V → Hp → Prop) (h : ∀ Q0 : VK, (∀ v H', W v H' → Q0 v H') → te σ H Q0) (k : ∀ v H', W v H' → Q v H') : te σ H Q := h Q k
theorem k_fD {T : Tx K mg} {H : Hp} {f : DF} {s : DS} {full : Bool} {nm : Str} {i : Nat} {v : V} {Q : VK} (h : FldAt T H f s full) (no : NoAttr K T.C_Disk nm) (hi : pos? nm nD6 = some i) (hi2 : pos? nm nD = some i) (hv : (vD6 f s)[i]? = some v) (hv2 : (vD f s)[i]? = some v) (q : Q v H) : rFld K nm (.ref f.a) H Q := by
  obtain ⟨dx, h⟩ := h
  cases full with
  | false => exact k_fldAt h T.cl_Disk no hi hv q
  | true => exact k_fldAt h T.cl_Disk no hi2 hv2 q
theorem DF.nds {f : DF} (h : f.l.Nodup) : f.a ≠ f.t ∧ f.a ≠ f.ar ∧ f.a ≠ f.c0 ∧ f.a ≠ f.c1 ∧ f.a ≠ f.u ∧ f.t ≠ f.ar ∧ f.t ≠ f.c0 ∧ f.t ≠ f.c1 ∧ f.t ≠ f.u ∧ f.ar ≠ f.c0 ∧ f.ar ≠ f.c1 ∧ f.ar ≠ f.u ∧ f.c0 ≠ f.c1 ∧ f.c0 ≠ f.u ∧ f.c1 ≠ f.u := by
  unfold DF.l at h
  simp only [List.nodup_cons, List.mem_cons, List.not_mem_nil, or_false, not_or] at h
  obtain ⟨⟨h1, h2, h3, h4, h5⟩, ⟨h6, h7, h8, h9⟩, ⟨h10, h11, h12⟩, ⟨h13, h14⟩, h15, _⟩ := h
  exact ⟨h1, h2, h3, h4, h5, h6, h7, h8, h9, h10, h11, h12, h13, h14, h15⟩
theorem WrAt.fr {F : List Addr} {H H' : Hp} {z : Addr × Wr} (h : WrAt H z) (fr : Fr F H H') (n : ∀ x ∈ F, ∀ xs, H x ≠ some (.tup xs)) : WrAt H' z := fr _ _ h fun m => n _ m _ h
theorem UnsAt.fr {F : List Addr} {H H' : Hp} {u : Addr} {l : UL} (h : UnsAt H u l) (fr : Fr F H H') (n : ∀ x ∈ F, ∀ xs, H x ≠ some (.tup xs)) (hu : u ∉ F) : UnsAt H' u l := ⟨fr _ _ h.at_ hu, fun z hz => (h.ws z hz).fr fr n⟩
theorem UnsAt.up {H H' : Hp} {u : Addr} {l : UL} (h : UnsAt H u l) (e : Same H H') : UnsAt H' u l := ⟨e _ _ h.at_, fun z hz => e _ _ (h.ws z hz)⟩
theorem DiskB.up {H H' : Hp} {f : DF} {s : DS} {l : UL} (h : DiskB H f s l) (e : Same H H') : DiskB H' f s l := ⟨h.nd, e _ _ h.ht, e _ _ h.har, e _ _ h.h0, e _ _ h.h1, h.hu.up e, h.eu⟩
theorem FldAt.up {T : Tx K mg} {H H' : Hp} {f : DF} {s : DS} {full : Bool} (h : FldAt T H f s full) (e : Same H H') : FldAt T H' f s full := by
  obtain ⟨dx, h⟩ := h
  exact ⟨dx, e _ _ h⟩
def spPut (T : Tx K mg) : Sp := fun vs H Q _ => ∃ (f : DF) (s : DS) (l : UL) (full : Bool) (x : Wr), vs = [.ref f.a, .int (x.1 : Nat), .int (x.2.1 : Nat), .str x.2.2] ∧ FldAt T H f s full ∧ DiskB H f s l ∧ x.1 ≤ 1 ∧ x.2.1 ≤ 30000 ∧ s.c0.length ≤ 30000 ∧ s.c1.length ≤ 30000 ∧
  ∀ H', Fr [f.c0, f.c1] H H' → DiskB H' f (s.put x) l → Q .non H'
theorem ok_Disk_put (T : Tx K mg) : FnOk P w K mg base CX0 1 T.a_Disk_put T.fd_Disk_put P_Disk_put (spPut T) := by
  refine T.F_Disk_put.ok sc_Disk_put (fun vs H Q E h => ?_) (fun cdv A outer s H vs Q E hr h => ?_)
  · obtain ⟨f, s, l, full, x, rfl, _⟩ := h
    rfl
  · obtain ⟨f, d, l, full, x, rfl, ⟨dx, ha⟩, hB, hx1, hxi, hl0, hl1, k⟩ := h
    have nd := sc_Disk_put.nd
    refine ⟨_, (pss_cons (ks_setL (i := 4) nd l_Disk_put_cells (pe_ix (kix K) (kpe_fld K (kv (i := 0) v_Disk_put_self)) (kv (i := 1) v_Disk_put_area) (fun _ _ => rfl)))
      (pss_cons (ps_while PassesOwn.never (pt_cmpR op_le (kcB b_len (by decide) (by decide) (kc_len K) g_Disk_put_len T.n_len (pa_cons (kv (i := 4) v_Disk_put_cells) pa_nil)) (kv (i := 2) v_Disk_put_index) (nomark _)) (pss_one (ps_expr (pe_bm PySem.F.plainAttrs_list PySem.F.slot_list_append PySem.F.type_list_append mt_append (kv (i := 4) v_Disk_put_cells) (pa_cons pe_non pa_nil)))))
      (pss_one (ps_asg (kv (i := 3) v_Disk_put_text) (pg_sub (kv (i := 4) v_Disk_put_cells) (kv (i := 2) v_Disk_put_index) set_list))))), ?_⟩
    obtain ⟨n1, n2, n3, n4, n5, n6, n7, n8, n9, n10, n11, n12, n13, n14, n15⟩ := DF.nds hB.nd
    have hfl : FldAt T H f d full := ⟨dx, ha⟩
    refine k_seq ?_
    refine k_asg ?_
    refine k_via (fun v H' => H' = H ∧ ∃ (c : Addr) (cs : List (Option Str)), v = .ref c ∧ H c = some (.lst (cs.map vO)) ∧ cs.length ≤ 30000 ∧ ∀ H', Fr [c] H H' → H' c = some (.lst ((putC cs x.2.1 x.2.2).map vO)) → Q .non H') ?_ ?_
    · intro Q0 hW
      walk_at "ss"
      refine k_fD hfl T.no_Disk_areas (i := 2) (by decide +kernel) (by decide +kernel) rfl rfl ?_
      walk_at "ss"
      have hx : x.1 = 0 ∨ x.1 = 1 := by omega
      have tl : ∀ (c : Addr) (H' : Hp), Fr [c] H H' → (∀ y xs, H y = some (.tup xs) → y ≠ c) → ∀ z ∈ l, WrAt H' z := fun c H' fr hc z hz => fr _ _ (hB.hu.ws z hz) (by simpa using hc _ _ (hB.hu.ws z hz))
      rcases hx with hx | hx
      · rw [hx]
        refine k_ixL (SqL.of hB.har) (v := .ref f.c0) (atI_nat (j := 0) rfl) ?_
        refine hW _ _ ⟨rfl, f.c0, d.c0, rfl, hB.h0, hl0, fun H' fr hc => k H' (fr.mono (by simp)) ?_⟩
        have e : d.put x = { d with c0 := putC d.c0 x.2.1 x.2.2 } := by unfold DS.put; rw [if_pos hx]
        rw [e]
        exact ⟨hB.nd, fr _ _ hB.ht (by simpa using n7), fr _ _ hB.har (by simpa using n10), hc, fr _ _ hB.h1 (by simpa using Ne.symm n13), ⟨fr _ _ hB.hu.at_ (by simpa using Ne.symm n14), tl _ _ fr fun y xs hy => ne_of hy hB.h0 (by intro q; cases q)⟩, hB.eu⟩
      · rw [hx]
        refine k_ixL (SqL.of hB.har) (v := .ref f.c1) (atI_nat (j := 1) rfl) ?_
        refine hW _ _ ⟨rfl, f.c1, d.c1, rfl, hB.h1, hl1, fun H' fr hc => k H' (fr.mono (by simp)) ?_⟩
        have e : d.put x = { d with c1 := putC d.c1 x.2.1 x.2.2 } := by unfold DS.put; rw [if_neg (by omega)]
        rw [e]
        exact ⟨hB.nd, fr _ _ hB.ht (by simpa using n8), fr _ _ hB.har (by simpa using n11), fr _ _ hB.h0 (by simpa using n13), hc, ⟨fr _ _ hB.hu.at_ (by simpa using Ne.symm n15), tl _ _ fr fun y xs hy => ne_of hy hB.h1 (by intro q; cases q)⟩, hB.eu⟩
    · rintro v H' ⟨rfl, c, cs, rfl, hc, hcl, kk⟩
      refine k_gName ?_
      dsimp only
      refine k_seq ?_
      refine k_while (fun m σ H1 => ∃ n : Nat, σ = [some (.ref f.a), some (.int (x.1 : Nat)), some (.int (x.2.1 : Nat)), some (.str x.2.2), some (.ref c)] ∧ H1 c = some (.lst ((cs ++ List.replicate n none).map vO)) ∧ Fr [c] H' H1 ∧ m = x.2.1 + 1 - (cs.length + n) ∧ (n = 0 ∨ cs.length + n ≤ x.2.1 + 1)) (x.2.1 + 1 - cs.length) ⟨0, rfl, by simpa using hc, Fr.refl _ _, rfl, .inl rfl⟩ ?_
      rintro m σ H1 ⟨n, rfl, hc1, fr, rfl, hn⟩
      walk_at "ss"
      rw [List.length_map, List.length_append, List.length_replicate]
      refine k_d (fun hle => ?_) (fun hle => ?_)
      · refine ⟨fun σ H2 => ∃ n2 : Nat, σ = [some (.ref f.a), some (.int (x.1 : Nat)), some (.int (x.2.1 : Nat)), some (.str x.2.2), some (.ref c)] ∧ H2 c = some (.lst ((cs ++ List.replicate n2 none).map vO)) ∧ Fr [c] H' H2 ∧ n2 = n + 1, ?_, ?_⟩
        · rintro σ H2 ⟨n2, rfl, h1, h2, rfl⟩
          exact ⟨_, by omega, n + 1, rfl, h1, h2, rfl, .inr (by omega)⟩
        · walk_at "ss"
          refine k_bm ?_
          walk_at "ss"
          refine ⟨.inl ⟨rfl, _, SqL.of hc1⟩, ?_⟩
          walk_at "ss"
          refine k_app hc1 (by rw [List.length_map, List.length_append, List.length_replicate]; omega) ?_
          refine ⟨n + 1, rfl, ?_, fr.put (.inl (by simp)), rfl⟩
          rw [upd_same, List.replicate_succ', ← List.append_assoc]
          simp [vO]
      · have hgt : x.2.1 < cs.length + n := by omega
        walk_at "ss"
        have eix : ixN ((cs ++ List.replicate n none).map vO).length ((x.2.1 : Nat) : Int) = some x.2.1 := by
          unfold ixN
          rw [if_pos (by omega), if_pos (by simp only [List.length_map, List.length_append, List.length_replicate]; omega), Int.toNat_natCast]
        refine k_setL hc1 eix ?_
        refine kk _ (fr.put (.inl (by simp))) ?_
        rw [upd_same]
        congr 2
        have e2 : ((cs ++ List.replicate n none).map vO).set x.2.1 (.str x.2.2) = (((cs ++ List.replicate n none).set x.2.1 (some x.2.2))).map vO := by rw [List.map_set]; rfl
        rw [e2]
        congr 1
        unfold putC
        by_cases hlt : x.2.1 < cs.length
        · have h0 : n = 0 := by omega
          subst h0
          rw [if_pos hlt]
          simp
        · rw [if_neg hlt]
          have h1 : n = x.2.1 - cs.length + 1 := by omega
          subst h1
          rw [List.set_append_right _ _ (by omega), List.replicate_succ', List.set_append_right _ _ (by rw [List.length_replicate]; exact Nat.le_refl _), List.length_replicate, Nat.sub_self, List.append_assoc]
          rfl
end

section
open TL
variable {w : World} {K : PySem.W.Frag} {mg : Str → Option Value} {base : Heap}
/-! ### sync -/
def DS.puts (s : DS) (ws : List Wr) : DS := ws.foldl DS.put s
def DS.syncd (s : DS) : DS := { s.puts s.uns with syncs := s.syncs + (if s.uns = [] then 0 else 1), uns := [] }
theorem put_same (s : DS) (x : Wr) : (s.put x).most = s.most ∧ (s.put x).tab = s.tab ∧ (s.put x).uns = s.uns ∧ (s.put x).syncs = s.syncs ∧ (s.put x).fallen = s.fallen ∧ (s.put x).area = s.area ∧ (s.put x).gen = s.gen ∧ (s.put x).pieces = s.pieces ∧ (s.put x).rows = s.rows := by
  unfold DS.put
  split <;> exact ⟨rfl, rfl, rfl, rfl, rfl, rfl, rfl, rfl, rfl⟩
theorem puts_same : ∀ (ws : List Wr) (s : DS), (s.puts ws).most = s.most ∧ (s.puts ws).tab = s.tab ∧ (s.puts ws).uns = s.uns ∧ (s.puts ws).syncs = s.syncs ∧ (s.puts ws).fallen = s.fallen ∧ (s.puts ws).area = s.area ∧ (s.puts ws).gen = s.gen ∧ (s.puts ws).pieces = s.pieces ∧ (s.puts ws).rows = s.rows
  | [], s => ⟨rfl, rfl, rfl, rfl, rfl, rfl, rfl, rfl, rfl⟩
  | x :: ws, s => by
    obtain ⟨a1, a2, a3, a4, a5, a6, a7, a8, a9⟩ := put_same s x
    obtain ⟨b1, b2, b3, b4, b5, b6, b7, b8, b9⟩ := puts_same ws (s.put x)
    exact ⟨b1.trans a1, b2.trans a2, b3.trans a3, b4.trans a4, b5.trans a5, b6.trans a6, b7.trans a7, b8.trans a8, b9.trans a9⟩
theorem put_lens {s : DS} {x : Wr} {n : Nat} (h0 : s.c0.length ≤ n) (h1 : s.c1.length ≤ n) (hx : x.2.1 < n) : (s.put x).c0.length ≤ n ∧ (s.put x).c1.length ≤ n := by
  unfold DS.put
  split
  · exact ⟨by show (putC s.c0 _ _).length ≤ n; rw [putC_len]; omega, h1⟩
  · exact ⟨h0, by show (putC s.c1 _ _).length ≤ n; rw [putC_len]; omega⟩
theorem puts_lens {n : Nat} : ∀ {ws : List Wr} {s : DS}, s.c0.length ≤ n → s.c1.length ≤ n → (∀ x ∈ ws, x.2.1 < n) → (s.puts ws).c0.length ≤ n ∧ (s.puts ws).c1.length ≤ n
  | [], s, h0, h1, _ => ⟨h0, h1⟩
  | x :: ws, s, h0, h1, hx => by
    obtain ⟨g0, g1⟩ := put_lens h0 h1 (hx x List.mem_cons_self)
    exact puts_lens (ws := ws) g0 g1 fun y hy => hx y (List.mem_cons_of_mem _ hy)
theorem puts_cells : ∀ (ws : List Wr) {s s' : DS}, s.c0 = s'.c0 → s.c1 = s'.c1 → (s.puts ws).c0 = (s'.puts ws).c0 ∧ (s.puts ws).c1 = (s'.puts ws).c1
  | [], _, _, h0, h1 => ⟨h0, h1⟩
  | x :: ws, s, s', h0, h1 => by
    refine puts_cells ws (s := s.put x) (s' := s'.put x) ?_ ?_
    · unfold DS.put
      split
      · show putC s.c0 _ _ = putC s'.c0 _ _; rw [h0]
      · exact h0
    · unfold DS.put
      split
      · exact h1
      · show putC s.c1 _ _ = putC s'.c1 _ _; rw [h1]
/-- what a disk's numbers may be -/
structure Ok (s : DS) (n : Nat) : Prop where
  c0 : s.c0.length ≤ n
  c1 : s.c1.length ≤ n
  u : s.uns.length ≤ n
  i : ∀ x ∈ s.uns, x.1 ≤ 1 ∧ x.2.1 < n
theorem FldAt.fr {T : Tx K mg} {F : List Addr} {H H' : Hp} {f : DF} {s : DS} {full : Bool} (h : FldAt T H f s full) (fr : Fr F H H') (n : f.a ∉ F) : FldAt T H' f s full := by
  obtain ⟨dx, h⟩ := h
  exact ⟨dx, fr _ _ h n⟩
theorem FldAt.ins {T : Tx K mg} {H : Hp} {f : DF} {s : DS} {full : Bool} (h : FldAt T H f s full) : ∃ dx fs, H f.a = some (.ins T.C_Disk dx fs) ∧ ∀ m, nin m nD = true → fs.lookup m = none := by
  obtain ⟨dx, h⟩ := h
  cases full with
  | true => exact ⟨dx, _, h, fun m hm => fl_no hm⟩
  | false =>
    refine ⟨dx, _, h, fun m hm => fl_no ?_⟩
    simp only [nin, Bool.and_eq_true] at hm ⊢
    obtain ⟨h1, h2, h3, h4, h5, h6, _⟩ := hm
    exact ⟨h1, h2, h3, h4, h5, h6, trivial⟩
theorem FldAt.congr {T : Tx K mg} {H : Hp} {f : DF} {s s' : DS} {full : Bool} (h : FldAt T H f s full) (e : vD f s = vD f s') (e6 : vD6 f s = vD6 f s') : FldAt T H f s' full := by
  obtain ⟨dx, h⟩ := h
  refine ⟨dx, ?_⟩
  rw [h, e, e6]
theorem vD_puts (f : DF) (s : DS) (ws : List Wr) : vD f s = vD f (s.puts ws) ∧ vD6 f s = vD6 f (s.puts ws) := by
  obtain ⟨a1, a2, a3, a4, a5, a6, a7, a8, a9⟩ := puts_same ws s
  unfold vD vD6
  rw [a1, a4, a5, a6, a7, a8, a9]
  exact ⟨rfl, rfl⟩
def spSync (T : Tx K mg) : Sp := fun vs H Q _ => ∃ (f : DF) (s : DS), vs = [.ref f.a] ∧ DiskAt T H f s ∧ s.fallen = false ∧ Ok s 30000 ∧ ∀ (f' : DF) (H' : Hp), f'.a = f.a → Fr f.l H H' → Nw f.l f'.l H → DiskAt T H' f' s.syncd → Q .non H'
theorem ok_Disk_sync (T : Tx K mg) : FnOk P w K mg base CX0 2 T.a_Disk_sync T.fd_Disk_sync P_Disk_sync (spSync T) := by
  refine T.F_Disk_sync.ok sc_Disk_sync (fun vs H Q E h => ?_) (fun cdv A outer s H vs Q E hr h => ?_)
  · obtain ⟨f, s, rfl, _⟩ := h
    rfl
  · obtain ⟨f, d, rfl, ⟨hF, l, hB⟩, hfn, hok, k⟩ := h
    have nd := sc_Disk_sync.nd
    obtain ⟨n1, n2, n3, n4, n5, n6, n7, n8, n9, n10, n11, n12, n13, n14, n15⟩ := DF.nds hB.nd
    refine ⟨_, (pss_cons (ps_if (kpt_truth K (kpe_fld K (kv (i := 0) v_Disk_sync_self))) (pss_one ps_never) pss_nil)
      (kss_meet (ps_if (pt_cmpR op_gt (kcB b_len (by decide) (by decide) (kc_len K) g_Disk_sync_len T.n_len (pa_cons (kpe_fld K (kv (i := 0) v_Disk_sync_self)) pa_nil)) pe_int (nomark _)) (pss_one (kps_fldaug K (kv (i := 0) v_Disk_sync_self) pe_int iop_add)) pss_nil)
      (pss_cons (ps_for PassesOwn.never rfl (kpi_list K (kpe_fld K (kv (i := 0) v_Disk_sync_self))) (kpg_tup K 3 rfl (pgs_cons (kgL (i := 1) nd l_Disk_sync_area) (pgs_cons (kgL (i := 2) nd l_Disk_sync_index) (pgs_cons (kgL (i := 3) nd l_Disk_sync_text) pgs_nil)))) (pss_one (ps_expr (kpe_methP (disp1 T.cl_Disk T.me_Disk_put (ok_Disk_put T) T.b_Disk_put) (hr.mono (by first | decide | omega)) pass0 (kv (i := 0) v_Disk_sync_self) (pa_cons (kv (i := 1) v_Disk_sync_area) (pa_cons (kv (i := 2) v_Disk_sync_index) (pa_cons (kv (i := 3) v_Disk_sync_text) pa_nil)))))))
      (pss_one (kps_fld K (kv (i := 0) v_Disk_sync_self) (pe_lst pa_nil)))))), ?_⟩
    walk_at "ss"
    refine k_tru ?_
    walk_at "ss"
    refine k_fD hF T.no_Disk_fallen (i := 5) (by decide +kernel) (by decide +kernel) rfl rfl ?_
    refine ⟨d.fallen, rfl, ?_⟩
    rw [hfn]
    refine k_f ?_
    walk_at "ss"
    have hul : l.length = d.uns.length := by rw [← hB.eu, List.length_map]
    obtain ⟨d1, hd1⟩ : ∃ d1 : DS, d1 = { d with syncs := d.syncs + (if d.uns = [] then 0 else 1) } := ⟨_, rfl⟩
    have hBd : ∀ {H : Hp}, DiskB H f d l → DiskB H f d1 l := fun h => by subst hd1; exact ⟨h.nd, h.ht, h.har, h.h0, h.h1, h.hu, h.eu⟩
    have eu1 : d1.uns = d.uns := by rw [hd1]
    have ok1 : Ok d1 30000 := by subst hd1; exact ⟨hok.c0, hok.c1, hok.u, hok.i⟩
    refine k_meet (fun σ H' => σ = [some (.ref f.a), none, none, none] ∧ Fr f.l H H' ∧ FldAt T H' f d1 true ∧ DiskB H' f d1 l) ?_ ?_
    · walk_at "ss"
      refine k_fD hF T.no_Disk_unsynced (i := 3) (by decide +kernel) (by decide +kernel) rfl rfl ?_
      walk_at "ss"
      refine k_lenL (SqL.of hB.hu.at_) ?_
      walk_at "ss"
      rw [List.length_map, hul]
      refine k_d (fun hp => ?_) (fun hp => ?_)
      · have hne : d.uns ≠ [] := fun e => by rw [e] at hp; simp at hp
        obtain ⟨dx, ha⟩ := hF
        have ha : H f.a = some (.ins T.C_Disk dx (FL nD (vD f d))) := ha
        refine ⟨_, rfl, f.a, T.C_Disk, dx, _, .int (d.syncs : Nat), rfl, ha, T.cl_Disk, T.no_Disk_syncs, fl_get (i := 4) (by decide +kernel) rfl, ?_⟩
        walk_at "ss"
        refine ⟨dx, _, ha, Nat.lt_of_le_of_lt fl_len (by decide), ?_⟩
        rw [put_old (ns := nD) (i := 4) (by decide +kernel) (by show 4 < 10; decide)]
        have hBf : DiskB (upd H f.a (.ins T.C_Disk dx (FL nD ((vD f d).set 4 (.int ((d.syncs : Nat) + 1)))))) f d l := by
          have fr : Fr [f.a] H (upd H f.a (.ins T.C_Disk dx (FL nD ((vD f d).set 4 (.int ((d.syncs : Nat) + 1)))))) := (Fr.refl _ _).put (.inl (by simp))
          exact ⟨hB.nd, fr _ _ hB.ht (by simpa using Ne.symm n1), fr _ _ hB.har (by simpa using Ne.symm n2), fr _ _ hB.h0 (by simpa using Ne.symm n3), fr _ _ hB.h1 (by simpa using Ne.symm n4), hB.hu.fr fr (fun x hx xs => by rw [List.mem_singleton.mp hx, ha]; intro q; cases q) (by simpa using Ne.symm n5), hB.eu⟩
        refine ⟨rfl, (Fr.refl _ _).put (.inl (by simp [DF.l])), ⟨dx, ?_⟩, hBd hBf⟩
        rw [upd_same]
        subst hd1
        show some (HO.ins T.C_Disk dx (FL nD _)) = some (HO.ins T.C_Disk dx (FL nD (vD f _)))
        congr 2
        rw [if_neg hne]
        rfl
      · have he : d.uns = [] := by
          cases hu : d.uns with
          | nil => rfl
          | cons => rw [hu] at hp; simp at hp
        walk_at "ss"
        refine ⟨rfl, Fr.refl _ _, ?_, hBd hB⟩
        rw [hd1, if_pos he]
        exact hF
    · rintro σ H1 ⟨rfl, fr1, hF1, hB1⟩
      walk_at "ss"
      refine k_fD hF1 T.no_Disk_unsynced (i := 3) (by decide +kernel) (by decide +kernel) rfl rfl ?_
      refine k_iL (SqL.of hB1.hu.at_) ?_
      refine k_forList (l.map fun z => V.ref z.1) (fun i σ H' => (∃ u1 u2 u3, σ = [some (.ref f.a), u1, u2, u3]) ∧ Fr f.l H H' ∧ FldAt T H' f (d1.puts (d.uns.take i)) true ∧ DiskB H' f (d1.puts (d.uns.take i)) l) ⟨⟨_, _, _, rfl⟩, fr1, hF1, hB1⟩ (fun i σ H' _ h => SqL.of h.2.2.2.hu.at_) ?_ ?_
      · rintro i x σ H' hx ⟨⟨u1, u2, u3, rfl⟩, fr, hF2, hB2⟩
        rw [List.getElem?_map] at hx
        obtain ⟨z, hz, rfl⟩ := Option.map_eq_some_iff.mp hx
        have hzw := hB2.hu.ws z (List.mem_of_getElem? hz)
        have huz : d.uns[i]? = some z.2 := by rw [← hB.eu, List.getElem?_map, hz]; rfl
        have hzm := hok.i z.2 (List.mem_of_getElem? huz)
        refine k_gTup (SqT.of hzw) rfl ?_
        walk_at "ss"
        refine k_meth ?_
        walk_at "ss"
        obtain ⟨dx, fs, hins, hno⟩ := hF2.ins
        refine ⟨f.a, _, _, _, _, rfl, hins, ⟨rfl, rfl⟩, hno _ (by decide +kernel), ?_⟩
        walk_at "ss"
        have hle := puts_lens (ws := d.uns.take i) ok1.c0 ok1.c1 (fun x hx => (hok.i x (List.mem_of_mem_take hx)).2)
        refine ⟨f, d1.puts (d.uns.take i), l, true, z.2, rfl, hF2, hB2, hzm.1, by omega, hle.1, hle.2, fun H3 fr3 hB3 => ?_⟩
        have step : d1.puts (d.uns.take (i + 1)) = (d1.puts (d.uns.take i)).put z.2 := by
          unfold DS.puts
          rw [List.take_add_one, huz, List.foldl_append]
          rfl
        refine ⟨⟨_, _, _, rfl⟩, fr.trans fr3 (fun x hx => .inl ?_), ?_, by rw [step]; exact hB3⟩
        · simp only [List.mem_cons, List.not_mem_nil, or_false] at hx
          rcases hx with rfl | rfl <;> simp [DF.l]
        · rw [step]
          have h3 := hF2.fr fr3 (by simp [n3, n4])
          obtain ⟨e1, e2⟩ := vD_puts f (d1.puts (d.uns.take i)) [z.2]
          exact h3.congr e1 e2
      · rintro σ H' ⟨⟨u1, u2, u3, rfl⟩, fr, hF2, hB2⟩
        rw [List.length_map, hul, List.take_length] at hB2 hF2
        walk_at "ss"
        intro u nu
        have s4 := same_new (o := .lst []) nu
        have hF4 := hF2.up s4
        have hB4 := hB2.up s4
        have fr4 := fr.same s4
        have huu : upd H' u (.lst []) u = some (.lst []) := upd_same
        generalize upd H' u (.lst []) = H4 at hF4 hB4 fr4 huu
        obtain ⟨dx, ha⟩ := hF4
        have ha : H4 f.a = some (.ins T.C_Disk dx (FL nD (vD f (d1.puts d.uns)))) := ha
        have nuo : ∀ {x : Addr} {o : HO}, H' x = some o → x ≠ u := fun h => ne_of_none h nu
        have nua : f.a ≠ u := by obtain ⟨dx2, h⟩ := hF2; exact nuo h
        walk_at "ss"
        refine k_putOld ha T.cl_Disk T.no_Disk_unsynced (i := 3) (by decide +kernel) (by show 3 < 10; decide) (by decide) ?_
        obtain ⟨a1, a2, a3, a4, a5, a6, a7, a8, a9⟩ := puts_same d.uns d1
        have hHu : H u = none := by
          cases hz : H u with
          | none => rfl
          | some o =>
            exfalso
            by_cases hm : u ∈ f.l
            · unfold DF.l at hm
              simp only [List.mem_cons, List.not_mem_nil, or_false] at hm
              obtain ⟨dx2, h⟩ := hF2
              rcases hm with e | e | e | e | e | e
              · exact nua e.symm
              · exact nuo hB2.ht e.symm
              · exact nuo hB2.har e.symm
              · exact nuo hB2.h0 e.symm
              · exact nuo hB2.h1 e.symm
              · exact nuo hB2.hu.at_ e.symm
            · exact nuo (fr _ _ hz hm) rfl
        have fr5 : Fr [f.a] H4 (upd H4 f.a (.ins T.C_Disk dx (FL nD ((vD f (d1.puts d.uns)).set 3 (.ref u))))) := (Fr.refl _ _).put (.inl (by simp))
        refine k { f with u := u } _ rfl (fr4.trans fr5 (fun x hx => .inl (by rw [List.mem_singleton.mp hx]; simp [DF.l]))) (fun x hx => ?_) ⟨⟨dx, ?_⟩, [], ?_⟩
        · unfold DF.l at hx ⊢
          simp only [List.mem_cons, List.not_mem_nil, or_false] at hx ⊢
          rcases hx with rfl | rfl | rfl | rfl | rfl | rfl
          · exact .inl (.inl rfl)
          · exact .inl (.inr (.inl rfl))
          · exact .inl (.inr (.inr (.inl rfl)))
          · exact .inl (.inr (.inr (.inr (.inl rfl))))
          · exact .inl (.inr (.inr (.inr (.inr (.inl rfl)))))
          · exact .inr hHu
        · rw [upd_same]
          have e : (vD f (d1.puts d.uns)).set 3 (.ref u) = vD { f with u := u } d.syncd := by
            obtain ⟨b1, b2, b3, b4, b5, b6, b7, b8, b9⟩ := puts_same d.uns d
            show [_, _, _, _, _, _, _, _, _, _] = [_, _, _, _, _, _, _, _, _, _]
            rw [a1, a4, a5, a6, a7, a8, a9]
            show _ = [V.int (d.puts d.uns).most, _, _, _, .int ((d.syncs + (if d.uns = [] then 0 else 1) : Nat)), .bl (d.puts d.uns).fallen, .int ((d.puts d.uns).area : Nat), .int ((d.puts d.uns).gen : Nat), .int ((d.puts d.uns).pieces : Nat), .int ((d.puts d.uns).rows : Nat)]
            rw [b1, b5, b6, b7, b8, b9, hd1]
          rw [e]
          rfl
        · have ep := puts_cells d.uns (show d1.c0 = d.c0 by rw [hd1]) (show d1.c1 = d.c1 by rw [hd1])
          have et : d.syncd.tab = (d1.puts d.uns).tab := by
            show (d.puts d.uns).tab = _
            rw [(puts_same d.uns d).2.1, a2, hd1]
          have nt := hB4.nd
          obtain ⟨m1, m2, m3, m4, m5, m6, m7, m8, m9, m10, m11, m12, m13, m14, m15⟩ := DF.nds nt
          refine ⟨?_, ?_, fr5 _ _ hB4.har (by simpa using Ne.symm m2), ?_, ?_, ⟨fr5 _ _ huu (by simpa using Ne.symm nua), fun z hz => absurd hz List.not_mem_nil⟩, rfl⟩
          · have q := nuo hB2.ht
            have q2 := nuo hB2.har
            have q3 := nuo hB2.h0
            have q4 := nuo hB2.h1
            show [f.a, f.t, f.ar, f.c0, f.c1, u].Nodup
            simp only [List.nodup_cons, List.mem_cons, List.not_mem_nil, or_false, not_or, List.nodup_nil, and_true, not_false_eq_true]
            exact ⟨⟨m1, m2, m3, m4, nua⟩, ⟨m6, m7, m8, q⟩, ⟨m10, m11, q2⟩, ⟨m13, q3⟩, q4⟩
          · rw [et]
            exact fr5 _ _ hB4.ht (by simpa using Ne.symm m1)
          · rw [show d.syncd.c0 = (d1.puts d.uns).c0 from ep.1.symm]
            exact fr5 _ _ hB4.h0 (by simpa using Ne.symm m3)
          · rw [show d.syncd.c1 = (d1.puts d.uns).c1 from ep.2.symm]
            exact fr5 _ _ hB4.h1 (by simpa using Ne.symm m4)
end

section
open TL
/-! ### the texts of cells; what a disk's deeds do, as data -/
theorem cps_app (a b : Str) : (a ++ b).cps.toList = a.cps.toList ++ b.cps.toList := by
  show (a.cps ++ b.cps).toList = _
  simp
def headT (g n : Nat) : Str := Str.empty ++ ("head " : Str) ++ numT g ++ (" " : Str) ++ numT n
def pieceT (g k : Nat) (z : Str) : Str := Str.empty ++ ("piece " : Str) ++ numT g ++ (" " : Str) ++ numT k ++ (" " : Str) ++ z
def rowT (g s l : Nat) (z : Str) : Str := Str.empty ++ ("row " : Str) ++ numT g ++ (" " : Str) ++ numT s ++ (" " : Str) ++ numT l ++ (" " : Str) ++ z
theorem cps_blank : (" " : Str).cps.toList = [32] := by decide +kernel
theorem cps_empty : (Str.empty).cps.toList = [] := rfl
theorem headT_g (g n : Nat) : TxtG g (headT g n) := by
  refine ⟨[104, 101, 97, 100], numL n, by decide, ?_⟩
  unfold headT
  rw [cps_app, cps_app, cps_app, cps_app, numT_cps, numT_cps, cps_blank, show ("head " : Str).cps.toList = [104, 101, 97, 100, 32] by decide +kernel]
  simp [glueL, cps_empty]
theorem pieceT_g (g k : Nat) (z : Str) : TxtG g (pieceT g k z) := by
  refine ⟨[112, 105, 101, 99, 101], numL k ++ 32 :: z.cps.toList, by decide, ?_⟩
  unfold pieceT
  rw [cps_app, cps_app, cps_app, cps_app, cps_app, cps_app, numT_cps, numT_cps, cps_blank, show ("piece " : Str).cps.toList = [112, 105, 101, 99, 101, 32] by decide +kernel]
  simp [glueL, cps_empty]
theorem rowT_g (g s l : Nat) (z : Str) : TxtG g (rowT g s l z) := by
  refine ⟨[114, 111, 119], numL s ++ 32 :: (numL l ++ 32 :: z.cps.toList), by decide, ?_⟩
  unfold rowT
  rw [cps_app, cps_app, cps_app, cps_app, cps_app, cps_app, cps_app, cps_app, numT_cps, numT_cps, numT_cps, cps_blank, show ("row " : Str).cps.toList = [114, 111, 119, 32] by decide +kernel]
  simp [glueL, cps_empty]
theorem numT_len {n : Nat} (h : n < 10000000000) : (numT n).length ≤ 10 := by
  have : (numT n).length = (numT n).cps.toList.length := by rw [Array.length_toList]; rfl
  rw [this, numT_cps]
  exact numL_len (by decide) h
/-- lists of pairs as tables, of any kinds -/
def setG {κ α : Type} [DecidableEq κ] (t : List (κ × α)) (k : κ) (v : α) : List (κ × α) := if (t.any fun z => decide (z.1 = k)) = true then t.map (fun z => if z.1 = k then (z.1, v) else z) else t ++ [(k, v)]
def dropG {κ α : Type} [DecidableEq κ] (t : List (κ × α)) (k : κ) : List (κ × α) := t.filter fun z => decide (z.1 ≠ k)
def getG {κ α : Type} [DecidableEq κ] (t : List (κ × α)) (k : κ) : Option α := (t.find? fun z => decide (z.1 = k)).map (·.2)
def kG {κ α : Type} (fk : κ → Key) (fv : α → V) (t : List (κ × α)) : List (Key × V) := t.map fun z => (fk z.1, fv z.2)
section
variable {κ α : Type} [DecidableEq κ] {fk : κ → Key} {fv : α → V}
theorem any_kG (inj : ∀ a b, fk a = fk b → a = b) (k : κ) : ∀ t : List (κ × α), ((kG fk fv t).any fun z => decide (z.1 = fk k)) = t.any fun z => decide (z.1 = k)
  | [] => rfl
  | z :: t => by
    have ih := any_kG inj k t
    unfold kG at ih ⊢
    rw [List.map_cons, List.any_cons, List.any_cons, ih]
    congr 1
    by_cases e : z.1 = k
    · rw [decide_eq_true e, decide_eq_true (by rw [e])]
    · rw [decide_eq_false e, decide_eq_false (fun q => e (inj _ _ q))]
theorem put_kG (inj : ∀ a b, fk a = fk b → a = b) (t : List (κ × α)) (k : κ) (v : α) : putK (kG fk fv t) (fk k) (fv v) = kG fk fv (setG t k v) := by
  unfold putK setG
  rw [any_kG inj]
  split
  · unfold kG
    rw [List.map_map, List.map_map]
    apply List.map_congr_left
    intro z _
    show (if fk z.1 = fk k then (fk z.1, fv v) else (fk z.1, fv z.2)) = ((fk (if z.1 = k then (z.1, v) else z).1), fv (if z.1 = k then (z.1, v) else z).2)
    by_cases e : z.1 = k
    · rw [if_pos e, if_pos (by rw [e])]
    · rw [if_neg e, if_neg (fun q => e (inj _ _ q))]
  · unfold kG
    rw [List.map_append]
    rfl
theorem drop_kG (inj : ∀ a b, fk a = fk b → a = b) (k : κ) : ∀ t : List (κ × α), dropK (kG fk fv t) (fk k) = kG fk fv (dropG t k)
  | [] => rfl
  | z :: t => by
    have ih := drop_kG inj k t
    unfold dropK kG dropG at ih ⊢
    by_cases e : z.1 = k
    · rw [List.map_cons, List.filter_cons_of_neg (by simp [e]), List.filter_cons_of_neg (by simp [e]), ih]
    · rw [List.map_cons, List.filter_cons_of_pos (by simpa using fun q => e (inj _ _ q)), List.filter_cons_of_pos (by simpa using e), ih]
      rfl
theorem val_kG (inj : ∀ a b, fk a = fk b → a = b) (k : κ) : ∀ t : List (κ × α), valV (kG fk fv t) (fk k) = (getG t k).map fv
  | [] => rfl
  | z :: t => by
    have ih := val_kG inj k t
    unfold getG at ih ⊢
    by_cases e : z.1 = k
    · rw [show kG fk fv (z :: t) = (fk z.1, fv z.2) :: kG fk fv t from rfl, valV_pos (p := (fk z.1, fv z.2)) (by rw [e])]
      simp [List.find?_cons, e]
    · rw [show kG fk fv (z :: t) = (fk z.1, fv z.2) :: kG fk fv t from rfl, valV_neg (p := (fk z.1, fv z.2)) (fun q => e (inj _ _ q)), ih]
      simp [List.find?_cons, e]
theorem dropG_none {k : κ} : ∀ {t : List (κ × α)}, getG t k = none → dropG t k = t
  | [], _ => rfl
  | z :: t, h => by
    unfold getG at h
    by_cases e : z.1 = k
    · simp [List.find?_cons, e] at h
    · have : getG t k = none := by
        unfold getG
        simpa [List.find?_cons, e] using h
      have ih := dropG_none this
      unfold dropG at ih ⊢
      rw [List.filter_cons_of_pos (by simpa using e), ih]
theorem setG_keys (t : List (κ × α)) (k : κ) (v : α) : (setG t k v).map (·.1) = if (t.any fun z => decide (z.1 = k)) = true then t.map (·.1) else t.map (·.1) ++ [k] := by
  unfold setG
  split
  · rw [List.map_map]
    apply List.map_congr_left
    intro z _
    show (if z.1 = k then (z.1, v) else z).1 = z.1
    split <;> rfl
  · rw [List.map_append]
    rfl
theorem setG_mem {t : List (κ × α)} {k : κ} {v : α} {z : κ × α} (h : z ∈ setG t k v) : z ∈ t ∨ (z.1 = k ∧ z.2 = v) := by
  unfold setG at h
  split at h
  · obtain ⟨y, hy, rfl⟩ := List.mem_map.mp h
    by_cases e : y.1 = k
    · rw [if_pos e]; exact .inr ⟨e, rfl⟩
    · rw [if_neg e]; exact .inl hy
  · rcases List.mem_append.mp h with h | h
    · exact .inl h
    · rw [List.mem_singleton.mp h]; exact .inr ⟨rfl, rfl⟩
theorem setG_nd {t : List (κ × α)} {k : κ} {v : α} (h : (t.map (·.1)).Nodup) : ((setG t k v).map (·.1)).Nodup := by
  rw [setG_keys]
  split
  · exact h
  · rename_i hn
    rw [List.nodup_append]
    refine ⟨h, by simp, fun a ha b hb e => ?_⟩
    rw [List.mem_singleton.mp hb] at e
    obtain ⟨z, hz, rfl⟩ := List.mem_map.mp ha
    exact hn (List.any_eq_true.mpr ⟨z, hz, by simpa using e⟩)
theorem dropG_nd {t : List (κ × α)} {k : κ} (h : (t.map (·.1)).Nodup) : ((dropG t k).map (·.1)).Nodup := List.Nodup.sublist (List.Sublist.map _ List.filter_sublist) h
theorem getG_mem {t : List (κ × α)} {k : κ} {v : α} (h : getG t k = some v) : (k, v) ∈ t := by
  unfold getG at h
  obtain ⟨z, hz, rfl⟩ := Option.map_eq_some_iff.mp h
  have h2 : z.1 = k := by have := List.find?_some hz; simpa using this
  rw [← h2]
  exact List.mem_of_find?_eq_some hz
end
abbrev Tab := List (Str × Str)
def tabC (t : Tab) : CsL := t.map fun z => (z.1, some z.2)
theorem kC_tab (t : Tab) : kC (tabC t) = kT t := by
  unfold kC tabC kT
  rw [List.map_map]
  rfl
noncomputable def txt (cs : CsL) : Str := open Classical in if h : ∃ z, TextOf cs z then h.choose else Str.empty
theorem TextOf.tx {cs : CsL} {z : Str} (h : TextOf cs z) : z = txt cs := by
  have h1 : ∃ z, TextOf cs z := ⟨z, h⟩
  unfold txt
  rw [dif_pos h1]
  exact h.uniq h1.choose_spec
noncomputable def prt (cs : CsL) : List Str := cutZ (txt cs)
def piecesW (a g : Nat) (ps : List Str) : List Wr := ps.zipIdx.map fun x => (a, x.2 + 1, pieceT g (x.2 + 1) x.1)
def rowsW (a p r g : Nat) (ps : List Str) : List Wr := ps.zipIdx.map fun x => (a, p + r + x.2 + 1, rowT g (r + x.2 + 1) (ps.length - x.2 - 1) x.1)
noncomputable def DS.take (s : DS) (a g : Nat) : DS := { s with uns := s.uns ++ (piecesW a g (prt (tabC s.tab)) ++ [(a, 0, headT g (prt (tabC s.tab)).length)]), area := a, gen := g, pieces := (prt (tabC s.tab)).length, rows := 0 }
def DS.soft (s : DS) : Bool := s.uns.any fun x => decide (x.1 = s.area) && decide (x.2.1 = 0)
noncomputable def DS.check (s : DS) (g : Nat) (hard : Bool) : DS :=
  let s1 := if s.soft = true then s.syncd else s
  let s2 := s1.take (1 - s.area) g
  if hard = true then s2.syncd else s2
def applyC (cs : CsL) (t : Tab) : Tab := cs.foldl (fun t z => match z.2 with
  | none => dropG t z.1
  | some v => setG t z.1 v) t
noncomputable def DS.recd (s : DS) (cs : CsL) : DS := { s with uns := s.uns ++ rowsW s.area s.pieces s.rows s.gen (prt cs), rows := s.rows + (prt cs).length, tab := applyC cs s.tab }
def DS.fullB (s : DS) (n : Nat) : Bool := decide (0 < s.rows) && decide (s.most < ((s.rows + n : Nat) : Int))
noncomputable def DS.wck (s : DS) (g : Nat) (cs : CsL) : DS := if s.fullB (prt cs).length = true then s.check g true else s
noncomputable def DS.write (s : DS) (g : Nat) (cs : CsL) : DS := if cs.length = 0 then s else (s.wck g cs).recd cs
/-! ### what stays true of a disk that did not fall -/
abbrev keys9 : List Str := ["a", "b1", "r lot a 0", "r past", "r next", "k-2,3", "Zz", "a 1", "0"]
structure TabOk (t : Tab) : Prop where
  nd : (t.map (·.1)).Nodup
  k : ∀ z ∈ t, z.1 ∈ keys9 ∧ z.2.length ≤ 300
structure ChOk (cs : CsL) : Prop where
  nd : (cs.map (·.1)).Nodup
  k : ∀ z ∈ cs, z.1 ∈ keys9 ∧ ∀ v, z.2 = some v → v.length ≤ 300
theorem len_sub {α : Type} [DecidableEq α] : ∀ {l m : List α}, l.Nodup → (∀ x ∈ l, x ∈ m) → l.length ≤ m.length
  | [], _, _, _ => Nat.zero_le _
  | x :: l, m, hn, hs => by
    rw [List.nodup_cons] at hn
    have hx : x ∈ m := hs x List.mem_cons_self
    have := len_sub (l := l) (m := m.erase x) hn.2 fun y hy => by
      have ne : y ≠ x := fun e => hn.1 (e ▸ hy)
      exact (List.mem_erase_of_ne ne).mpr (hs y (List.mem_cons_of_mem _ hy))
    rw [List.length_erase_of_mem hx] at this
    have hm : 0 < m.length := List.length_pos_of_mem hx
    rw [List.length_cons]
    omega
theorem key9_len : ∀ k ∈ keys9, k.length ≤ 16 := by decide +kernel
theorem ChOk.cs {cs : CsL} (h : ChOk cs) : CsOk cs := by
  refine ⟨?_, fun c hc => key9_len _ (h.k c hc).1, fun c hc v e => (h.k c hc).2 v e⟩
  have := len_sub h.nd fun x hx => by
    obtain ⟨z, hz, rfl⟩ := List.mem_map.mp hx
    exact (h.k z hz).1
  rw [List.length_map] at this
  have e9 : keys9.length = 9 := rfl
  omega
theorem TabOk.ch {t : Tab} (h : TabOk t) : ChOk (tabC t) := by
  refine ⟨?_, fun z hz => ?_⟩
  · have : (tabC t).map (·.1) = t.map (·.1) := by unfold tabC; rw [List.map_map]; rfl
    rw [this]
    exact h.nd
  · obtain ⟨y, hy, rfl⟩ := List.mem_map.mp hz
    exact ⟨(h.k y hy).1, fun v e => by cases e; exact (h.k y hy).2⟩
theorem TabOk.apply : ∀ {cs : CsL} {t : Tab}, TabOk t → (∀ z ∈ cs, z.1 ∈ keys9 ∧ ∀ v, z.2 = some v → v.length ≤ 300) → TabOk (applyC cs t)
  | [], _, h, _ => h
  | z :: cs, t, h, hk => by
    have hz := hk z List.mem_cons_self
    refine TabOk.apply (cs := cs) (t := match z.2 with | none => dropG t z.1 | some v => setG t z.1 v) ?_ fun y hy => hk y (List.mem_cons_of_mem _ hy)
    cases e : z.2 with
    | none => exact ⟨dropG_nd h.nd, fun y hy => h.k y (List.mem_filter.mp hy).1⟩
    | some v =>
      refine ⟨setG_nd h.nd, fun y hy => ?_⟩
      rcases setG_mem hy with hy | ⟨e1, e2⟩
      · exact h.k y hy
      · rw [e1, e2]; exact ⟨hz.1, hz.2 v e⟩
theorem prt_len {cs : CsL} (h : CsOk cs) : (prt cs).length ≤ 107 := by
  unfold prt cutZ cutN
  rw [List.length_map, List.length_range]
  by_cases hz : ∃ z, TextOf cs z
  · obtain ⟨z, hz⟩ := hz
    have := hz.len h
    rw [hz.tx] at this
    omega
  · unfold txt
    rw [dif_neg hz, len_empty]
    decide
theorem prt_z {cs : CsL} (hc : CsOk cs) {z : Str} (h : z ∈ prt cs) : z.length ≤ 6400 := by
  unfold prt cutZ at h
  obtain ⟨i, hi, rfl⟩ := List.mem_map.mp h
  refine Nat.le_trans (cutS_length _ _ _) ?_
  by_cases hz : ∃ z, TextOf cs z
  · obtain ⟨z, hz⟩ := hz
    have := hz.len hc
    rw [hz.tx] at this
    exact this
  · unfold txt
    rw [dif_neg hz, len_empty]
    decide
def CellOk (G : Nat) (o : Option Str) : Prop := match o with
  | none => True
  | some z => z.length ≤ 7000 ∧ ∃ g, g ≤ G ∧ GenC (some z) g
def WrOk (G : Nat) (x : Wr) : Prop := x.1 ≤ 1 ∧ x.2.1 < 1000 ∧ x.2.2.length ≤ 7000 ∧ ∃ g, g ≤ G ∧ GenC (some x.2.2) g
def DS.cl (s : DS) (a : Nat) : List (Option Str) := if a = 0 then s.c0 else s.c1
structure Inv (s : DS) (n u : Nat) : Prop where
  m1 : 1 ≤ s.most
  m2 : s.most ≤ 64
  tab : TabOk s.tab
  l0 : s.c0.length ≤ 1000
  l1 : s.c1.length ≤ 1000
  k0 : ∀ o ∈ s.c0, CellOk s.gen o
  k1 : ∀ o ∈ s.c1, CellOk s.gen o
  ul : s.uns.length ≤ u
  ui : ∀ x ∈ s.uns, WrOk s.gen x
  g : s.gen ≤ n + 1
  ar : s.area ≤ 1
  pc : s.pieces ≤ 107
  rw : s.rows ≤ 200
  fl : s.fallen = false
  hd : ∃ z, TxtG s.gen z ∧ ((s.puts s.uns).cl s.area)[0]? = some (some z)
theorem putC_mem {c : List (Option Str)} {i : Nat} {z : Str} {o : Option Str} (h : o ∈ putC c i z) : o ∈ c ∨ o = none ∨ o = some z := by
  unfold putC at h
  split at h
  · rcases List.mem_or_eq_of_mem_set h with h | h
    · exact .inl h
    · exact .inr (.inr h)
  · rcases List.mem_append.mp h with h | h
    · rcases List.mem_append.mp h with h | h
      · exact .inl h
      · exact .inr (.inl (List.eq_of_mem_replicate h))
    · exact .inr (.inr (List.mem_singleton.mp h))
theorem putC_0 {c : List (Option Str)} {z : Str} : (putC c 0 z)[0]? = some (some z) := by
  unfold putC
  split
  · rename_i h
    rw [List.getElem?_set_self h]
  · rename_i h
    have : c = [] := List.eq_nil_of_length_eq_zero (by omega)
    subst this
    rfl
theorem putC_s {c : List (Option Str)} {i : Nat} {z : Str} {v : Option Str} (hi : 0 < i) (h : c[0]? = some v) : (putC c i z)[0]? = some v := by
  have hl := (List.getElem?_eq_some_iff.mp h).1
  unfold putC
  split
  · rw [List.getElem?_set_ne (by omega)]
    exact h
  · rw [List.append_assoc, List.getElem?_append_left hl]
    exact h
theorem put_k {G : Nat} {s : DS} {x : Wr} (h0 : ∀ o ∈ s.c0, CellOk G o) (h1 : ∀ o ∈ s.c1, CellOk G o) (hx : WrOk G x) : (∀ o ∈ (s.put x).c0, CellOk G o) ∧ (∀ o ∈ (s.put x).c1, CellOk G o) := by
  have key : ∀ {c : List (Option Str)}, (∀ o ∈ c, CellOk G o) → ∀ o ∈ putC c x.2.1 x.2.2, CellOk G o := fun {c} hc o ho => by
    rcases putC_mem ho with h | rfl | rfl
    · exact hc o h
    · exact True.intro
    · exact hx.2.2
  unfold DS.put
  split
  · exact ⟨key h0, h1⟩
  · exact ⟨h0, key h1⟩
theorem puts_k {G : Nat} : ∀ {ws : List Wr} {s : DS}, (∀ o ∈ s.c0, CellOk G o) → (∀ o ∈ s.c1, CellOk G o) → (∀ x ∈ ws, WrOk G x) → (∀ o ∈ (s.puts ws).c0, CellOk G o) ∧ (∀ o ∈ (s.puts ws).c1, CellOk G o)
  | [], s, h0, h1, _ => ⟨h0, h1⟩
  | x :: ws, s, h0, h1, hx => by
    obtain ⟨g0, g1⟩ := put_k h0 h1 (hx x List.mem_cons_self)
    exact puts_k (ws := ws) g0 g1 fun y hy => hx y (List.mem_cons_of_mem _ hy)
theorem Inv.ok {s : DS} {n u : Nat} (h : Inv s n u) (hn : u ≤ 30000) : Ok s 30000 := ⟨Nat.le_trans h.l0 (by decide), Nat.le_trans h.l1 (by decide), Nat.le_trans h.ul hn, fun x hx => ⟨(h.ui x hx).1, Nat.lt_of_lt_of_le (h.ui x hx).2.1 (by decide)⟩⟩
theorem syncd_cl (s : DS) (a : Nat) : s.syncd.cl a = (s.puts s.uns).cl a := rfl
theorem Inv.sync {s : DS} {n u : Nat} (h : Inv s n u) (v : Nat) : Inv s.syncd n v := by
  obtain ⟨a1, a2, a3, a4, a5, a6, a7, a8, a9⟩ := puts_same s.uns s
  obtain ⟨l0, l1⟩ := puts_lens (ws := s.uns) h.l0 h.l1 fun x hx => (h.ui x hx).2.1
  obtain ⟨k0, k1⟩ := puts_k (ws := s.uns) h.k0 h.k1 h.ui
  refine ⟨a1 ▸ h.m1, a1 ▸ h.m2, a2 ▸ h.tab, l0, l1, ?_, ?_, Nat.zero_le _, fun x hx => absurd hx List.not_mem_nil, a7 ▸ h.g, a6 ▸ h.ar, a8 ▸ h.pc, a9 ▸ h.rw, a5 ▸ h.fl, ?_⟩
  · show ∀ o ∈ (s.puts s.uns).c0, CellOk (s.puts s.uns).gen o
    rw [a7]; exact k0
  · show ∀ o ∈ (s.puts s.uns).c1, CellOk (s.puts s.uns).gen o
    rw [a7]; exact k1
  · obtain ⟨z, hz, hc⟩ := h.hd
    refine ⟨z, ?_, ?_⟩
    · show TxtG (s.puts s.uns).gen z
      rw [a7]; exact hz
    · show ((s.puts s.uns).cl (s.puts s.uns).area)[0]? = _
      rw [a6]; exact hc
theorem puts_app (s : DS) (a b : List Wr) : s.puts (a ++ b) = (s.puts a).puts b := List.foldl_append ..
theorem puts_one (s : DS) (x : Wr) : s.puts [x] = s.put x := rfl
theorem put_cl {s : DS} {a : Nat} (ha : a ≤ 1) {i : Nat} {z : Str} : ((s.put (a, i, z)).cl a) = putC (s.cl a) i z := by
  unfold DS.put DS.cl
  split
  · rfl
  · rfl
theorem put_other {s : DS} {a b : Nat} {i : Nat} {z : Str} (ha : a ≤ 1) (hb : b ≤ 1) (ne : a ≠ b) : ((s.put (a, i, z)).cl b) = s.cl b := by
  unfold DS.put DS.cl
  by_cases h : a = 0
  · rw [if_pos h, if_neg (by omega), if_neg (by omega)]
  · rw [if_neg h, if_pos (by omega), if_pos (by omega)]
/-- writes behind the head -/
theorem puts_hd {a : Nat} {v : Option Str} (ha : a ≤ 1) : ∀ {ws : List Wr} {s : DS}, (∀ x ∈ ws, x.1 = a ∧ 0 < x.2.1) → (s.cl a)[0]? = some v → ((s.puts ws).cl a)[0]? = some v
  | [], s, _, h => h
  | x :: ws, s, hx, h => by
    have h1 := hx x List.mem_cons_self
    refine puts_hd (s := s.put x) ha (fun y hy => hx y (List.mem_cons_of_mem _ hy)) ?_
    obtain ⟨a', i, z⟩ := x
    obtain ⟨e, hi⟩ : a' = a ∧ 0 < i := h1
    subst e
    rw [put_cl ha]
    exact putC_s hi h
theorem zip_len {α β : Type} (ps : List α) (f : α × Nat → β) : (ps.zipIdx.map f).length = ps.length := by rw [List.length_map, List.length_zipIdx]
theorem zip_mem {α β : Type} {ps : List α} {f : α × Nat → β} {y : β} (h : y ∈ ps.zipIdx.map f) : ∃ z k, z ∈ ps ∧ k < ps.length ∧ y = f (z, k) := by
  obtain ⟨x, hx, rfl⟩ := List.mem_map.mp h
  have := List.mem_zipIdx hx
  exact ⟨x.1, x.2, List.fst_mem_of_mem_zipIdx hx, by omega, rfl⟩
theorem len_parts {ys : List Str} {n : Nat} (h : (ys.map (·.length)).sum ≤ n) : (ys.foldl (· ++ ·) Str.empty).length ≤ n := by
  have key : ∀ (ys : List Str) (a : Str), (ys.foldl (· ++ ·) a).length = a.length + (ys.map (·.length)).sum := by
    intro ys
    induction ys with
    | nil => intro a; simp
    | cons y ys ih => intro a; rw [List.foldl_cons, ih, PySem.Str.length_append, List.map_cons, List.sum_cons]; omega
  rw [key, len_empty]
  omega
theorem headT_len {g n : Nat} (hg : g ≤ 1000000) (hn : n ≤ 1000000) : (headT g n).length ≤ 100 := by
  have h1 := numT_len (n := g) (by omega)
  have h2 := numT_len (n := n) (by omega)
  unfold headT
  simp only [PySem.Str.length_append, len_empty, show ("head " : Str).length = 5 by decide +kernel, show (" " : Str).length = 1 by decide +kernel]
  omega
theorem pieceT_len {g k : Nat} {z : Str} (hg : g ≤ 1000000) (hk : k ≤ 1000000) (hz : z.length ≤ 6400) : (pieceT g k z).length ≤ 6500 := by
  have h1 := numT_len (n := g) (by omega)
  have h2 := numT_len (n := k) (by omega)
  unfold pieceT
  simp only [PySem.Str.length_append, len_empty, show ("piece " : Str).length = 6 by decide +kernel, show (" " : Str).length = 1 by decide +kernel]
  omega
theorem rowT_len {g s l : Nat} {z : Str} (hg : g ≤ 1000000) (hs : s ≤ 1000000) (hl : l ≤ 1000000) (hz : z.length ≤ 6400) : (rowT g s l z).length ≤ 6500 := by
  have h1 := numT_len (n := g) (by omega)
  have h2 := numT_len (n := s) (by omega)
  have h3 := numT_len (n := l) (by omega)
  unfold rowT
  simp only [PySem.Str.length_append, len_empty, show ("row " : Str).length = 4 by decide +kernel, show (" " : Str).length = 1 by decide +kernel]
  omega
theorem CellOk.up {G G' : Nat} {o : Option Str} (h : CellOk G o) (hg : G ≤ G') : CellOk G' o := by
  cases o with
  | none => exact True.intro
  | some z => obtain ⟨h1, g, h2, h3⟩ := h; exact ⟨h1, g, Nat.le_trans h2 hg, h3⟩
theorem WrOk.up {G G' : Nat} {x : Wr} (h : WrOk G x) (hg : G ≤ G') : WrOk G' x := ⟨h.1, h.2.1, h.2.2.1, let ⟨g, h2, h3⟩ := h.2.2.2; ⟨g, Nat.le_trans h2 hg, h3⟩⟩
theorem take_wr {s : DS} {a g : Nat} (ht : TabOk s.tab) (ha : a ≤ 1) (hg : g ≤ 1000000) : ∀ x ∈ piecesW a g (prt (tabC s.tab)) ++ [(a, 0, headT g (prt (tabC s.tab)).length)], WrOk g x := fun x hx => by
  have hl := prt_len ht.ch.cs
  rcases List.mem_append.mp hx with hx | hx
  · obtain ⟨z, k, hz, hk, rfl⟩ := zip_mem hx
    exact ⟨ha, by show k + 1 < 1000; omega, Nat.le_trans (pieceT_len hg (by show k + 1 ≤ _; omega) (prt_z ht.ch.cs hz)) (by decide), g, Nat.le_refl _, .inr (pieceT_g _ _ _)⟩
  · rw [List.mem_singleton.mp hx]
    exact ⟨ha, by show 0 < 1000; decide, Nat.le_trans (headT_len hg (by omega)) (by decide), g, Nat.le_refl _, .inr (headT_g _ _)⟩
theorem Inv.take {s : DS} {n u a g : Nat} (h : Inv s n u) (ha : a ≤ 1) (hg : s.gen ≤ g) (hn : g ≤ n + 2) (hn2 : n ≤ 1000) : Inv (s.take a g) (n + 1) (u + 108) := by
  have hl := prt_len h.tab.ch.cs
  refine ⟨h.m1, h.m2, h.tab, h.l0, h.l1, fun o ho => (h.k0 o ho).up hg, fun o ho => (h.k1 o ho).up hg, ?_, fun x hx => ?_, hn, ha, hl, Nat.zero_le _, h.fl, headT g (prt (tabC s.tab)).length, headT_g _ _, ?_⟩
  · show (s.uns ++ (_ ++ _)).length ≤ _
    have := h.ul
    rw [List.length_append, List.length_append, show (piecesW a g (prt (tabC s.tab))).length = _ from zip_len _ _, List.length_singleton]
    omega
  · rcases List.mem_append.mp hx with hx | hx
    · exact (h.ui x hx).up hg
    · exact take_wr (g := g) h.tab ha (by omega) x hx
  · show (((s.take a g).puts (s.uns ++ (_ ++ _))).cl a)[0]? = _
    rw [puts_app, puts_app, puts_one, put_cl ha]
    exact putC_0
theorem Inv.check {s : DS} {n u : Nat} (h : Inv s n u) (hn2 : n ≤ 1000) (hard : Bool) : Inv (s.check (s.gen + 1) hard) (n + 1) (u + 108) := by
  have e1 : Inv (if s.soft = true then s.syncd else s) n u := by
    split
    · exact h.sync u
    · exact h
  have eg : (if s.soft = true then s.syncd else s).gen = s.gen := by
    split
    · exact (puts_same s.uns s).2.2.2.2.2.2.1
    · rfl
  have e2 := e1.take (a := 1 - s.area) (g := s.gen + 1) (by omega) (by rw [eg]; omega) (by have := h.g; omega) hn2
  unfold DS.check
  dsimp only
  cases hard with
  | true => exact e2.sync _
  | false => exact e2
theorem Inv.recd {s : DS} {n u : Nat} {cs : CsL} (h : Inv s n u) (hc : ChOk cs) (hn2 : n ≤ 1000) (hr : s.rows + (prt cs).length ≤ 200) : Inv (s.recd cs) n (u + 107) := by
  have hl := prt_len hc.cs
  have hwr : ∀ x ∈ rowsW s.area s.pieces s.rows s.gen (prt cs), x.1 = s.area ∧ 0 < x.2.1 := fun x hx => by
    obtain ⟨z, k, hz, hk, rfl⟩ := zip_mem hx
    exact ⟨rfl, by show 0 < s.pieces + s.rows + k + 1; omega⟩
  refine ⟨h.m1, h.m2, h.tab.apply hc.k, h.l0, h.l1, h.k0, h.k1, ?_, fun x hx => ?_, h.g, h.ar, h.pc, hr, h.fl, ?_⟩
  · show (s.uns ++ _).length ≤ _
    have := h.ul
    rw [List.length_append, show (rowsW s.area s.pieces s.rows s.gen (prt cs)).length = _ from zip_len _ _]
    omega
  · rcases List.mem_append.mp hx with hx | hx
    · exact h.ui x hx
    · obtain ⟨z, k, hz, hk, rfl⟩ := zip_mem hx
      have h1 := h.pc
      have h2 := h.g
      exact ⟨h.ar, by show s.pieces + s.rows + k + 1 < 1000; omega, Nat.le_trans (rowT_len (by omega) (by show s.rows + k + 1 ≤ _; omega) (by show (prt cs).length - k - 1 ≤ _; omega) (prt_z hc.cs hz)) (by decide), s.gen, Nat.le_refl _, .inr (rowT_g _ _ _ _)⟩
  · obtain ⟨z, hz, hcl⟩ := h.hd
    refine ⟨z, hz, ?_⟩
    show (((s.recd cs).puts (s.uns ++ _)).cl s.area)[0]? = _
    have ec := puts_cells s.uns (s := s.recd cs) (s' := s) rfl rfl
    have ecl : ((s.recd cs).puts s.uns).cl s.area = (s.puts s.uns).cl s.area := by unfold DS.cl; rw [ec.1, ec.2]
    rw [puts_app]
    exact puts_hd h.ar hwr (by rw [ecl]; exact hcl)
theorem check_tab (s : DS) (g : Nat) (b : Bool) : (s.check g b).tab = s.tab ∧ (s.check g b).most = s.most ∧ (s.check g b).rows = 0 := by
  have e1 : (if s.soft = true then s.syncd else s).tab = s.tab ∧ (if s.soft = true then s.syncd else s).most = s.most := by
    split
    · exact ⟨(puts_same s.uns s).2.1, (puts_same s.uns s).1⟩
    · exact ⟨rfl, rfl⟩
  have ht : ∀ (s : DS) (a g : Nat), (s.take a g).syncd.tab = s.tab ∧ (s.take a g).syncd.most = s.most ∧ (s.take a g).syncd.rows = 0 := fun s a g => by
    obtain ⟨a1, a2, a3, a4, a5, a6, a7, a8, a9⟩ := puts_same (s.take a g).uns (s.take a g)
    exact ⟨a2, a1, a9⟩
  unfold DS.check
  dsimp only
  cases b with
  | true =>
    obtain ⟨h1, h2, h3⟩ := ht (if s.soft = true then s.syncd else s) (1 - s.area) g
    exact ⟨h1.trans e1.1, h2.trans e1.2, h3⟩
  | false => exact ⟨e1.1, e1.2, rfl⟩
theorem Inv.write {s : DS} {n u : Nat} {cs : CsL} (h : Inv s n u) (hc : ChOk cs) (hn2 : n ≤ 999) : Inv (s.write (s.gen + 1) cs) (n + 1) (u + 215) := by
  have hl := prt_len hc.cs
  unfold DS.write DS.wck
  have up : ∀ {s : DS} {u v m : Nat}, Inv s m u → m ≤ n + 1 → u ≤ v → Inv s (n + 1) v := fun h hm hv => ⟨h.m1, h.m2, h.tab, h.l0, h.l1, h.k0, h.k1, Nat.le_trans h.ul hv, h.ui, by have := h.g; omega, h.ar, h.pc, h.rw, h.fl, h.hd⟩
  by_cases hz : cs.length = 0
  · rw [if_pos hz]
    exact up h (by omega) (by omega)
  rw [if_neg hz]
  by_cases hf : s.fullB (prt cs).length = true
  · rw [if_pos hf]
    have e := check_tab s (s.gen + 1) true
    exact (h.check (by omega) true).recd hc (by omega) (by rw [e.2.2]; omega)
  · rw [if_neg hf]
    refine up (h.recd hc (by omega) ?_) (by omega) (by omega)
    have h1 := h.m2
    unfold DS.fullB at hf
    simp only [Bool.and_eq_true, decide_eq_true_eq, not_and] at hf
    by_cases h0 : 0 < s.rows
    · have := hf h0
      omega
    · omega
end

section
open TL
variable {w : World} {K : PySem.W.Frag} {mg : Str → Option Value} {base : Heap}
/-! ### the greatest generation -/
/-- G is the greatest generation of the texts -/
structure Gens (s : DS) (G : Nat) : Prop where
  k0 : ∀ o ∈ s.c0, CellOk G o
  k1 : ∀ o ∈ s.c1, CellOk G o
  ui : ∀ x ∈ s.uns, WrOk G x
  ex : (∃ z, TxtG G z ∧ ((some z ∈ s.c0 ∨ some z ∈ s.c1) ∨ ∃ x ∈ s.uns, x.2.2 = z))
theorem puts_mem : ∀ {ws : List Wr} {s : DS} {o : Option Str} {a : Nat}, o ∈ (s.puts ws).cl a → o ∈ s.c0 ∨ o ∈ s.c1 ∨ o = none ∨ ∃ x ∈ ws, o = some x.2.2
  | [], s, o, a, h => by
    unfold DS.cl at h
    split at h
    · exact .inl h
    · exact .inr (.inl h)
  | x :: ws, s, o, a, h => by
    rcases puts_mem (ws := ws) (s := s.put x) (a := a) h with h | h | h | ⟨y, hy, h⟩
    · unfold DS.put at h
      split at h
      · rcases putC_mem h with h | h | h
        · exact .inl h
        · exact .inr (.inr (.inl h))
        · exact .inr (.inr (.inr ⟨x, List.mem_cons_self, h⟩))
      · exact .inl h
    · unfold DS.put at h
      split at h
      · exact .inr (.inl h)
      · rcases putC_mem h with h | h | h
        · exact .inr (.inl h)
        · exact .inr (.inr (.inl h))
        · exact .inr (.inr (.inr ⟨x, List.mem_cons_self, h⟩))
    · exact .inr (.inr (.inl h))
    · exact .inr (.inr (.inr ⟨y, List.mem_cons_of_mem _ hy, h⟩))
theorem Inv.gens {s : DS} {n u : Nat} (h : Inv s n u) : Gens s s.gen := by
  obtain ⟨z, hz, hc⟩ := h.hd
  refine ⟨h.k0, h.k1, h.ui, z, hz, ?_⟩
  rcases puts_mem (List.mem_of_getElem? hc) with h | h | h | ⟨x, hx, h⟩
  · exact .inl (.inl h)
  · exact .inl (.inr h)
  · cases h
  · exact .inr ⟨x, hx, (Option.some.inj h).symm⟩
theorem CellOk.gen {G : Nat} {o : Option Str} (h : CellOk G o) : ∃ g, g ≤ G ∧ GenC o g ∧ ∀ z, o = some z → z.length ≤ 10000 := by
  cases o with
  | none => exact ⟨0, Nat.zero_le _, rfl, fun z e => by cases e⟩
  | some z =>
    obtain ⟨h1, g, h2, h3⟩ := h
    exact ⟨g, h2, h3, fun y e => by cases e; omega⟩
/-- the generations read so far: none above G, G among them if its text is -/
def GsP (G : Nat) (os : List (Option Str)) (ns : List Nat) : Prop := (∀ g ∈ ns, g ≤ G) ∧ ∀ z, some z ∈ os → TxtG G z → G ∈ ns
theorem GsP.snoc {G g : Nat} {os : List (Option Str)} {ns : List Nat} {o : Option Str} (h : GsP G os ns) (hg : g ≤ G) (ho : GenC o g) : GsP G (os ++ [o]) (ns ++ [g]) := by
  refine ⟨fun x hx => ?_, fun z hz ht => ?_⟩
  · rcases List.mem_append.mp hx with hx | hx
    · exact h.1 x hx
    · rw [List.mem_singleton.mp hx]; exact hg
  · rcases List.mem_append.mp hz with hz | hz
    · exact List.mem_append_left _ (h.2 z hz ht)
    · have e := List.mem_singleton.mp hz
      subst e
      have : g = G := ho.uniq (.inr ht)
      rw [this]
      exact List.mem_append_right _ List.mem_cons_self
def nI (ns : List Nat) : List V := ns.map fun g => V.int (g : Nat)
def spGreatest (T : Tx K mg) : Sp := fun vs H Q _ => ∃ (f : DF) (s : DS) (l : UL) (full : Bool) (G : Nat), vs = [.ref f.a] ∧ FldAt T H f s full ∧ DiskB H f s l ∧ Gens s G ∧ G ≤ 1000000 ∧ Ok s 30000 ∧ ∀ H', Same H H' → Q (.int (G : Nat)) H'
theorem ok_Disk_greatest (T : Tx K mg) : FnOk P w K mg base CX0 3 T.a_Disk_greatest T.fd_Disk_greatest P_Disk_greatest (spGreatest T) := by
  refine T.F_Disk_greatest.ok sc_Disk_greatest (fun vs H Q E h => ?_) (fun cdv A outer s H vs Q E hr h => ?_)
  · obtain ⟨f, s, l, full, G, rfl, _⟩ := h
    rfl
  · obtain ⟨f, d, l, full, G, rfl, hF, hB, hG, hG6, hok, k⟩ := h
    have nd := sc_Disk_greatest.nd
    refine ⟨_, (pss_cons (ps_setLc (i := 1) (own := [("_", 4), ("text", 5)]) rfl nd rfl (locB_ok l_Disk_greatest_generations) (sw_true rfl (locB_ok l_Disk_greatest_generations) rfl (by decide +kernel)) (kpi_list K (kpe_fld K (kv (i := 0) v_Disk_greatest_self))) ok_cs_Disk_greatest_1 (fun _ _ _ _ _ => (kpg_tup K 3 rfl (pgs_cons (kgL (i := 4) nd l_Disk_greatest_1_) (pgs_cons (kgL (i := 4) nd l_Disk_greatest_1_) (pgs_cons (kgL (i := 5) nd l_Disk_greatest_1_text) pgs_nil))))) (fun _ _ _ _ _ => pts_nil) (fun _ _ _ _ _ => (pe_call (ok_generation_of T) (hr.mono (by first | decide | omega)) g_Disk_greatest_1_generation_of T.m_generation_of T.k_generation_of T.b_generation_of .nil pass0 (pa_cons (kv (i := 5) v_Disk_greatest_1_text) pa_nil))))
      (pss_cons (ps_for PassesOwn.never rfl (kpi_list K (kpe_fld K (kv (i := 0) v_Disk_greatest_self))) (kgL (i := 2) nd l_Disk_greatest_cells) (pss_one (ps_for PassesOwn.never rfl (kpi_list K (kv (i := 2) v_Disk_greatest_cells)) (kgL (i := 3) nd l_Disk_greatest_cell) (pss_one (ps_expr (pe_bm PySem.F.plainAttrs_list PySem.F.slot_list_append PySem.F.type_list_append mt_append (kv (i := 1) v_Disk_greatest_generations) (pa_cons (pe_call (ok_generation_of T) (hr.mono (by first | decide | omega)) g_Disk_greatest_generation_of T.m_generation_of T.k_generation_of T.b_generation_of .nil pass0 (pa_cons (kv (i := 3) v_Disk_greatest_cell) pa_nil)) pa_nil)))))))
      (pss_one (ps_ret (kcB b_max (by decide) (by decide) (kc_maxL K rfl) g_Disk_greatest_max T.n_max (pa_cons (kv (i := 1) v_Disk_greatest_generations) pa_nil)))))), ?_⟩
    walk_at "ss"
    refine k_fD hF T.no_Disk_unsynced (i := 3) (by decide +kernel) (by decide +kernel) rfl rfl ?_
    have hul : l.length = d.uns.length := by rw [← hB.eu, List.length_map]
    refine k_iL (SqL.of hB.hu.at_) ?_
    intro D nD
    have hlD : ∀ {H' : Hp}, Same H H' → SqL K H' f.u (l.map fun z => V.ref z.1) := fun s => SqL.of (s _ _ hB.hu.at_)
    refine k_lcList (l.map fun z => V.ref z.1) (fun i H' => ∃ ns : List Nat, H' D = some (.lst (nI ns)) ∧ ns.length = i ∧ Same H H' ∧ GsP G ((d.uns.take i).map fun x => some x.2.2) ns) ⟨[], upd_same, rfl, same_new nD, fun g hg => (by cases hg), fun z hz => (by cases hz)⟩ (fun i H' _ h => hlD (by obtain ⟨_, _, _, h, _⟩ := h; exact h)) ?_ ?_
    · rintro i x H' hx ⟨ns, hD, hi, sm, hP⟩
      rw [List.getElem?_map] at hx
      obtain ⟨z, hz, rfl⟩ := Option.map_eq_some_iff.mp hx
      have hil := (List.getElem?_eq_some_iff.mp hz).1
      have hzw := sm _ _ (hB.hu.ws z (List.mem_of_getElem? hz))
      have huz : d.uns[i]? = some z.2 := by rw [← hB.eu, List.getElem?_map, hz]; rfl
      obtain ⟨w1, w2, w3, g, hgG, hg⟩ := hG.ui _ (List.mem_of_getElem? huz)
      refine k_gTup (SqT.of hzw) rfl ?_
      walk_at "ss"
      refine ⟨rfl, ?_⟩
      walk_at "ss"
      refine ⟨some z.2.2.2, g, rfl, hg, by omega, fun y e => (by cases e; omega), fun H2 s2 => ?_⟩
      refine ⟨_, s2 _ _ hD, small_lt (by unfold nI; rw [List.length_map]; have := hok.u; omega), ns ++ [g], ?_, by rw [List.length_append, hi]; rfl, same_put (sm.trans s2) nD, ?_⟩
      · rw [upd_same]
        unfold nI
        rw [List.map_append]
        rfl
      · rw [List.take_add_one, huz, Option.toList_some, List.map_append]
        exact hP.snoc hgG hg
    · rintro H1 ⟨ns, hD, hi, sm, hP⟩
      rw [List.length_map, hul] at hi
      rw [List.length_map, hul, List.take_length] at hP
      walk_at "ss"
      have hF1 := hF.up sm
      have hB1 := hB.up sm
      refine k_fD hF1 T.no_Disk_areas (i := 2) (by decide +kernel) (by decide +kernel) rfl rfl ?_
      have nDu : ∀ {x : Addr} {o : HO}, H x = some o → x ≠ D := fun h => ne_of_none h nD
      have ofr : ∀ {H' : Hp}, Fr [D] H1 H' → Same H H' := fun {H'} fr x o hx => fr x o (sm x o hx) (by simpa using nDu hx)
      refine k_iL (SqL.of hB1.har) ?_
      have hD0 : H D = none := nD
      obtain ⟨U, eU⟩ : ∃ U : List (Option Str), U = d.uns.map fun x => some x.2.2 := ⟨_, rfl⟩
      rw [← eU] at hP
      have hUl : U.length = d.uns.length := by rw [eU, List.length_map]
      refine k_forList [V.ref f.c0, V.ref f.c1] (fun i σ H' => ∃ (ns : List Nat) (u2 u3 : Option V), σ = [some (.ref f.a), some (.ref D), u2, u3, none, none] ∧ H' D = some (.lst (nI ns)) ∧ Fr [D] H1 H' ∧ GsP G (U ++ ([d.c0, d.c1].take i).flatten) ns ∧ ns.length ≤ 30000 * (i + 1)) ⟨ns, none, none, rfl, hD, Fr.refl _ _, by simpa using hP, by have := hok.u; omega⟩ (fun i σ H' _ h => ?_) ?_ ?_
      · obtain ⟨_, _, _, _, _, fr, _⟩ := h
        exact SqL.of (fr _ _ hB1.har (by simpa using nDu hB.har))
      · rintro i x σ H' hx ⟨ns, u2, u3, rfl, hD, fr, hP, hnl⟩
        obtain ⟨c, cs, ex, hc, hcl, hck, htk, hi⟩ : ∃ (c : Addr) (cs : List (Option Str)), x = .ref c ∧ H c = some (.lst (cs.map vO)) ∧ cs.length ≤ 30000 ∧ (∀ o ∈ cs, CellOk G o) ∧ ([d.c0, d.c1].take (i + 1)).flatten = ([d.c0, d.c1].take i).flatten ++ cs ∧ i < 2 := by
          match i, hx with
          | 0, hx => cases hx; exact ⟨f.c0, d.c0, rfl, hB.h0, hok.c0, hG.k0, by simp, by decide⟩
          | 1, hx => cases hx; exact ⟨f.c1, d.c1, rfl, hB.h1, hok.c1, hG.k1, by simp, by decide⟩
          | i + 2, hx => cases hx
        subst ex
        rw [htk]
        refine k_gName ?_
        dsimp only
        have hcD : c ≠ D := nDu hc
        refine k_for ?_
        walk_at "ss"
        refine k_iL (SqL.of (fr _ _ (sm _ _ hc) (by simpa using hcD))) ?_
        refine k_forList (cs.map vO) (fun j σ H' => ∃ (ns2 : List Nat) (u3 : Option V), σ = [some (.ref f.a), some (.ref D), some (.ref c), u3, none, none] ∧ H' D = some (.lst (nI ns2)) ∧ Fr [D] H1 H' ∧ GsP G (U ++ ([d.c0, d.c1].take i).flatten ++ cs.take j) ns2 ∧ ns2.length = ns.length + j) ⟨ns, _, rfl, hD, fr, by simpa using hP, rfl⟩ (fun j σ H' _ h => ?_) ?_ ?_
        · obtain ⟨_, _, _, _, fr, _⟩ := h
          exact SqL.of (fr _ _ (sm _ _ hc) (by simpa using hcD))
        · rintro j x σ H' hx ⟨ns2, u3, rfl, hD, fr, hP, hl2⟩
          rw [List.getElem?_map] at hx
          obtain ⟨o, ho, rfl⟩ := Option.map_eq_some_iff.mp hx
          have hjl := (List.getElem?_eq_some_iff.mp ho).1
          obtain ⟨g, hgG, hg, hz⟩ := (hck o (List.mem_of_getElem? ho)).gen
          walk_at "ss"
          refine k_bm ?_
          walk_at "ss"
          refine ⟨.inl ⟨rfl, _, SqL.of hD⟩, ?_⟩
          walk_at "ss"
          refine ⟨o, g, rfl, hg, by omega, hz, fun H3 s3 => ?_⟩
          walk_at "ss"
          refine k_app (s3 _ _ hD) (by unfold nI; rw [List.length_map]; omega) ?_
          refine ⟨ns2 ++ [g], _, rfl, ?_, (fr.same s3).put (.inl (by simp)), ?_, by rw [List.length_append, hl2]; rfl⟩
          · rw [upd_same]
            unfold nI
            rw [List.map_append]
            rfl
          · rw [List.take_add_one, ho, Option.toList_some, ← List.append_assoc]
            exact hP.snoc hgG hg
        · rintro σ H' ⟨ns2, u3, rfl, hD, fr, hP, hl2⟩
          rw [List.length_map] at hP hl2
          rw [List.take_length] at hP
          exact ⟨ns2, _, _, rfl, hD, fr, by rw [← List.append_assoc]; exact hP, by omega⟩
      · rintro σ H' ⟨ns, u2, u3, rfl, hD, fr, hP, hnl⟩
        walk_at "ss"
        obtain ⟨z, hz, hzm⟩ := hG.ex
        have hin : G ∈ ns := hP.2 z (by
          show some z ∈ U ++ ([d.c0, d.c1].take 2).flatten
          rcases hzm with (h | h) | ⟨x, hx, rfl⟩
          · exact List.mem_append_right _ (by simp [h])
          · exact List.mem_append_right _ (by simp [h])
          · exact List.mem_append_left _ (by rw [eU]; exact List.mem_map.mpr ⟨x, hx, rfl⟩)) hz
        have eI : nI ns = (ns.map fun g => ((g : Nat) : Int)).map V.int := by unfold nI; rw [List.map_map]; rfl
        refine ⟨D, ns.map fun g => ((g : Nat) : Int), rfl, SqL.of (by rw [← eI]; exact hD), by rw [List.length_map]; exact List.length_pos_of_mem hin, fun m hm hmax => ?_⟩
        obtain ⟨g, hg, rfl⟩ := List.mem_map.mp hm
        have h1 := hP.1 g hg
        have h2 : ((G : Nat) : Int) ≤ (g : Nat) := hmax _ (List.mem_map.mpr ⟨G, hin, rfl⟩)
        have e : g = G := by omega
        rw [e]
        exact k H' (ofr fr)
end

section
open TL
variable {w : World} {K : PySem.W.Frag} {mg : Str → Option Value} {base : Heap}
/-! ### the table into an area -/
theorem k_iEn {K : PySem.W.Frag} {ta : TA} {σ : L2.St} {H : Hp} {R : It → Hp → Prop} (h : ta σ H fun vs H1 => ∃ a xs, vs = [.ref a] ∧ SqL K H1 a xs ∧ R (Ite K a) H1) : iEnum K ta σ H R := h
theorem DiskB.cong {H : Hp} {f : DF} {s s' : DS} {l : UL} (h : DiskB H f s l) (e1 : s'.tab = s.tab) (e2 : s'.c0 = s.c0) (e3 : s'.c1 = s.c1) (e4 : s'.uns = s.uns) : DiskB H f s' l := ⟨h.nd, e1 ▸ h.ht, h.har, e2 ▸ h.h0, e3 ▸ h.h1, h.hu, e4 ▸ h.eu⟩
/-- one more write -/
theorem DiskB.app {H : Hp} {f : DF} {s s' : DS} {l : UL} {p : Addr} {x : Wr} (h : DiskB H f s l) (hp : H p = none) (e1 : s'.tab = s.tab) (e2 : s'.c0 = s.c0) (e3 : s'.c1 = s.c1) (e4 : s'.uns = s.uns ++ [x]) :
    DiskB (upd (upd H p (.tup [.int (x.1 : Nat), .int (x.2.1 : Nat), .str x.2.2])) f.u (.lst ((l.map fun z => V.ref z.1) ++ [.ref p]))) f s' (l ++ [(p, x)]) := by
  obtain ⟨n1, n2, n3, n4, n5, n6, n7, n8, n9, n10, n11, n12, n13, n14, n15⟩ := DF.nds h.nd
  have h1 := h.up (same_new (o := .tup [.int (x.1 : Nat), .int (x.2.1 : Nat), .str x.2.2]) hp)
  have hpp : upd H p (.tup [.int (x.1 : Nat), .int (x.2.1 : Nat), .str x.2.2]) p = some (.tup [.int (x.1 : Nat), .int (x.2.1 : Nat), .str x.2.2]) := upd_same
  generalize upd H p (.tup [.int (x.1 : Nat), .int (x.2.1 : Nat), .str x.2.2]) = H1 at h1 hpp
  have nu : ∀ {z : Addr × Wr}, WrAt H1 z → z.1 ≠ f.u := fun hz => ne_of hz h1.hu.at_ (by intro q; cases q)
  refine ⟨h.nd, ?_, ?_, ?_, ?_, ⟨?_, fun z hz => ?_⟩, ?_⟩
  · rw [upd_ne n9, e1]; exact h1.ht
  · rw [upd_ne n12]; exact h1.har
  · rw [upd_ne n14, e2]; exact h1.h0
  · rw [upd_ne n15, e3]; exact h1.h1
  · rw [upd_same, List.map_append]; rfl
  · have hz1 : WrAt H1 z := by
      rcases List.mem_append.mp hz with hz | hz
      · exact h1.hu.ws z hz
      · rw [List.mem_singleton.mp hz]; exact hpp
    show upd H1 f.u _ z.1 = _
    rw [upd_ne (nu hz1)]
    exact hz1
  · rw [List.map_append, h.eu, e4]
    rfl
theorem Fr.app {F : List Addr} {H H' : Hp} {p u : Addr} {o o2 : HO} (h : Fr F H H') (hp : H' p = none) (hu : u ∈ F) : Fr F H (upd (upd H' p o) u o2) := (h.same (same_new hp)).put (.inl hu)
theorem FldAt.app {T : Tx K mg} {H : Hp} {f : DF} {s : DS} {full : Bool} {p : Addr} {o o2 : HO} (h : FldAt T H f s full) (hp : H p = none) (hu : f.a ≠ f.u) : FldAt T (upd (upd H p o) f.u o2) f s full := by
  obtain ⟨dx, h⟩ := h.up (same_new (o := o) hp)
  exact ⟨dx, by rw [upd_ne hu]; exact h⟩
theorem DiskB.atA {T : Tx K mg} {H : Hp} {f : DF} {s : DS} {l : UL} {C dx : Addr} {fs : List (Str × V)} {o : HO} (h : DiskB H f s l) (ha : H f.a = some (.ins C dx fs)) : DiskB (upd H f.a o) f s l := by
  obtain ⟨n1, n2, n3, n4, n5, n6, n7, n8, n9, n10, n11, n12, n13, n14, n15⟩ := DF.nds h.nd
  have fr : Fr [f.a] H (upd H f.a o) := (Fr.refl _ _).put (.inl (by simp))
  exact ⟨h.nd, fr _ _ h.ht (by simpa using Ne.symm n1), fr _ _ h.har (by simpa using Ne.symm n2), fr _ _ h.h0 (by simpa using Ne.symm n3), fr _ _ h.h1 (by simpa using Ne.symm n4), h.hu.fr fr (fun x hx xs => by rw [List.mem_singleton.mp hx, ha]; intro q; cases q) (by simpa using Ne.symm n5), h.eu⟩
theorem k_pOld {T : Tx K mg} {H0 H : Hp} {f : DF} {s : DS} {l : UL} {dx : Addr} {ns : List Str} {vs : List V} {nm : Str} {i : Nat} {y : V} {Q : Hp → Prop} (ha : H f.a = some (.ins T.C_Disk dx (FL ns vs))) (fr : Fr f.l H0 H) (hB : DiskB H f s l) (no : NoAttr K T.C_Disk nm)
    (hi : pos? nm ns = some i) (hl : i < vs.length) (hs : ns.length < 1000) (k : ∀ H', H' f.a = some (.ins T.C_Disk dx (FL ns (vs.set i y))) → Fr f.l H0 H' → DiskB H' f s l → (∀ x, x ≠ f.a → H' x = H x) → Q H') : rPutF K nm y (.ref f.a) H Q :=
  k_putOld ha T.cl_Disk no hi hl hs (k _ upd_same (fr.put (.inl (by simp [DF.l]))) (hB.atA (T := T) ha) fun x hx => upd_ne hx)
theorem k_pNew {T : Tx K mg} {H0 H : Hp} {f : DF} {s : DS} {l : UL} {dx : Addr} {ns : List Str} {vs : List V} {nm : Str} {y : V} {Q : Hp → Prop} (ha : H f.a = some (.ins T.C_Disk dx (FL ns vs))) (fr : Fr f.l H0 H) (hB : DiskB H f s l) (no : NoAttr K T.C_Disk nm)
    (hl : ns.length = vs.length) (hn : nin nm ns = true) (hs : ns.length < 1000) (k : ∀ H', H' f.a = some (.ins T.C_Disk dx (FL (ns ++ [nm]) (vs ++ [y]))) → Fr f.l H0 H' → DiskB H' f s l → (∀ x, x ≠ f.a → H' x = H x) → Q H') : rPutF K nm y (.ref f.a) H Q :=
  k_putAt ha T.cl_Disk no hl hn hs (k _ upd_same (fr.put (.inl (by simp [DF.l]))) (hB.atA (T := T) ha) fun x hx => upd_ne hx)
def spTake (T : Tx K mg) : Sp := fun vs H Q _ => ∃ (f : DF) (s : DS) (l : UL) (full : Bool) (a g : Nat), vs = [.ref f.a, .int (a : Nat), .int (g : Nat)] ∧ FldAt T H f s full ∧ DiskB H f s l ∧ TabOk s.tab ∧ a ≤ 1 ∧ g ≤ 1000000 ∧ Ok s 30000 ∧ ∀ H' l', Fr f.l H H' → FldAt T H' f (s.take a g) true → DiskB H' f (s.take a g) l' → Q .non H'
theorem ok_Disk_take_area (T : Tx K mg) : FnOk P w K mg base CX0 2 T.a_Disk_take_area T.fd_Disk_take_area P_Disk_take_area (spTake T) := by
  refine T.F_Disk_take_area.ok sc_Disk_take_area (fun vs H Q E h => ?_) (fun cdv A outer s H vs Q E hr h => ?_)
  · obtain ⟨f, s, l, full, a, g, rfl, _⟩ := h
    rfl
  · obtain ⟨f, d, l, full, a, g, rfl, hF, hB, hT, ha1, hg6, hok, k⟩ := h
    have nd := sc_Disk_take_area.nd
    obtain ⟨n1, n2, n3, n4, n5, n6, n7, n8, n9, n10, n11, n12, n13, n14, n15⟩ := DF.nds hB.nd
    refine ⟨_, (pss_cons (ks_setL (i := 3) nd l_Disk_take_area_stretches (pe_call (ok_stretches_of T) (hr.mono (by first | decide | omega)) g_Disk_take_area_stretches_of T.m_stretches_of T.k_stretches_of T.b_stretches_of .nil pass0 (pa_cons (pe_call (ok_text_of T) (hr.mono (by first | decide | omega)) g_Disk_take_area_text_of T.m_text_of T.k_text_of T.b_text_of .nil pass0 (pa_cons (kpe_fld K (kv (i := 0) v_Disk_take_area_self)) pa_nil)) (pa_cons (kpe_cval K (kcls g_Disk_take_area_Disk T.m_Disk)) pa_nil))))
      (pss_cons (ps_for PassesOwn.never rfl (kpi_enum K g_Disk_take_area_enumerate T.n_enumerate (pa_cons (kv (i := 3) v_Disk_take_area_stretches) pa_nil)) (kpg_tup K 2 rfl (pgs_cons (kgL (i := 4) nd l_Disk_take_area_at) (pgs_cons (kgL (i := 5) nd l_Disk_take_area_stretch) pgs_nil))) (pss_one (ps_expr (pe_bm PySem.F.plainAttrs_list PySem.F.slot_list_append PySem.F.type_list_append mt_append (kpe_fld K (kv (i := 0) v_Disk_take_area_self)) (pa_cons (pe_tup (pa_cons (kv (i := 1) v_Disk_take_area_area) (pa_cons (pe_op kop_add (kv (i := 4) v_Disk_take_area_at) pe_int) (pa_cons (pe_joined (.cons pe_str (.cons (pe_fmt (kv (i := 2) v_Disk_take_area_generation)) (.cons pe_str (.cons (pe_fmt (pe_op kop_add (kv (i := 4) v_Disk_take_area_at) pe_int)) (.cons pe_str (.cons (pe_fmt (kv (i := 5) v_Disk_take_area_stretch)) .nil))))))) pa_nil)))) pa_nil)))))
      (pss_cons (ps_expr (pe_bm PySem.F.plainAttrs_list PySem.F.slot_list_append PySem.F.type_list_append mt_append (kpe_fld K (kv (i := 0) v_Disk_take_area_self)) (pa_cons (pe_tup (pa_cons (kv (i := 1) v_Disk_take_area_area) (pa_cons pe_int (pa_cons (pe_joined (.cons pe_str (.cons (pe_fmt (kv (i := 2) v_Disk_take_area_generation)) (.cons pe_str (.cons (pe_fmt (kcB b_len (by decide) (by decide) (kc_len K) g_Disk_take_area_len T.n_len (pa_cons (kv (i := 3) v_Disk_take_area_stretches) pa_nil))) .nil))))) pa_nil)))) pa_nil)))
      (pss_cons (kps_fld K (kv (i := 0) v_Disk_take_area_self) (kv (i := 1) v_Disk_take_area_area))
      (pss_cons (kps_fld K (kv (i := 0) v_Disk_take_area_self) (kv (i := 2) v_Disk_take_area_generation))
      (pss_cons (kps_fld K (kv (i := 0) v_Disk_take_area_self) (kcB b_len (by decide) (by decide) (kc_len K) g_Disk_take_area_len T.n_len (pa_cons (kv (i := 3) v_Disk_take_area_stretches) pa_nil)))
      (pss_one (kps_fld K (kv (i := 0) v_Disk_take_area_self) pe_int)))))))), ?_⟩
    have hul : l.length = d.uns.length := by rw [← hB.eu, List.length_map]
    walk_at "ss"
    refine k_fD hF T.no_Disk_table (i := 1) (by decide +kernel) (by decide +kernel) rfl rfl ?_
    refine ⟨f.t, tabC d.tab, rfl, by rw [kC_tab]; exact hB.ht, hT.ch.cs, fun z H1 hz s1 => ?_⟩
    walk_at "ss"
    obtain ⟨uc, hcv⟩ := T.cv_Disk_STRETCH
    refine ⟨T.C_Disk, _, _, uc, rfl, T.cr_Disk, hcv, ?_⟩
    walk_at "ss"
    have hzl := hz.len hT.ch.cs
    have ep : cutZ z = prt (tabC d.tab) := by unfold prt; rw [← hz.tx]
    refine ⟨z, rfl, by omega, fun L H2 nL s2 hL => ?_⟩
    rw [ep] at hL
    have pl := prt_len hT.ch.cs
    have pz : ∀ y ∈ prt (tabC d.tab), y.length ≤ 6400 := fun y hy => prt_z hT.ch.cs hy
    obtain ⟨ps, eps⟩ : ∃ ps : List Str, ps = prt (tabC d.tab) := ⟨_, rfl⟩
    have etk : d.take a g = { d with uns := d.uns ++ (piecesW a g ps ++ [(a, 0, headT g ps.length)]), area := a, gen := g, pieces := ps.length, rows := 0 } := by rw [eps]; rfl
    rw [etk] at k
    rw [← eps] at hL pl pz
    have s12 := s1.trans s2
    have nLo : ∀ {x : Addr} {o : HO}, H x = some o → x ≠ L := fun h => ne_of_none (s1 _ _ h) nL
    walk_at "ss"
    refine ⟨L, ps.map V.str, rfl, SqL.of hL, ?_⟩
    refine k_forIt (walk_enum (a := L) (xs := ps.map V.str)) (fun i σ H' => ∃ (u4 u5 : Option V) (l' : UL), σ = [some (.ref f.a), some (.int (a : Nat)), some (.int (g : Nat)), some (.ref L), u4, u5] ∧ H' L = some (.lst (ps.map V.str)) ∧ Fr f.l H H' ∧ FldAt T H' f d full ∧ DiskB H' f { d with uns := d.uns ++ (piecesW a g ps).take i } l') ⟨none, none, l, rfl, hL, Fr.of s12, hF.up s12, (hB.up s12).cong rfl rfl rfl (by simp)⟩ (fun i σ H' _ h => ?_) ?_ ?_
    · obtain ⟨_, _, _, _, h, _⟩ := h
      exact SqL.of h
    · rintro i x σ H' H3 hi ⟨u4, u5, l', rfl, hL3, fr, hF3, hB3⟩ ⟨tt, x1, y, rfl, ntt, rfl, ex1, hy⟩
      cases ex1
      have hy : (ps.map V.str)[i]? = some y := hy
      rw [List.getElem?_map] at hy
      obtain ⟨zz, hzz, rfl⟩ := Option.map_eq_some_iff.mp hy
      have hzz6 := pz _ (List.mem_of_getElem? hzz)
      have hil : i < ps.length := (List.getElem?_eq_some_iff.mp hzz).1
      have s3 := same_new (o := .tup [V.int (i : Nat), V.str zz]) ntt
      have htt : upd H' tt (.tup [V.int (i : Nat), V.str zz]) tt = some (.tup [V.int (i : Nat), V.str zz]) := upd_same
      have hL4 := s3 _ _ hL3
      have hF4 := hF3.up s3
      have hB4 := hB3.up s3
      have fr4 := fr.same s3
      generalize upd H' tt (.tup [V.int (i : Nat), V.str zz]) = H4 at htt hL4 hF4 hB4 fr4
      have hpl := pieceT_len (g := g) (k := i + 1) (z := zz) hg6 (by omega) hzz6
      have hul4 := congrArg List.length hB4.eu
      rw [List.length_map] at hul4
      have htk : ((piecesW a g ps).take i).length ≤ ps.length := by rw [List.length_take, show (piecesW a g ps).length = _ from zip_len _ _]; omega
      have htk1 : (piecesW a g ps).take (i + 1) = (piecesW a g ps).take i ++ [(a, i + 1, pieceT g (i + 1) zz)] := by
        rw [List.take_add_one]
        congr 1
        unfold piecesW
        rw [List.getElem?_map, List.getElem?_zipIdx, hzz]
        simp
      simp only [List.length_append] at hul4
      walk_at "ss"
      refine k_bm ?_
      walk_at "ss"
      refine k_fD hF4 T.no_Disk_unsynced (i := 3) (by decide +kernel) (by decide +kernel) rfl rfl ?_
      refine ⟨.inl ⟨rfl, _, SqL.of hB4.hu.at_⟩, ?_⟩
      walk_at "ss"
      unfold pieceT at hpl
      simp only [PySem.Str.length_append, len_empty] at hpl
      refine k_jsV (by simp only [PySem.Str.length_append, len_empty]; omega) ?_
      walk_at "ss"
      refine k_fmtI (by omega) ?_
      refine k_jsV (z := numT g) (by simp only [PySem.Str.length_append, len_empty]; omega) ?_
      walk_at "ss"
      refine k_jsV (by simp only [PySem.Str.length_append, len_empty]; omega) ?_
      walk_at "ss"
      refine k_fmtI (i := ((i + 1 : Nat) : Int)) (by omega) ?_
      refine k_jsV (z := numT (i + 1)) (by simp only [PySem.Str.length_append, len_empty]; omega) ?_
      walk_at "ss"
      refine k_jsV (by simp only [PySem.Str.length_append, len_empty]; omega) ?_
      walk_at "ss"
      refine k_fmtS (by omega) ?_
      refine k_jsV (by simp only [PySem.Str.length_append, len_empty]; omega) ?_
      walk_at "ss"
      intro p np
      walk_at "ss"
      refine k_app (same_new np _ _ hB4.hu.at_) (by rw [List.length_map]; have := hok.u; omega) ?_
      exact ⟨_, _, _, rfl, (Fr.refl [f.u] _).app np (by simp) _ _ hL4 (by simpa using Ne.symm (nLo hB.hu.at_)), fr4.app np (by simp [DF.l]), hF4.app np n5, hB4.app (x := (a, i + 1, pieceT g (i + 1) zz)) np rfl rfl rfl (by show d.uns ++ _ = (d.uns ++ _) ++ _; rw [htk1, List.append_assoc])⟩
    · rintro σ H' ⟨u4, u5, l', rfl, hL3, fr, hF3, hB3⟩
      have hall : (piecesW a g ps).take (ps.map V.str).length = piecesW a g ps := by
        rw [List.length_map]
        exact List.take_of_length_le (Nat.le_of_eq (zip_len _ _))
      rw [hall] at hB3
      have hhl := headT_len (g := g) (n := ps.length) hg6 (by omega)
      have hul4 := congrArg List.length hB3.eu
      rw [List.length_map] at hul4
      simp only [List.length_append, show (piecesW a g ps).length = _ from zip_len _ _] at hul4
      walk_at "ss"
      refine k_bm ?_
      walk_at "ss"
      refine k_fD hF3 T.no_Disk_unsynced (i := 3) (by decide +kernel) (by decide +kernel) rfl rfl ?_
      refine ⟨.inl ⟨rfl, _, SqL.of hB3.hu.at_⟩, ?_⟩
      walk_at "ss"
      unfold headT at hhl
      simp only [PySem.Str.length_append, len_empty] at hhl
      refine k_jsV (by simp only [PySem.Str.length_append, len_empty]; omega) ?_
      walk_at "ss"
      refine k_fmtI (by omega) ?_
      refine k_jsV (z := numT g) (by simp only [PySem.Str.length_append, len_empty]; omega) ?_
      walk_at "ss"
      refine k_jsV (by simp only [PySem.Str.length_append, len_empty]; omega) ?_
      walk_at "ss"
      rw [List.length_map]
      refine k_fmtI (by omega) ?_
      refine k_jsV (z := numT ps.length) (by simp only [PySem.Str.length_append, len_empty]; omega) ?_
      walk_at "ss"
      intro p np
      walk_at "ss"
      refine k_app (same_new np _ _ hB3.hu.at_) (by rw [List.length_map]; have := hok.u; omega) ?_
      have hL5 := (Fr.refl [f.u] _).app (u := f.u) np (o := .tup [.int (a : Nat), .int 0, .str (headT g ps.length)]) (o2 := .lst ((l'.map fun z => V.ref z.1) ++ [.ref p])) (by simp) _ _ hL3 (by simpa using Ne.symm (nLo hB.hu.at_))
      have fr5 := fr.app (u := f.u) np (o := .tup [.int (a : Nat), .int 0, .str (headT g ps.length)]) (o2 := .lst ((l'.map fun z => V.ref z.1) ++ [.ref p])) (by simp [DF.l])
      have hF5 := hF3.app np (o := .tup [.int (a : Nat), .int 0, .str (headT g ps.length)]) (o2 := .lst ((l'.map fun z => V.ref z.1) ++ [.ref p])) n5
      have hB5 : DiskB (upd (upd H' p (.tup [.int (a : Nat), .int 0, .str (headT g ps.length)])) f.u (.lst ((l'.map fun z => V.ref z.1) ++ [.ref p]))) f { d with uns := d.uns ++ (piecesW a g ps ++ [(a, 0, headT g ps.length)]), area := a, gen := g, pieces := ps.length, rows := 0 } (l' ++ [(p, (a, 0, headT g ps.length))]) := hB3.app (x := (a, 0, headT g ps.length)) np rfl rfl rfl (List.append_assoc ..).symm
      show tSeq _ _ _ _ (upd (upd H' p (.tup [.int (a : Nat), .int 0, .str (headT g ps.length)])) f.u (.lst ((l'.map fun z => V.ref z.1) ++ [.ref p])))
      generalize upd (upd H' p (.tup [.int (a : Nat), .int 0, .str (headT g ps.length)])) f.u (.lst ((l'.map fun z => V.ref z.1) ++ [.ref p])) = H5 at hL5 fr5 hF5 hB5 ⊢
      have hLa : L ≠ f.a := by
        obtain ⟨dx, h⟩ := hF
        exact Ne.symm (nLo h)
      obtain ⟨dx, ha⟩ := hF5
      walk_at "ss"
      cases full with
      | true =>
        have ha : H5 f.a = some (.ins T.C_Disk dx (FL nD (vD f d))) := ha
        refine k_pOld ha fr5 hB5 T.no_Disk_area (i := 6) (by decide +kernel) (by show 6 < 10; decide) (by decide) fun H6 ha fr6 hB6 e6 => ?_
        have hL6 := (e6 _ hLa).trans hL5
        walk_at "ss"
        refine k_pOld ha fr6 hB6 T.no_Disk_generation (i := 7) (by decide +kernel) (by show 7 < 10; decide) (by decide) fun H7 ha fr7 hB7 e7 => ?_
        have hL7 := (e7 _ hLa).trans hL6
        walk_at "ss"
        refine k_pOld ha fr7 hB7 T.no_Disk_pieces (i := 8) (by decide +kernel) (by show 8 < 10; decide) (by decide) fun H8 ha fr8 hB8 e8 => ?_
        walk_at "ss"
        refine k_pOld ha fr8 hB8 T.no_Disk_rows (i := 9) (by decide +kernel) (by show 9 < 10; decide) (by decide) fun H9 ha fr9 hB9 e9 => ?_
        refine k H9 _ fr9 ⟨dx, ?_⟩ hB9
        rw [ha, List.length_map]
        rfl
      | false =>
        have ha : H5 f.a = some (.ins T.C_Disk dx (FL nD6 (vD6 f d))) := ha
        refine k_pNew ha fr5 hB5 T.no_Disk_area rfl (by decide +kernel) (by decide) fun H6 ha fr6 hB6 e6 => ?_
        have hL6 := (e6 _ hLa).trans hL5
        walk_at "ss"
        refine k_pNew ha fr6 hB6 T.no_Disk_generation rfl (by decide +kernel) (by decide) fun H7 ha fr7 hB7 e7 => ?_
        have hL7 := (e7 _ hLa).trans hL6
        walk_at "ss"
        refine k_pNew ha fr7 hB7 T.no_Disk_pieces rfl (by decide +kernel) (by decide) fun H8 ha fr8 hB8 e8 => ?_
        walk_at "ss"
        refine k_pNew ha fr8 hB8 T.no_Disk_rows rfl (by decide +kernel) (by decide) fun H9 ha fr9 hB9 e9 => ?_
        refine k H9 _ fr9 ⟨dx, ?_⟩ hB9
        rw [ha, List.length_map]
        rfl
end

section
open TL
variable {w : World} {K : PySem.W.Frag} {mg : Str → Option Value} {base : Heap}
/-! ### check -/
def DS.softd (s : DS) : DS := if s.soft = true then s.syncd else s
structure CkOk (s : DS) (G : Nat) : Prop where
  ok : Ok s 30000
  ok1 : Ok s.softd 30000
  ok2 : Ok (s.softd.take (1 - s.area) (G + 1)) 30000
  gs : Gens s.softd G
  g6 : G < 1000000
  ta : TabOk s.tab
  ar : s.area ≤ 1
  fl : s.fallen = false
theorem softd_same (s : DS) : s.softd.area = s.area ∧ s.softd.tab = s.tab ∧ s.softd.fallen = s.fallen ∧ s.softd.gen = s.gen := by
  unfold DS.softd
  split
  · obtain ⟨a1, a2, a3, a4, a5, a6, a7, a8, a9⟩ := puts_same s.uns s
    exact ⟨a6, a2, a5, a7⟩
  · exact ⟨rfl, rfl, rfl, rfl⟩
theorem Inv.softd {s : DS} {n u : Nat} (h : Inv s n u) : Inv s.softd n u := by
  unfold DS.softd
  split
  · exact h.sync u
  · exact h
theorem Inv.ck {s : DS} {n u : Nat} (h : Inv s n u) (hn : n ≤ 1000) (hu : u + 108 ≤ 30000) : CkOk s s.gen := by
  have h1 := h.softd
  obtain ⟨e1, e2, e3, e4⟩ := softd_same s
  have h2 := h1.take (a := 1 - s.area) (g := s.gen + 1) (by omega) (by omega) (by have := h.g; omega) hn
  have hg := h1.gens
  rw [e4] at hg
  exact ⟨h.ok (by omega), h1.ok (by omega), h2.ok hu, hg, by have := h.g; omega, h.tab, h.ar, h.fl⟩
theorem check_def (s : DS) (g : Nat) (b : Bool) : s.check g b = if b = true then (s.softd.take (1 - s.area) g).syncd else s.softd.take (1 - s.area) g := rfl
theorem k_fT {T : Tx K mg} {H : Hp} {f : DF} {s : DS} {nm : Str} {i : Nat} {v : V} {Q : VK} (h : FldAt T H f s true) (no : NoAttr K T.C_Disk nm) (hi2 : pos? nm nD = some i) (hv2 : (vD f s)[i]? = some v) (q : Q v H) : rFld K nm (.ref f.a) H Q := by
  obtain ⟨dx, h⟩ := h
  exact k_fldAt h T.cl_Disk no hi2 hv2 q
/-- what is of F1, or new behind H1, is of F, or new behind H -/
theorem Nw.trans {F F1 F2 : List Addr} {H H1 : Hp} (h : Nw F F1 H) (g : Nw F1 F2 H1) (fr : Fr F H H1) : Nw F F2 H := fun x hx => by
  rcases g x hx with m | m
  · exact h x m
  · by_cases hm : x ∈ F
    · exact .inl hm
    · refine .inr ?_
      cases e : H x with
      | none => rfl
      | some o => rw [fr _ _ e hm] at m; cases m
theorem Nw.back {F F2 : List Addr} {H H1 : Hp} (h : Nw F F2 H1) (s : Same H H1) : Nw F F2 H := fun x hx => by
  rcases h x hx with h | h
  · exact .inl h
  · refine .inr ?_
    cases e : H x with
    | none => rfl
    | some o => rw [s _ _ e] at h; cases h
theorem bindC1 (T : Tx K mg) : ∃ ds, Vals [V.bl true] ds ∧ Binds K T.fd_Disk_check P_Disk_check ds :=
  L2.FunD.binds0 (ps := P_Disk_check) T.F_Disk_check 1 (by simp) rfl (fun D doc pm an cdv ct us ks hu hk => match us, ks, hu, hk with
    | [_], [_], _, _ => ⟨_, _, _, _, _, _, rfl, rfl, rfl⟩)
theorem kbindC (T : Tx K mg) : ∃ mv : List Value, KBn K T.fd_Disk_check P_Disk_check 1 ["synced"] (fun us ws => us ++ ws) (fun vs zs => vs ++ zs) :=
  L2.FunD.kbinds0 (ps := P_Disk_check) T.F_Disk_check 1 ["synced"] [] (fun us _ ws => us ++ ws) (by simp) (fun q hq => by cases hq) (fun r1 _ r4 => r1.append r4)
    (fun D doc pm an cdv ct us mv ws hu hm hw => match us, mv, ws, hu, hm, hw with
    | [_], [], [_], _, _, _ => rfl)
def spCheck (T : Tx K mg) : Sp := fun vs H Q _ => ∃ (f : DF) (s : DS) (G : Nat) (b : Bool), vs = [.ref f.a, .bl b] ∧ DiskAt T H f s ∧ CkOk s G ∧ ∀ (f' : DF) (H' : Hp), f'.a = f.a → Fr f.l H H' → Nw f.l f'.l H → DiskAt T H' f' (s.check (G + 1) b) → Q .non H'
theorem ok_Disk_check (T : Tx K mg) : FnOk P w K mg base CX0 4 T.a_Disk_check T.fd_Disk_check P_Disk_check (spCheck T) := by
  refine T.F_Disk_check.ok sc_Disk_check (fun vs H Q E h => ?_) (fun cdv A outer s H vs Q E hr h => ?_)
  · obtain ⟨f, s, G, b, rfl, _⟩ := h
    rfl
  · obtain ⟨f, d, G, b, rfl, ⟨hF, l, hB⟩, hc, k⟩ := h
    have nd := sc_Disk_check.nd
    obtain ⟨n1, n2, n3, n4, n5, n6, n7, n8, n9, n10, n11, n12, n13, n14, n15⟩ := DF.nds hB.nd
    have hul : l.length = d.uns.length := by rw [← hB.eu, List.length_map]
    refine ⟨_, (pss_cons (ps_if (kpt_truth K (kpe_fld K (kv (i := 0) v_Disk_check_self))) (pss_one ps_never) pss_nil)
      (pss_cons (ps_setLc (i := 2) (own := [("area", 3), ("index", 4), ("_", 5)]) rfl nd rfl (locB_ok l_Disk_check_heads) (sw_true rfl (locB_ok l_Disk_check_heads) rfl (by decide +kernel)) (kpi_list K (kpe_fld K (kv (i := 0) v_Disk_check_self))) ok_cs_Disk_check_1 (fun _ _ _ _ _ => (kpg_tup K 3 rfl (pgs_cons (kgL (i := 3) nd l_Disk_check_1_area) (pgs_cons (kgL (i := 4) nd l_Disk_check_1_index) (pgs_cons (kgL (i := 5) nd l_Disk_check_1_) pgs_nil))))) (fun _ _ _ _ _ => (pts_one (PW.pt (pw_and (pt_cmpR op_eq (kv (i := 3) v_Disk_check_1_area) (kpe_fld K (kv (i := 0) v_Disk_check_1_self)) (nomark _)) (pw_and1 (pt_cmpR op_eq (kv (i := 4) v_Disk_check_1_index) pe_int (nomark _))))))) (fun _ _ _ _ _ => (kv (i := 4) v_Disk_check_1_index)))
      (kss_meet (ps_if (pt_cmpR op_gt (kcB b_len (by decide) (by decide) (kc_len K) g_Disk_check_len T.n_len (pa_cons (kv (i := 2) v_Disk_check_heads) pa_nil)) pe_int (nomark _)) (pss_one (ps_expr (kpe_methP0 (disp1 T.cl_Disk T.me_Disk_sync (ok_Disk_sync T) T.b_Disk_sync) (hr.mono (by first | decide | omega)) pass0 (kv (i := 0) v_Disk_check_self)))) pss_nil)
      (pss_cons (ps_expr (kpe_methP (disp1 T.cl_Disk T.me_Disk_take_area (ok_Disk_take_area T) T.b_Disk_take_area) (hr.mono (by first | decide | omega)) pass0 (kv (i := 0) v_Disk_check_self) (pa_cons (pe_op op_sub pe_int (kpe_fld K (kv (i := 0) v_Disk_check_self))) (pa_cons (pe_op kop_add (kpe_methP0 (disp1 T.cl_Disk T.me_Disk_greatest (ok_Disk_greatest T) T.b_Disk_greatest) (hr.mono (by first | decide | omega)) pass0 (kv (i := 0) v_Disk_check_self)) pe_int) pa_nil))))
      (pss_one (ps_if (kpt_truth K (kv (i := 1) v_Disk_check_synced)) (pss_one (ps_expr (kpe_methP0 (disp1 T.cl_Disk T.me_Disk_sync (ok_Disk_sync T) T.b_Disk_sync) (hr.mono (by first | decide | omega)) pass0 (kv (i := 0) v_Disk_check_self)))) pss_nil)))))), ?_⟩
    walk_at "ss"
    refine k_tru ?_
    walk_at "ss"
    refine k_fD hF T.no_Disk_fallen (i := 5) (by decide +kernel) (by decide +kernel) rfl rfl ?_
    refine ⟨d.fallen, rfl, ?_⟩
    rw [hc.fl]
    refine k_f ?_
    walk_at "ss"
    refine k_fD hF T.no_Disk_unsynced (i := 3) (by decide +kernel) (by decide +kernel) rfl rfl ?_
    refine k_iL (SqL.of hB.hu.at_) ?_
    intro D nD
    refine k_lcList (l.map fun z => V.ref z.1) (fun i H' => ∃ hs : List Int, H' D = some (.lst (hs.map V.int)) ∧ hs.length ≤ i ∧ Same H H' ∧ ((d.uns.take i).any fun x => decide (x.1 = d.area) && decide (x.2.1 = 0)) = decide (0 < hs.length)) ⟨[], upd_same, Nat.le_refl _, same_new nD, rfl⟩ (fun i H' _ h => SqL.of (by obtain ⟨_, _, _, h, _⟩ := h; exact h _ _ hB.hu.at_)) ?_ ?_
    · rintro i x H' hx ⟨hs, hD, hi, sm, hP⟩
      rw [List.getElem?_map] at hx
      obtain ⟨z, hz, rfl⟩ := Option.map_eq_some_iff.mp hx
      have hil := (List.getElem?_eq_some_iff.mp hz).1
      have hzw := sm _ _ (hB.hu.ws z (List.mem_of_getElem? hz))
      have huz : d.uns[i]? = some z.2 := by rw [← hB.eu, List.getElem?_map, hz]; rfl
      have hF1 := hF.up sm
      rw [List.take_add_one, huz, Option.toList_some, List.any_append, List.any_cons, List.any_nil, Bool.or_false, hP]
      refine k_gTup (SqT.of hzw) rfl ?_
      walk_at "ss"
      refine ⟨rfl, ?_⟩
      walk_at "ss"
      obtain ⟨dx1, ha1⟩ := hF1
      have hF1 : FldAt T H' f d true := ⟨dx1, ha1⟩
      have no : ¬ (z.2.1 = d.area ∧ z.2.2.1 = 0) → ∃ hs_1 : List Int, H' D = some (.lst (hs_1.map V.int)) ∧ hs_1.length ≤ i + 1 ∧ Same H H' ∧ (decide (0 < hs.length) || decide (z.2.1 = d.area) && decide (z.2.2.1 = 0)) = decide (0 < hs_1.length) := fun h => by
        refine ⟨hs, hD, by omega, sm, ?_⟩
        rw [← Bool.decide_and, decide_eq_false h, Bool.or_false]
      refine k_fT hF1 T.no_Disk_area (i := 6) (by decide +kernel) rfl ?_
      walk_at "ss"
      refine k_d (fun h1 => ?_) (fun h1 => ?_)
      · walk_at "ss"
        refine k_d (fun h2 => ?_) (fun h2 => ?_)
        · walk_at "ss"
          refine ⟨_, hD, small_lt (by rw [List.length_map]; have := hc.ok.u; omega), hs ++ [((z.2.2.1 : Nat) : Int)], ?_, by rw [List.length_append]; exact Nat.add_le_add_right hi 1, same_put sm nD, ?_⟩
          · rw [upd_same, List.map_append]
            rfl
          · rw [decide_eq_true (show z.2.1 = d.area by omega), decide_eq_true (show z.2.2.1 = 0 by omega), List.length_append, decide_eq_true (show 0 < hs.length + [((z.2.2.1 : Nat) : Int)].length by show 0 < hs.length + 1; omega)]
            simp
        · walk_at "ss"
          exact no (fun q => h2 (by rw [q.2]; rfl))
      · walk_at "ss"
        exact no (fun q => h1 (by rw [q.1]))
    · rintro H1 ⟨hs, hD, hi, sm, hP⟩
      rw [List.length_map, hul, List.take_length] at hP
      have esoft : d.soft = decide (0 < hs.length) := hP
      have hF1 := hF.up sm
      have hB1 := hB.up sm
      walk_at "ss"
      refine k_meet (fun σ H2 => (∃ u3 u4 u5, σ = [some (.ref f.a), some (.bl b), some (.ref D), u3, u4, u5]) ∧ ∃ f1 : DF, f1.a = f.a ∧ Fr f.l H H2 ∧ Nw f.l f1.l H ∧ DiskAt T H2 f1 d.softd) ?_ ?_
      · walk_at "ss"
        rw [List.length_map]
        refine k_d (fun h1 => ?_) (fun h1 => ?_)
        · have h1 : 0 < hs.length := by omega
          rw [decide_eq_true h1] at esoft
          walk_at "ss"
          refine k_meth ?_
          walk_at "ss"
          obtain ⟨dx, fs, hins, hno⟩ := hF1.ins
          refine ⟨f.a, _, _, _, _, rfl, hins, ⟨rfl, rfl⟩, hno _ (by decide +kernel), ?_⟩
          walk_at "ss"
          refine ⟨f, d, rfl, ⟨hF1, l, hB1⟩, hc.fl, hc.ok, fun f' H' e fr nw hd => ?_⟩
          refine ⟨⟨_, _, _, rfl⟩, f', e, (Fr.of sm).trans fr (fun x hx => .inl hx), nw.back sm, ?_⟩
          unfold DS.softd
          rw [if_pos esoft]
          exact hd
        · have h1 : ¬ 0 < hs.length := by omega
          rw [decide_eq_false h1] at esoft
          walk_at "ss"
          refine ⟨⟨_, _, _, rfl⟩, f, rfl, Fr.of sm, Nw.refl _ _, ?_⟩
          unfold DS.softd
          rw [if_neg (by rw [esoft]; decide)]
          exact ⟨hF1, l, hB1⟩
      · rintro σ H2 ⟨⟨u3, u4, u5, rfl⟩, f1, ef1, fr1, nw1, hF2, l2, hB2⟩
        walk_at "ss"
        refine k_meth ?_
        walk_at "ss"
        obtain ⟨dx, fs, hins, hno⟩ := hF2.ins
        refine ⟨f.a, _, _, _, _, rfl, ef1 ▸ hins, ⟨rfl, rfl⟩, hno _ (by decide +kernel), ?_⟩
        walk_at "ss"
        rw [← ef1]
        obtain ⟨ea, et, efl, eg⟩ := softd_same d
        refine k_fT hF2 T.no_Disk_area (i := 6) (by decide +kernel) rfl ?_
        walk_at "ss"
        refine k_meth ?_
        walk_at "ss"
        refine ⟨f1.a, _, _, _, _, rfl, hins, ⟨rfl, rfl⟩, hno _ (by decide +kernel), ?_⟩
        walk_at "ss"
        refine ⟨f1, d.softd, l2, true, G, rfl, hF2, hB2, hc.gs, by have := hc.g6; omega, hc.ok1, fun H3 s3 => ?_⟩
        walk_at "ss"
        have hF3 := hF2.up s3
        have hB3 := hB2.up s3
        have fr3 := fr1.same s3
        have e1 : (1 : Int) - (d.softd.area : Nat) = ((1 - d.area : Nat) : Int) := by have := hc.ar; rw [ea]; omega
        have e2 : ((G : Nat) : Int) + 1 = ((G + 1 : Nat) : Int) := rfl
        rw [e1, e2]
        refine ⟨f1, d.softd, l2, true, 1 - d.area, G + 1, rfl, hF3, hB3, et ▸ hc.ta, by omega, by have := hc.g6; omega, hc.ok1, fun H4 l4 fr4 hF4 hB4 => ?_⟩
        have fr5 := fr3.trans fr4 nw1
        have edef := check_def d (G + 1) b
        walk_at "ss"
        refine k_tru ?_
        walk_at "ss"
        refine ⟨b, rfl, ?_⟩
        cases b with
        | false =>
          refine k_f ?_
          walk_at "ss"
          refine k f1 H4 ef1 fr5 nw1 ?_
          rw [edef, if_neg Bool.false_ne_true]
          exact ⟨hF4, l4, hB4⟩
        | true =>
          refine k_t ?_
          walk_at "ss"
          refine k_meth ?_
          walk_at "ss"
          obtain ⟨dx4, fs4, hins4, hno4⟩ := hF4.ins
          refine ⟨f1.a, _, _, _, _, rfl, hins4, ⟨rfl, rfl⟩, hno4 _ (by decide +kernel), ?_⟩
          walk_at "ss"
          refine ⟨f1, d.softd.take (1 - d.area) (G + 1), rfl, ⟨hF4, l4, hB4⟩, efl.trans hc.fl, hc.ok2, fun f' H' e fr nw hd => ?_⟩
          refine k f' H' (e.trans ef1) (fr5.trans fr nw1) (nw1.trans nw fr5) ?_
          rw [edef, if_pos rfl]
          exact hd
end

section
open TL
variable {w : World} {K : PySem.W.Frag} {mg : Str → Option Value} {base : Heap}
/-! ### write -/
structure WrtOk (s : DS) (G : Nat) (cs : CsL) : Prop where
  ck : CkOk s G
  ch : ChOk cs
  p : (s.wck (G + 1) cs).pieces ≤ 1000
  r : (s.wck (G + 1) cs).rows ≤ 1000
  g : (s.wck (G + 1) cs).gen ≤ 1000000
  ar : (s.wck (G + 1) cs).area ≤ 1
  fl : (s.wck (G + 1) cs).fallen = false
  ok : Ok ((s.wck (G + 1) cs).recd cs) 30000
  tb : (s.wck (G + 1) cs).tab.length ≤ 1000
theorem TabOk.len {t : Tab} (h : TabOk t) : t.length ≤ 20 := by
  have := h.ch.cs.len
  unfold tabC at this
  rw [List.length_map] at this
  exact this
theorem Inv.wck {s : DS} {n u : Nat} {cs : CsL} (h : Inv s n u) (hn : n ≤ 999) : Inv (s.wck (s.gen + 1) cs) (n + 1) (u + 108) := by
  unfold DS.wck
  split
  · exact h.check (by omega) true
  · exact ⟨h.m1, h.m2, h.tab, h.l0, h.l1, h.k0, h.k1, Nat.le_trans h.ul (by omega), h.ui, by have := h.g; omega, h.ar, h.pc, h.rw, h.fl, h.hd⟩
theorem Inv.wr {s : DS} {n u : Nat} {cs : CsL} (h : Inv s n u) (hc : ChOk cs) (hz : cs.length ≠ 0) (hn : n ≤ 999) (hu : u + 215 ≤ 30000) : WrtOk s s.gen cs := by
  have h1 := h.wck (cs := cs) hn
  have h2 := h.write hc hn
  unfold DS.write at h2
  rw [if_neg hz] at h2
  exact ⟨h.ck (by omega) (by omega), hc, Nat.le_trans h1.pc (by decide), Nat.le_trans h1.rw (by decide), by have := h1.g; omega, h1.ar, h1.fl, h2.ok hu, Nat.le_trans h1.tab.len (by decide)⟩
theorem k_tmeth {C : Addr} {m : Str} {sp : Sp} {dvs : List V} {E : XK} {ta : TE} {t : TA} {σ : L2.St} {H : Hp} {Q : VK} (h : ta σ H fun x H1 => ∃ a dx fs, x = V.ref a ∧ H1 a = some (.ins C dx fs) ∧ fs.lookup m = none ∧ t σ H1 fun vs H2 => sp (x :: (vs ++ dvs)) H2 Q E) : tMeth C m sp dvs E ta t σ H Q := h
theorem k_lock {t : TS} {D : Ends} {σ : L2.St} {H : Hp} {d : Addr} {u : HO} (h : H d = some u) (m : Mut (some u))
    (k : ∀ od, t ⟨fun σ' H' => H' d = some (.frz od u) ∧ D.nx σ' (upd H' d u), fun v H' => H' d = some (.frz od u) ∧ D.rt v (upd H' d u), fun σ' H' => H' d = some (.frz od u) ∧ D.bk σ' (upd H' d u), fun σ' H' => H' d = some (.frz od u) ∧ D.ct σ' (upd H' d u)⟩ σ (upd H d (.frz od u))) : tLock t D σ H := ⟨d, u, h, m, k⟩
theorem k_lockE {t : TE} {σ : L2.St} {H : Hp} {Q : VK} {d : Addr} {u : HO} (h : H d = some u) (m : Mut (some u)) (k : ∀ od, t σ (upd H d (.frz od u)) fun v H' => H' d = some (.frz od u) ∧ Q v (upd H' d u)) : tLockE t σ H Q := ⟨d, u, h, m, k⟩
theorem k_dpop2 {td ty tx : TE} {σ : L2.St} {H : Hp} {Q : VK} (h : td σ H fun x H1 => ∃ a, x = .ref a ∧ IsD H1 a ∧ ty σ H1 fun y H2 => tx σ H2 fun z H3 => ∃ kvs k, H3 a = some (.dK kvs) ∧ y = kV k ∧
  (∀ v, valV kvs k = some v → Q v (upd H3 a (.dK (dropK kvs k)))) ∧ (valV kvs k = none → Q z H3)) : tDPop2 td ty tx σ H Q := h
theorem k_items {td : TE} {σ : L2.St} {H : Hp} {R : It → Hp → Prop} (h : td σ H fun x H1 => ∃ d o kvs, x = .ref d ∧ H1 d = some (.frz o (.dK kvs)) ∧ R (Iti d o kvs) H1) : iItems td σ H R := h
theorem Fr.unlock {F : List Addr} {H H' : Hp} {c : Addr} {o u : HO} (h : Fr F (upd H c o) H') (hc : H c = some u) : Fr F H (upd H' c u) := fun x p e ne => by
  by_cases hx : x = c
  · rw [hx] at e ⊢
    rw [hc] at e
    rw [upd_same, e]
  · rw [upd_ne hx]
    exact h x p (by rw [upd_ne hx]; exact e) ne
theorem DiskB.off {H : Hp} {f : DF} {s : DS} {l : UL} {x : Addr} {o : HO} (h : DiskB H f s l) (hx : x ∉ f.l) (hk : ∀ xs, H x ≠ some (.tup xs)) : DiskB (upd H x o) f s l := by
  have hx2 := hx
  unfold DF.l at hx
  simp only [List.mem_cons, List.not_mem_nil, or_false, not_or] at hx
  obtain ⟨h1, h2, h3, h4, h5, h6⟩ := hx
  refine ⟨h.nd, ?_, ?_, ?_, ?_, ⟨?_, fun z hz => ?_⟩, h.eu⟩
  · rw [upd_ne (Ne.symm h2)]; exact h.ht
  · rw [upd_ne (Ne.symm h3)]; exact h.har
  · rw [upd_ne (Ne.symm h4)]; exact h.h0
  · rw [upd_ne (Ne.symm h5)]; exact h.h1
  · rw [upd_ne (Ne.symm h6)]; exact h.hu.at_
  · have hz1 := h.hu.ws z hz
    show upd H x o z.1 = _
    rw [upd_ne (fun q => hk _ (by rw [← q]; exact hz1))]
    exact hz1
theorem FldAt.off {T : Tx K mg} {H : Hp} {f : DF} {s : DS} {full : Bool} {x : Addr} {o : HO} (h : FldAt T H f s full) (hx : x ∉ f.l) : FldAt T (upd H x o) f s full := by
  obtain ⟨dx, h⟩ := h
  exact ⟨dx, by rw [upd_ne (fun q => hx (by rw [← q]; simp [DF.l]))]; exact h⟩
theorem DiskB.setT {H : Hp} {f : DF} {s s' : DS} {l : UL} (h : DiskB H f s l) (e2 : s'.c0 = s.c0) (e3 : s'.c1 = s.c1) (e4 : s'.uns = s.uns) : DiskB (upd H f.t (.dK (kT s'.tab))) f s' l := by
  obtain ⟨n1, n2, n3, n4, n5, n6, n7, n8, n9, n10, n11, n12, n13, n14, n15⟩ := DF.nds h.nd
  have fr : Fr [f.t] H (upd H f.t (.dK (kT s'.tab))) := (Fr.refl _ _).put (.inl (by simp))
  exact ⟨h.nd, upd_same, fr _ _ h.har (by simpa using Ne.symm n6), e2 ▸ fr _ _ h.h0 (by simpa using Ne.symm n7), e3 ▸ fr _ _ h.h1 (by simpa using Ne.symm n8), h.hu.fr fr (fun x hx xs => by rw [List.mem_singleton.mp hx, h.ht]; intro q; cases q) (by simpa using Ne.symm n9), e4 ▸ h.eu⟩
theorem kT_set (t : Tab) (k v : Str) : putK (kT t) (.inr k) (.str v) = kT (setG t k v) := put_kG (fk := Sum.inr) (fv := V.str) (fun _ _ => Sum.inr.inj) t k v
theorem kT_drop (t : Tab) (k : Str) : dropK (kT t) (.inr k) = kT (dropG t k) := drop_kG (fk := Sum.inr) (fv := V.str) (fun _ _ => Sum.inr.inj) k t
theorem kT_val (t : Tab) (k : Str) : valV (kT t) (.inr k) = (getG t k).map V.str := val_kG (fk := Sum.inr) (fv := V.str) (fun _ _ => Sum.inr.inj) k t
theorem applyC_snoc (cs : CsL) (z : Str × Option Str) (t : Tab) : applyC (cs ++ [z]) t = match z.2 with | none => dropG (applyC cs t) z.1 | some v => setG (applyC cs t) z.1 v := by
  unfold applyC
  rw [List.foldl_append]
  rfl
theorem setG_len {κ α : Type} [DecidableEq κ] (t : List (κ × α)) (k : κ) (v : α) : (setG t k v).length ≤ t.length + 1 := by
  unfold setG
  split
  · rw [List.length_map]; omega
  · rw [List.length_append]; exact Nat.le_refl _
theorem applyC_len : ∀ (cs : CsL) (t : Tab), (applyC cs t).length ≤ t.length + cs.length
  | [], t => Nat.le_refl _
  | (k, o) :: cs, t => by
    cases o with
    | none =>
      have := applyC_len cs (dropG t k)
      have h2 : (dropG t k).length ≤ t.length := List.length_filter_le _ _
      show (applyC cs (dropG t k)).length ≤ _
      rw [List.length_cons]
      omega
    | some v =>
      have := applyC_len cs (setG t k v)
      have h2 := setG_len t k v
      show (applyC cs (setG t k v)).length ≤ _
      rw [List.length_cons]
      omega
def spWrite (T : Tx K mg) : Sp := fun vs H Q _ => ∃ (f : DF) (s : DS) (G : Nat) (c : Addr) (cs : CsL), vs = [.ref f.a, .ref c] ∧ DiskAt T H f s ∧ s.fallen = false ∧ H c = some (.dK (kC cs)) ∧ c ∉ f.l ∧ (cs.length ≠ 0 → WrtOk s G cs) ∧ ∀ (f' : DF) (H' : Hp), f'.a = f.a → Fr f.l H H' → Nw f.l f'.l H → DiskAt T H' f' (s.write (G + 1) cs) → Q .non H'
theorem ok_Disk_write (T : Tx K mg) : FnOk P w K mg base CX0 5 T.a_Disk_write T.fd_Disk_write P_Disk_write (spWrite T) := by
  refine T.F_Disk_write.ok sc_Disk_write (fun vs H Q E h => ?_) (fun cdv A outer s H vs Q E hr h => ?_)
  · obtain ⟨f, s, G, c, cs, rfl, _⟩ := h
    rfl
  · obtain ⟨f, d, G, c, cs, rfl, ⟨hF, l, hB⟩, hfl, hd, hcf, hw, k⟩ := h
    have nd := sc_Disk_write.nd
    obtain ⟨n1, n2, n3, n4, n5, n6, n7, n8, n9, n10, n11, n12, n13, n14, n15⟩ := DF.nds hB.nd
    have hul : l.length = d.uns.length := by rw [← hB.eu, List.length_map]
    obtain ⟨dsC, dvm_Disk_check, bsm_Disk_check⟩ := bindC1 T
    refine ⟨_, (pss_cons (ps_if (kpt_truth K (kpe_fld K (kv (i := 0) v_Disk_write_self))) (pss_one ps_never) pss_nil)
      (pss_cons (ps_if (pt_cmpR op_eq (kcB b_len (by decide) (by decide) call_lenD g_Disk_write_len T.n_len (pa_cons (kv (i := 1) v_Disk_write_changes) pa_nil)) pe_int (nomark _)) (pss_one ps_retN) pss_nil)
      (pss_cons (ks_setL (i := 2) nd l_Disk_write_stretches (pe_call (ok_stretches_of T) (hr.mono (by first | decide | omega)) g_Disk_write_stretches_of T.m_stretches_of T.k_stretches_of T.b_stretches_of .nil pass0 (pa_cons (pe_call (ok_text_of T) (hr.mono (by first | decide | omega)) g_Disk_write_text_of T.m_text_of T.k_text_of T.b_text_of .nil pass0 (pa_cons (kv (i := 1) v_Disk_write_changes) pa_nil)) (pa_cons (kpe_cval K (kcls g_Disk_write_Disk T.m_Disk)) pa_nil))))
      (kss_meet (ps_if (PW.pt (pw_and (pt_cmpR op_gt (kpe_fld K (kv (i := 0) v_Disk_write_self)) pe_int (nomark _)) (pw_and1 (pt_cmpR op_gt (pe_op kop_add (kpe_fld K (kv (i := 0) v_Disk_write_self)) (kcB b_len (by decide) (by decide) (kc_len K) g_Disk_write_len T.n_len (pa_cons (kv (i := 2) v_Disk_write_stretches) pa_nil))) (kpe_fld K (kv (i := 0) v_Disk_write_self)) (nomark _))))) (pss_one (ps_expr (pe_meth0 (kv (i := 0) v_Disk_write_self) T.cl_Disk T.me_Disk_check (ok_Disk_check T) (hr.mono (by first | decide | omega)) bsm_Disk_check dvm_Disk_check pass0))) pss_nil)
      (pss_cons (ks_setL (i := 3) nd l_Disk_write_index (pe_op kop_add (kpe_fld K (kv (i := 0) v_Disk_write_self)) (kpe_fld K (kv (i := 0) v_Disk_write_self))))
      (pss_cons (ps_for PassesOwn.never rfl (kpi_enum K g_Disk_write_enumerate T.n_enumerate (pa_cons (kv (i := 2) v_Disk_write_stretches) pa_nil)) (kpg_tup K 2 rfl (pgs_cons (kgL (i := 4) nd l_Disk_write_at) (pgs_cons (kgL (i := 5) nd l_Disk_write_stretch) pgs_nil))) (pss_cons (ks_setL (i := 6) nd l_Disk_write_text (pe_joined (.cons pe_str (.cons (pe_fmt (kpe_fld K (kv (i := 0) v_Disk_write_self))) (.cons pe_str (.cons (pe_fmt (pe_op kop_add (pe_op kop_add (kpe_fld K (kv (i := 0) v_Disk_write_self)) (kv (i := 4) v_Disk_write_at)) pe_int)) (.cons pe_str (.cons (pe_fmt (pe_op op_sub (pe_op op_sub (kcB b_len (by decide) (by decide) (kc_len K) g_Disk_write_len T.n_len (pa_cons (kv (i := 2) v_Disk_write_stretches) pa_nil)) (kv (i := 4) v_Disk_write_at)) pe_int)) (.cons pe_str (.cons (pe_fmt (kv (i := 5) v_Disk_write_stretch)) .nil))))))))))
      (pss_one (ps_expr (pe_bm PySem.F.plainAttrs_list PySem.F.slot_list_append PySem.F.type_list_append mt_append (kpe_fld K (kv (i := 0) v_Disk_write_self)) (pa_cons (pe_tup (pa_cons (kpe_fld K (kv (i := 0) v_Disk_write_self)) (pa_cons (pe_op kop_add (pe_op kop_add (kv (i := 3) v_Disk_write_index) (kv (i := 4) v_Disk_write_at)) pe_int) (pa_cons (kv (i := 6) v_Disk_write_text) pa_nil)))) pa_nil))))))
      (pss_cons (kps_fldaug K (kv (i := 0) v_Disk_write_self) (kcB b_len (by decide) (by decide) (kc_len K) g_Disk_write_len T.n_len (pa_cons (kv (i := 2) v_Disk_write_stretches) pa_nil)) iop_add)
      (pss_one (ps_lock (ps_for PassesOwn.never rfl (pi_items (kv (i := 1) v_Disk_write_changes)) (kpg_tup K 2 rfl (pgs_cons (kgL (i := 7) nd l_Disk_write_key) (pgs_cons (kgL (i := 8) nd l_Disk_write_value) pgs_nil))) (pss_one (ps_if (pt_cmpR op_isN (kv (i := 8) v_Disk_write_value) pe_non (nomark _)) (pss_one (ps_expr (pe_dpop2 (kpe_fld K (kv (i := 0) v_Disk_write_self)) (kv (i := 7) v_Disk_write_key) pe_non ⟨rfl, rfl, rfl, rfl⟩))) (pss_one (ps_asg (kv (i := 8) v_Disk_write_value) (pg_sub (kpe_fld K (kv (i := 0) v_Disk_write_self)) (kv (i := 7) v_Disk_write_key) (set_dict (hu_of hr))))))))))))))))), ?_⟩
    walk_at "ss"
    refine k_tru ?_
    walk_at "ss"
    refine k_fD hF T.no_Disk_fallen (i := 5) (by decide +kernel) (by decide +kernel) rfl rfl ?_
    refine ⟨d.fallen, rfl, ?_⟩
    rw [hfl]
    refine k_f ?_
    walk_at "ss"
    refine ⟨c, kC cs, rfl, hd, ?_⟩
    walk_at "ss"
    rw [show (kC cs).length = cs.length from List.length_map ..]
    refine k_d (fun hz => ?_) (fun hz => ?_)
    · have hz : cs.length = 0 := by omega
      walk_at "ss"
      refine k f H rfl (Fr.refl _ _) (Nw.refl _ _) ?_
      unfold DS.write
      rw [if_pos hz]
      exact ⟨hF, l, hB⟩
    have hz : cs.length ≠ 0 := by omega
    have hw := hw hz
    have ew : d.write (G + 1) cs = (d.wck (G + 1) cs).recd cs := by unfold DS.write; rw [if_neg hz]
    rw [ew] at k
    have hcs := hw.ch.cs
    walk_at "ss"
    refine ⟨c, cs, rfl, hd, hcs, fun z H1 hz1 s1 => ?_⟩
    walk_at "ss"
    obtain ⟨uc, hcv⟩ := T.cv_Disk_STRETCH
    refine ⟨T.C_Disk, _, _, uc, rfl, T.cr_Disk, hcv, ?_⟩
    walk_at "ss"
    have hzl := hz1.len hcs
    have ep : cutZ z = prt cs := by unfold prt; rw [← hz1.tx]
    refine ⟨z, rfl, by omega, fun L H2 nL s2 hL => ?_⟩
    rw [ep] at hL
    have pl := prt_len hcs
    have pz : ∀ y ∈ prt cs, y.length ≤ 6400 := fun y hy => prt_z hcs hy
    obtain ⟨ps, eps⟩ : ∃ ps : List Str, ps = prt cs := ⟨_, rfl⟩
    obtain ⟨d1, ed1⟩ : ∃ d1 : DS, d1 = d.wck (G + 1) cs := ⟨_, rfl⟩
    have erec : d1.recd cs = { d1 with uns := d1.uns ++ rowsW d1.area d1.pieces d1.rows d1.gen ps, rows := d1.rows + ps.length, tab := applyC cs d1.tab } := by rw [eps]; rfl
    have hwp := hw.p
    have hwr := hw.r
    have hwg := hw.g
    have hwa := hw.ar
    have hwfl := hw.fl
    have hwok := hw.ok
    have hwtb := hw.tb
    rw [← ed1] at k hwp hwr hwg hwa hwfl hwok hwtb
    rw [erec] at k hwok
    have edef : d1 = if d.fullB ps.length = true then d.check (G + 1) true else d := by rw [ed1, eps]; rfl
    rw [← eps] at hL pl pz
    have s12 := s1.trans s2
    have nLo : ∀ {x : Addr} {o : HO}, H x = some o → x ≠ L := fun h => ne_of_none (s1 _ _ h) nL
    have hLf : L ∉ f.l := fun hm => by
      unfold DF.l at hm
      simp only [List.mem_cons, List.not_mem_nil, or_false] at hm
      obtain ⟨dx, ha⟩ := hF
      rcases hm with e | e | e | e | e | e
      · exact nLo ha e.symm
      · exact nLo hB.ht e.symm
      · exact nLo hB.har e.symm
      · exact nLo hB.h0 e.symm
      · exact nLo hB.h1 e.symm
      · exact nLo hB.hu.at_ e.symm
    have hF2 := hF.up s12
    have hB2 := hB.up s12
    walk_at "ss"
    refine k_meet (fun σ H3 => σ = [some (.ref f.a), some (.ref c), some (.ref L), none, none, none, none, none, none] ∧ ∃ f1 : DF, f1.a = f.a ∧ Fr f.l H H3 ∧ Nw f.l f1.l H ∧ L ∉ f1.l ∧ H3 L = some (.lst (ps.map V.str)) ∧ DiskAt T H3 f1 d1) ?_ ?_
    · have stay : d.fullB ps.length = false → (fun (σ : L2.St) (H3 : Hp) => σ = [some (V.ref f.a), some (V.ref c), some (V.ref L), none, none, none, none, none, none] ∧ ∃ f1 : DF, f1.a = f.a ∧ Fr f.l H H3 ∧ Nw f.l f1.l H ∧ L ∉ f1.l ∧ H3 L = some (.lst (ps.map V.str)) ∧ DiskAt T H3 f1 d1) [some (V.ref f.a), some (V.ref c), some (V.ref L), none, none, none, none, none, none] H2 := fun h => by
        refine ⟨rfl, f, rfl, Fr.of s12, Nw.refl _ _, hLf, hL, ?_⟩
        rw [edef, if_neg (by rw [h]; decide)]
        exact ⟨hF2, l, hB2⟩
      walk_at "ss"
      refine k_fT hF2 T.no_Disk_rows (i := 9) (by decide +kernel) rfl ?_
      walk_at "ss"
      refine k_d (fun h1 => ?_) (fun h1 => ?_)
      · walk_at "ss"
        refine k_fT hF2 T.no_Disk_rows (i := 9) (by decide +kernel) rfl ?_
        walk_at "ss"
        rw [List.length_map]
        refine k_fT hF2 T.no_Disk_most (i := 0) (by decide +kernel) rfl ?_
        walk_at "ss"
        refine k_d (fun h2 => ?_) (fun h2 => ?_)
        · walk_at "ss"
          have hfull : d.fullB ps.length = true := by
            unfold DS.fullB
            rw [decide_eq_true (show 0 < d.rows by omega), decide_eq_true (show d.most < ((d.rows + ps.length : Nat) : Int) by omega)]
            rfl
          obtain ⟨dx, fs, hins, hno⟩ := hF2.ins
          refine k_tmeth ?_
          walk_at "ss"
          refine ⟨f.a, dx, fs, rfl, hins, hno _ (by decide +kernel), ?_⟩
          walk_at "ss"
          refine ⟨f, d, G, true, rfl, ⟨hF2, l, hB2⟩, hw.ck, fun f' H' e fr nw hdk => ?_⟩
          refine ⟨rfl, f', e, (Fr.of s12).trans fr (fun x hx => .inl hx), nw.back s12, fun hm => ?_, fr _ _ hL hLf, ?_⟩
          · rcases nw _ hm with q | q
            · exact hLf q
            · rw [hL] at q; cases q
          · rw [edef, if_pos hfull]
            exact hdk
        · walk_at "ss"
          refine stay ?_
          unfold DS.fullB
          rw [decide_eq_false (show ¬ d.most < ((d.rows + ps.length : Nat) : Int) by omega), Bool.and_false]
      · walk_at "ss"
        refine stay ?_
        unfold DS.fullB
        rw [decide_eq_false (show ¬ 0 < d.rows by omega), Bool.false_and]
    · rintro σ H3 ⟨rfl, f1, ef1, fr3, nw3, hLf1, hL3, hF3, l3, hB3⟩
      have hcf1 : c ∉ f1.l := fun hm => by
        rcases nw3 _ hm with q | q
        · exact hcf q
        · rw [hd] at q; cases q
      have hd3 := fr3 _ _ hd hcf
      obtain ⟨n1, n2, n3, n4, n5, n6, n7, n8, n9, n10, n11, n12, n13, n14, n15⟩ := DF.nds hB3.nd
      rw [← ef1]
      walk_at "ss"
      refine k_fT hF3 T.no_Disk_pieces (i := 8) (by decide +kernel) rfl ?_
      walk_at "ss"
      refine k_fT hF3 T.no_Disk_rows (i := 9) (by decide +kernel) rfl ?_
      walk_at "ss"
      refine ⟨L, ps.map V.str, rfl, SqL.of hL3, ?_⟩
      refine k_forIt (walk_enum (a := L) (xs := ps.map V.str)) (fun i σ H' => ∃ (u4 u5 u6 : Option V) (l' : UL), σ = [some (.ref f1.a), some (.ref c), some (.ref L), some (.int ((d1.pieces : Nat) + (d1.rows : Nat))), u4, u5, u6, none, none] ∧ H' L = some (.lst (ps.map V.str)) ∧ Fr f1.l H3 H' ∧ FldAt T H' f1 d1 true ∧ DiskB H' f1 { d1 with uns := d1.uns ++ (rowsW d1.area d1.pieces d1.rows d1.gen ps).take i } l') ⟨none, none, none, l3, rfl, hL3, Fr.refl _ _, hF3, hB3.cong rfl rfl rfl (by simp)⟩ (fun i σ H' _ h => ?_) ?_ ?_
      · obtain ⟨_, _, _, _, _, h, _⟩ := h
        exact SqL.of h
      · rintro i x σ H' H4 hi ⟨u4, u5, u6, l', rfl, hL4, fr4, hF4, hB4⟩ ⟨tt, x1, y, rfl, ntt, rfl, ex1, hy⟩
        cases ex1
        have hy : (ps.map V.str)[i]? = some y := hy
        rw [List.getElem?_map] at hy
        obtain ⟨zz, hzz, rfl⟩ := Option.map_eq_some_iff.mp hy
        have hzz6 := pz _ (List.mem_of_getElem? hzz)
        have hil : i < ps.length := (List.getElem?_eq_some_iff.mp hzz).1
        have s5 := same_new (o := .tup [V.int (i : Nat), V.str zz]) ntt
        have htt : upd H' tt (.tup [V.int (i : Nat), V.str zz]) tt = some (.tup [V.int (i : Nat), V.str zz]) := upd_same
        have hL5 := s5 _ _ hL4
        have hF5 := hF4.up s5
        have hB5 := hB4.up s5
        have fr5 := fr4.same s5
        generalize upd H' tt (.tup [V.int (i : Nat), V.str zz]) = H5 at htt hL5 hF5 hB5 fr5
        have hpl := rowT_len (g := d1.gen) (s := d1.rows + i + 1) (l := ps.length - i - 1) (z := zz) hwg (by omega) (by omega) hzz6
        have hul5 := congrArg List.length hB5.eu
        rw [List.length_map] at hul5
        have hrl : (rowsW d1.area d1.pieces d1.rows d1.gen ps).length = ps.length := zip_len _ _
        have htk : ((rowsW d1.area d1.pieces d1.rows d1.gen ps).take i).length ≤ ps.length := by rw [List.length_take, hrl]; omega
        have hok3 := hwok.u
        simp only [List.length_append, hrl] at hok3
        have htk1 : (rowsW d1.area d1.pieces d1.rows d1.gen ps).take (i + 1) = (rowsW d1.area d1.pieces d1.rows d1.gen ps).take i ++ [(d1.area, d1.pieces + d1.rows + i + 1, rowT d1.gen (d1.rows + i + 1) (ps.length - i - 1) zz)] := by
          rw [List.take_add_one]
          congr 1
          unfold rowsW
          rw [List.getElem?_map, List.getElem?_zipIdx, hzz]
          simp
        simp only [List.length_append] at hul5
        walk_at "ss"
        unfold rowT at hpl
        simp only [PySem.Str.length_append, len_empty] at hpl
        refine k_jsV (by simp only [PySem.Str.length_append, len_empty]; omega) ?_
        walk_at "ss"
        refine k_fT hF5 T.no_Disk_generation (i := 7) (by decide +kernel) rfl ?_
        refine k_fmtI (by omega) ?_
        refine k_jsV (z := numT d1.gen) (by simp only [PySem.Str.length_append, len_empty]; omega) ?_
        walk_at "ss"
        refine k_jsV (by simp only [PySem.Str.length_append, len_empty]; omega) ?_
        walk_at "ss"
        refine k_fT hF5 T.no_Disk_rows (i := 9) (by decide +kernel) rfl ?_
        walk_at "ss"
        refine k_fmtI (i := ((d1.rows + i + 1 : Nat) : Int)) (by omega) ?_
        refine k_jsV (z := numT (d1.rows + i + 1)) (by simp only [PySem.Str.length_append, len_empty]; omega) ?_
        walk_at "ss"
        refine k_jsV (by simp only [PySem.Str.length_append, len_empty]; omega) ?_
        walk_at "ss"
        rw [List.length_map, show ((ps.length : Nat) : Int) - (i : Nat) - 1 = ((ps.length - i - 1 : Nat) : Int) by omega]
        refine k_fmtI (by omega) ?_
        refine k_jsV (z := numT (ps.length - i - 1)) (by simp only [PySem.Str.length_append, len_empty]; omega) ?_
        walk_at "ss"
        refine k_jsV (by simp only [PySem.Str.length_append, len_empty]; omega) ?_
        walk_at "ss"
        refine k_fmtS (by omega) ?_
        refine k_jsV (by simp only [PySem.Str.length_append, len_empty]; omega) ?_
        walk_at "ss"
        refine k_bm ?_
        walk_at "ss"
        refine k_fD hF5 T.no_Disk_unsynced (i := 3) (by decide +kernel) (by decide +kernel) rfl rfl ?_
        refine ⟨.inl ⟨rfl, _, SqL.of hB5.hu.at_⟩, ?_⟩
        walk_at "ss"
        refine k_fT hF5 T.no_Disk_area (i := 6) (by decide +kernel) rfl ?_
        walk_at "ss"
        intro p np
        walk_at "ss"
        refine k_app (same_new np _ _ hB5.hu.at_) (by rw [List.length_map]; omega) ?_
        exact ⟨_, _, _, _, rfl, (Fr.refl [f1.u] _).app np (by simp) _ _ hL5 (by simpa using fun q => hLf1 (by rw [q]; simp [DF.l])), fr5.app np (by simp [DF.l]), hF5.app np n5, hB5.app (x := (d1.area, d1.pieces + d1.rows + i + 1, rowT d1.gen (d1.rows + i + 1) (ps.length - i - 1) zz)) np rfl rfl rfl (by show d1.uns ++ _ = (d1.uns ++ _) ++ _; rw [htk1, List.append_assoc])⟩
      · rintro σ H4 ⟨u4, u5, u6, l4, rfl, hL4, fr4, hF4, hB4⟩
        have hrl : (rowsW d1.area d1.pieces d1.rows d1.gen ps).length = ps.length := zip_len _ _
        have hall : (rowsW d1.area d1.pieces d1.rows d1.gen ps).take (ps.map V.str).length = rowsW d1.area d1.pieces d1.rows d1.gen ps := by
          rw [List.length_map]
          exact List.take_of_length_le (Nat.le_of_eq hrl)
        rw [hall] at hB4
        have hd4 := fr4 _ _ hd3 hcf1
        have fr04 := fr3.trans fr4 nw3
        obtain ⟨dx, ha⟩ := hF4
        have ha : H4 f1.a = some (.ins T.C_Disk dx (FL nD (vD f1 d1))) := ha
        refine k_seq ?_
        refine ⟨_, rfl, f1.a, T.C_Disk, dx, _, .int (d1.rows : Nat), rfl, ha, T.cl_Disk, T.no_Disk_rows, fl_get (i := 9) (by decide +kernel) rfl, ?_⟩
        walk_at "ss"
        rw [List.length_map]
        refine ⟨dx, _, ha, Nat.lt_of_le_of_lt fl_len (by decide), ?_⟩
        rw [put_old (ns := nD) (i := 9) (by decide +kernel) (by show 9 < 10; decide)]
        obtain ⟨d2, ed2⟩ : ∃ d2 : DS, d2 = { d1 with uns := d1.uns ++ rowsW d1.area d1.pieces d1.rows d1.gen ps, rows := d1.rows + ps.length } := ⟨_, rfl⟩
        have hB5 := hB4.atA (T := T) (o := .ins T.C_Disk dx (FL nD ((vD f1 d1).set 9 (.int ((d1.rows : Nat) + (ps.length : Nat)))))) ha
        have fr5 := fr4.put (x := f1.a) (o := .ins T.C_Disk dx (FL nD ((vD f1 d1).set 9 (.int ((d1.rows : Nat) + (ps.length : Nat)))))) (.inl (by simp [DF.l]))
        have ha5 : upd H4 f1.a (.ins T.C_Disk dx (FL nD ((vD f1 d1).set 9 (.int ((d1.rows : Nat) + (ps.length : Nat)))))) f1.a = some (.ins T.C_Disk dx (FL nD (vD f1 d2))) := by rw [upd_same, ed2]; rfl
        have hd5 : upd H4 f1.a (.ins T.C_Disk dx (FL nD ((vD f1 d1).set 9 (.int ((d1.rows : Nat) + (ps.length : Nat)))))) c = some (.dK (kC cs)) := by rw [upd_ne (fun q => hcf1 (by rw [q]; simp [DF.l]))]; exact hd4
        have hB5 := hB5.cong (s' := d2) (by rw [ed2]) (by rw [ed2]) (by rw [ed2]) (by rw [ed2])
        generalize upd H4 f1.a (.ins T.C_Disk dx (FL nD ((vD f1 d1).set 9 (.int ((d1.rows : Nat) + (ps.length : Nat)))))) = H5 at hB5 fr5 ha5 hd5 ⊢
        have fr05 := fr3.trans fr5 nw3
        have hF5 : FldAt T H5 f1 d2 true := ⟨dx, ha5⟩
        refine k_lock hd5 True.intro fun od => ?_
        have hB6 := hB5.off (o := .frz od (.dK (kC cs))) hcf1 (fun xs => by rw [hd5]; intro q; cases q)
        have hF6 := hF5.off (o := .frz od (.dK (kC cs))) hcf1
        have hc6 : upd H5 c (.frz od (.dK (kC cs))) c = some (.frz od (.dK (kC cs))) := upd_same
        obtain ⟨H6, eH6⟩ : ∃ H6, H6 = upd H5 c (.frz od (.dK (kC cs))) := ⟨_, rfl⟩
        rw [← eH6] at hB6 hF6 hc6 ⊢
        refine k_for ?_
        refine k_items ?_
        walk_at "ss"
        refine ⟨c, od, kC cs, rfl, hc6, ?_⟩
        refine k_forIt (walk_items (d := c) (o := od) (kvs := kC cs)) (fun i σ H' => ∃ (u4 u5 u6 u7 u8 : Option V) (l' : UL) (d3 : DS), σ = [some (.ref f1.a), some (.ref c), some (.ref L), some (.int ((d1.pieces : Nat) + (d1.rows : Nat))), u4, u5, u6, u7, u8] ∧ H' c = some (.frz od (.dK (kC cs))) ∧ Fr f1.l H6 H' ∧ d3 = { d2 with tab := applyC (cs.take i) d1.tab } ∧ FldAt T H' f1 d3 true ∧ DiskB H' f1 d3 l') ⟨_, _, _, _, _, _, d2, rfl, hc6, Fr.refl _ _, by rw [ed2]; rfl, hF6, hB6⟩ (fun i σ H' _ h => ?_) ?_ ?_
        · obtain ⟨_, _, _, _, _, _, _, _, h, _⟩ := h
          exact h
        · rintro i x σ H' H7 hi ⟨u4, u5, u6, u7, u8, l', d3, rfl, hc7, fr7, ed3, hF7, hB7⟩ ⟨tt, x1, y, rfl, ntt, rfl, ex1, hy⟩
          have ex1 : ((kC cs)[i]?.map fun kv => kV kv.1) = some x1 := ex1
          have hy : (kC cs)[i]?.map Prod.snd = some y := hy
          unfold kC at ex1 hy hi
          rw [List.length_map] at hi
          rw [List.getElem?_map] at ex1 hy
          obtain ⟨z, hz⟩ : ∃ z, cs[i]? = some z := ⟨cs[i], List.getElem?_eq_getElem hi⟩
          rw [hz] at ex1 hy
          cases ex1
          cases hy
          have hzm := List.mem_of_getElem? hz
          have s8 := same_new (o := .tup [V.str z.1, vO z.2]) ntt
          have htt : upd H' tt (.tup [V.str z.1, vO z.2]) tt = some (.tup [V.str z.1, vO z.2]) := upd_same
          have hc8 := s8 _ _ hc7
          have hF8 := hF7.up s8
          have hB8 := hB7.up s8
          have fr8 := fr7.same s8
          show gTup _ _ _ _ _ (upd H' tt (.tup [V.str z.1, vO z.2])) _
          generalize upd H' tt (.tup [V.str z.1, vO z.2]) = H8 at htt hc8 hF8 hB8 fr8 ⊢
          have htk : cs.take (i + 1) = cs.take i ++ [z] := by rw [List.take_add_one, hz]; rfl
          have et3 : d3.tab = applyC (cs.take i) d1.tab := by rw [ed3]
          have hct : c ≠ f1.t := fun q => hcf1 (by rw [q]; simp [DF.l])
          have fin : ∀ (t2 : Tab) (H9 : Hp), t2 = applyC (cs.take (i + 1)) d1.tab → H9 = upd H8 f1.t (.dK (kT t2)) → ∀ u7 u8 : Option V, ∃ (u4' u5' u6' u7' u8' : Option V) (l' : UL) (d3 : DS), [some (V.ref f1.a), some (V.ref c), some (V.ref L), some (V.int ((d1.pieces : Nat) + (d1.rows : Nat))), u4, u5, u6, u7, u8] = [some (V.ref f1.a), some (V.ref c), some (V.ref L), some (V.int ((d1.pieces : Nat) + (d1.rows : Nat))), u4', u5', u6', u7', u8'] ∧ H9 c = some (.frz od (.dK (kC cs))) ∧ Fr f1.l H6 H9 ∧ d3 = { d2 with tab := applyC (cs.take (i + 1)) d1.tab } ∧ FldAt T H9 f1 d3 true ∧ DiskB H9 f1 d3 l' := fun t2 H9 e2 e9 u7 u8 => by
            subst e9
            refine ⟨_, _, _, _, _, l', { d2 with tab := t2 }, rfl, by rw [upd_ne hct]; exact hc8, fr8.put (.inl (by simp [DF.l])), by rw [e2], ?_, hB8.setT (s' := { d2 with tab := t2 }) (by rw [ed3]) (by rw [ed3]) (by rw [ed3])⟩
            have h := hF8.fr (F := [f1.t]) ((Fr.refl _ _).put (x := f1.t) (o := .dK (kT t2)) (.inl (by simp))) (by simpa using n1)
            rw [ed3] at h
            exact h.congr rfl rfl
          walk_at "ss"
          refine ⟨rfl, ?_⟩
          refine ⟨_, rfl, ?_⟩
          cases ez : z.2 with
          | none =>
            refine k_dt rfl ?_
            walk_at "ss"
            refine k_dpop2 ?_
            walk_at "ss"
            refine k_fD hF8 T.no_Disk_table (i := 1) (by decide +kernel) (by decide +kernel) rfl rfl ?_
            refine ⟨f1.t, rfl, ?_, ?_⟩
            · exact .inl ⟨_, .inl hB8.ht⟩
            walk_at "ss"
            refine ⟨kT d3.tab, .inr z.1, hB8.ht, rfl, fun v hv => ?_, fun hv => ?_⟩
            · rw [kT_drop, et3]
              refine fin _ _ ?_ rfl _ _
              rw [htk, applyC_snoc, ez]
            · refine fin (applyC (cs.take i) d1.tab) _ ?_ ?_ _ _
              · rw [htk, applyC_snoc, ez]
                rw [kT_val, Option.map_eq_none_iff, et3] at hv
                exact (dropG_none hv).symm
              · rw [← et3]
                funext x
                unfold upd
                by_cases e : x = f1.t
                · rw [if_pos e, e]; exact hB8.ht
                · rw [if_neg e]
          | some v =>
            refine k_df (fun e => by cases e) ?_
            walk_at "ss"
            refine k_fD hF8 T.no_Disk_table (i := 1) (by decide +kernel) (by decide +kernel) rfl rfl ?_
            walk_at "ss"
            have htl : (kT d3.tab).length < sizeLine := small_lt (by
              unfold kT
              rw [List.length_map, et3]
              have h1 := applyC_len (cs.take i) d1.tab
              have h2 := hcs.len
              rw [List.length_take] at h1
              omega)
            refine k_setD (DPut.k (k := .inr z.1) hB8.ht htl) ?_
            refine fin (applyC (cs.take (i + 1)) d1.tab) _ rfl ?_ _ _
            rw [htk, applyC_snoc, ez, ← et3]
            show upd H8 f1.t (.dK (putK (kT d3.tab) (.inr z.1) (.str v))) = _
            rw [kT_set]
        · rintro σ H7 ⟨u4, u5, u6, u7, u8, l', d3, rfl, hc7, fr7, ed3, hF7, hB7⟩
          rw [show (kC cs).length = cs.length from List.length_map .., List.take_length] at ed3
          refine ⟨hc7, ?_⟩
          subst eH6
          have e3 : d3 = { d1 with uns := d1.uns ++ rowsW d1.area d1.pieces d1.rows d1.gen ps, rows := d1.rows + ps.length, tab := applyC cs d1.tab } := by rw [ed3, ed2]
          rw [← e3] at k
          exact k f1 _ ef1 (fr05.trans (fr7.unlock hd5) nw3) nw3 ⟨hF7.off hcf1, l', hB7.off hcf1 (fun xs => by rw [hc7]; intro q; cases q)⟩
end

section
variable {w : World} {K : PySem.W.Frag} {mg : Str → Option Value} {base : Heap}
/-! ### values as data: their shape, and what lies within -/
inductive Gv (H : Hp) : V → Prop where
  | int (i : Int) : Gv H (.int i)
  | str (z : Str) (h : z.length ≤ 100) : Gv H (.str z)
  | bl (b : Bool) : Gv H (.bl b)
  | non : Gv H .non
  | lst {a : Addr} {xs : List V} (h : H a = some (.lst xs)) : Gv H (.ref a)
  | tup {a : Addr} {xs : List V} (h : H a = some (.tup xs)) : Gv H (.ref a)
  | dic {a : Addr} {kvs : List (Key × V)} (h : H a = some (.dK kvs)) : Gv H (.ref a)
theorem Gv.up {H H' : Hp} {v : V} (h : Gv H v) (e : Same H H') : Gv H' v := by
  cases h with
  | int i => exact .int i
  | str z h => exact .str z h
  | bl b => exact .bl b
  | non => exact .non
  | lst h => exact .lst (e _ _ h)
  | tup h => exact .tup (e _ _ h)
  | dic h => exact .dic (e _ _ h)
inductive ScB : V → Prop where
  | int (i : Int) : ScB (.int i)
  | str (z : Str) (h : z.length ≤ 100) : ScB (.str z)
  | bl (b : Bool) : ScB (.bl b)
  | non : ScB .non
/-- a dict that is equal to itself: no two keys -/
def OkD (ks : List (Key × V)) : Prop := ks = [] ∨ ∃ k v, ks = [(k, v)] ∧ (flatB v = true ∨ ∃ b, v = .ref b)
/-- data of depth d; none of its objects is one of F -/
def Gd (F : Addr → Prop) (H : Hp) : Nat → V → Prop
  | 0, v => ScB v
  | d + 1, v => ScB v ∨ (∃ (a : Addr) (xs : List V), v = .ref a ∧ ¬ F a ∧ (H a = some (.lst xs) ∨ H a = some (.tup xs)) ∧ xs.length ≤ 50 ∧ ∀ x ∈ xs, Gd F H d x) ∨ ∃ (a : Addr) (ks : List (Key × V)), v = .ref a ∧ ¬ F a ∧ H a = some (.dK ks) ∧ OkD ks
/-- all but the objects of F stay -/
def Keep (F : Addr → Prop) (H H' : Hp) : Prop := ∀ a o, ¬ F a → H a = some o → (∀ ps, o ≠ .tbl ps) → H' a = some o
theorem Keep.of {F : Addr → Prop} {H H' : Hp} (e : Same H H') : Keep F H H' := fun a o _ h _ => e a o h
theorem Keep.trans {F : Addr → Prop} {H H1 H2 : Hp} (a : Keep F H H1) (b : Keep F H1 H2) : Keep F H H2 := fun c o n h q => b c o n (a c o n h q) q
theorem Gd.keep {F : Addr → Prop} {H H' : Hp} (e : Keep F H H') : ∀ {d : Nat} {v : V}, Gd F H d v → Gd F H' d v
  | 0, _, h => h
  | d + 1, _, .inl h => .inl h
  | d + 1, _, .inr (.inl ⟨a, xs, e1, n, h, hl, k⟩) => .inr (.inl ⟨a, xs, e1, n, h.imp (fun h => e _ _ n h (fun ps z => by cases z)) (fun h => e _ _ n h (fun ps z => by cases z)), hl, fun x hx => (k x hx).keep e⟩)
  | d + 1, _, .inr (.inr ⟨a, ks, e1, n, h, k⟩) => .inr (.inr ⟨a, ks, e1, n, e _ _ n h (fun ps z => by cases z), k⟩)
theorem Gd.up {F : Addr → Prop} {H H' : Hp} {d : Nat} {v : V} (h : Gd F H d v) (e : Same H H') : Gd F H' d v := h.keep (.of e)
theorem Gd.sc {F : Addr → Prop} {H : Hp} {v : V} (h : ScB v) : ∀ d, Gd F H d v
  | 0 => h
  | _ + 1 => .inl h
theorem Gd.weak {F F' : Addr → Prop} {H : Hp} (hF : ∀ a, F' a → F a) : ∀ {d : Nat} {v : V}, Gd F H d v → Gd F' H d v
  | 0, _, h => h
  | d + 1, _, .inl h => .inl h
  | d + 1, _, .inr (.inl ⟨a, xs, e1, n, h, hl, k⟩) => .inr (.inl ⟨a, xs, e1, fun z => n (hF a z), h, hl, fun x hx => (k x hx).weak hF⟩)
  | d + 1, _, .inr (.inr ⟨a, ks, e1, n, h, k⟩) => .inr (.inr ⟨a, ks, e1, fun z => n (hF a z), h, k⟩)
theorem ScB.gv {H : Hp} {v : V} (h : ScB v) : Gv H v := by
  cases h with
  | int i => exact .int i
  | str z h => exact .str z h
  | bl b => exact .bl b
  | non => exact .non
theorem Gd.gv {F : Addr → Prop} {H : Hp} {d : Nat} {v : V} (h : Gd F H d v) : Gv H v := by
  cases d with
  | zero => exact ScB.gv h
  | succ d =>
    rcases h with h | ⟨a, xs, rfl, _, h | h, _⟩ | ⟨a, ks, rfl, _, h, _⟩
    · exact ScB.gv h
    · exact .lst h
    · exact .tup h
    · exact .dic h
def isInt : V → Bool
  | .int _ => true
  | .bl _ => true
  | _ => false
def isBl : V → Bool
  | .bl _ => true
  | _ => false
def isStr : V → Bool
  | .str _ => true
  | _ => false
theorem k_gInt {H : Hp} {v : V} {Q : VK} (h : Gv H v) (k : Q (.bl (isInt v)) H) : rIsi K [v, .ty "int"] H Q := by
  cases h with
  | int i => exact k_isi (TyX.base (.int _)) kb_int_int k
  | str z h => exact k_isi (TyX.base (.str _)) kb_str_int k
  | bl b => exact k_isi (TyX.base (.bl _)) kb_bool_int k
  | non => exact k_isi (TyX.base .non) kb_NoneType_int k
  | lst h => exact k_isi (TyX.base (.lst h)) kb_list_int k
  | tup h => exact k_isi (TyX.base (.tup h)) kb_tuple_int k
  | dic h => exact k_isi (TyX.base (.dK h)) kb_dict_int k
theorem k_gBl {H : Hp} {v : V} {Q : VK} (h : Gv H v) (k : Q (.bl (isBl v)) H) : rIsi K [v, .ty "bool"] H Q := by
  cases h with
  | int i => exact k_isi (TyX.base (.int _)) kb_int_bool k
  | str z h => exact k_isi (TyX.base (.str _)) kb_str_bool k
  | bl b => exact k_isi (TyX.base (.bl _)) kb_bool_bool k
  | non => exact k_isi (TyX.base .non) kb_NoneType_bool k
  | lst h => exact k_isi (TyX.base (.lst h)) kb_list_bool k
  | tup h => exact k_isi (TyX.base (.tup h)) kb_tuple_bool k
  | dic h => exact k_isi (TyX.base (.dK h)) kb_dict_bool k
theorem k_gStr {H : Hp} {v : V} {Q : VK} (h : Gv H v) (k : Q (.bl (isStr v)) H) : rIsi K [v, .ty "str"] H Q := by
  cases h with
  | int i => exact k_isi (TyX.base (.int _)) kb_int_str k
  | str z h => exact k_isi (TyX.base (.str _)) kb_str_str k
  | bl b => exact k_isi (TyX.base (.bl _)) kb_bool_str k
  | non => exact k_isi (TyX.base .non) kb_NoneType_str k
  | lst h => exact k_isi (TyX.base (.lst h)) kb_list_str k
  | tup h => exact k_isi (TyX.base (.tup h)) kb_tuple_str k
  | dic h => exact k_isi (TyX.base (.dK h)) kb_dict_str k
def numV (v : V) (lo hi : Int) : Bool := match v with
  | .int i => decide (lo ≤ i) && decide (i ≤ hi)
  | _ => false
def spNumG : Sp := fun vs H Q _ => ∃ (v : V) (lo hi : Int), vs = [v, .int lo, .int hi] ∧ Gv H v ∧ Q (.bl (numV v lo hi)) H
theorem ok_is_number (T : Tx K mg) : FnOk P w K mg base CX0 1 T.a_is_number T.fd_is_number P_is_number spNumG := by
  refine T.F_is_number.ok sc_is_number (fun vs H Q E h => ?_) (fun cdv A outer s H vs Q E hr h => ?_)
  · obtain ⟨v, lo, hi, rfl, _⟩ := h
    rfl
  · obtain ⟨v, lo, hi, rfl, hv, k⟩ := h
    have nd := sc_is_number.nd
    refine ⟨_, (pss_one (ps_ret (pe_and (kcB b_isinstance (by decide) (by decide) (kc_isi K) g_is_number_isinstance T.n_isinstance (pa_cons (kv (i := 0) v_is_number_value) (pa_cons (kty_int g_is_number_int T.n_int) pa_nil))) (pe_and (pe_not (kcB b_isinstance (by decide) (by decide) (kc_isi K) g_is_number_isinstance T.n_isinstance (pa_cons (kv (i := 0) v_is_number_value) (pa_cons (kty_bool g_is_number_bool T.n_bool) pa_nil)))) (pe_one (pe_chain op_le op_le (kv (i := 1) v_is_number_least) (kv (i := 0) v_is_number_value) (kv (i := 2) v_is_number_most))))))), ?_⟩
    walk_at "ss"
    refine k_gInt hv ?_
    refine ⟨_, rfl, ?_⟩
    cases hv with
    | int i =>
      refine k_t ?_
      walk_at "ss"
      refine k_d (fun h1 => ?_) (fun h1 => ?_)
      · walk_at "ss"
        have e : numV (.int i) lo hi = decide (i ≤ hi) := by
          show (decide (lo ≤ i) && decide (i ≤ hi)) = _
          rw [decide_eq_true h1, Bool.true_and]
        rw [← e]
        exact k
      · walk_at "ss"
        have e : numV (.int i) lo hi = false := by
          show (decide (lo ≤ i) && decide (i ≤ hi)) = _
          rw [decide_eq_false h1, Bool.false_and]
        rw [e] at k
        exact k
    | bl b =>
      refine k_t ?_
      walk_at "ss"
      exact k
    | _ => exact k_f k
/-- a promise that asks more -/
theorem fn_weak {P : Program} {CX : CXT} {k : Nat} {f : Addr} {fd : FuncData} {ps : List Str} {sp sp' : Sp} (F : FnOk P w K mg base CX k f fd ps sp) (h : ∀ vs H Q E, sp' vs H Q E → sp vs H Q E) : FnOk P w K mg base CX k f fd ps sp' :=
  ⟨fun vs H Q E q => F.len _ _ _ _ (h _ _ _ _ q), fun A outer s H args us vs Q E hr e0 hb r q => F.run A outer s H args us vs Q E hr e0 hb r (h _ _ _ _ q)⟩
def spNum : Sp := fun vs H Q _ => ∃ v lo hi : Int, vs = [.int v, .int lo, .int hi] ∧ lo ≤ v ∧ v ≤ hi ∧ Q (.bl true) H
theorem numV_t {v lo hi : Int} (h0 : lo ≤ v) (h1 : v ≤ hi) : numV (.int v) lo hi = true := by
  show (decide (lo ≤ v) && decide (v ≤ hi)) = true
  rw [decide_eq_true h0, decide_eq_true h1]; rfl
theorem numV_i {v : V} {lo hi : Int} (h : numV v lo hi = true) : ∃ i, v = .int i ∧ lo ≤ i ∧ i ≤ hi := by
  cases v with
  | int i =>
    have h : (decide (lo ≤ i) && decide (i ≤ hi)) = true := h
    rw [Bool.and_eq_true, decide_eq_true_eq, decide_eq_true_eq] at h
    exact ⟨i, rfl, h.1, h.2⟩
  | _ => cases h
theorem ok_is_number0 (T : Tx K mg) : FnOk P w K mg base CX0 1 T.a_is_number T.fd_is_number P_is_number spNum := fn_weak (ok_is_number T) fun vs H Q E ⟨v, lo, hi, e, h0, h1, q⟩ => ⟨.int v, lo, hi, e, .int v, by rw [numV_t h0 h1]; exact q⟩
end

section
variable {w : World} {K : PySem.W.Frag} {mg : Str → Option Value} {base : Heap}
/-! ### the errors -/
theorem new_facts {G G' : Hp} {b t : Addr} {o β : HO} (hb : G b = none) (n : upd G b β t = none) (e : upd G t o = G') : G' b = none ∧ Same G G' ∧ G' t = some o ∧ t ≠ b ∧ G t = none := by
  obtain ⟨h1, h2⟩ := up_none n
  subst e
  exact ⟨by rw [upd_ne (Ne.symm h2)]; exact hb, same_new h1, upd_same, h2, h1⟩
theorem g_none {G0 G : Hp} {t : Addr} (sm : Same G0 G) (n : G t = none) : G0 t = none := by
  cases hz : G0 t with
  | none => rfl
  | some o => exact absurd (sm _ _ hz) (by rw [n]; intro z; cases z)
theorem k_mkO {C : Addr} {sp : Sp} {dvs : List V} {ta : TA} {σ : L2.St} {H : Hp} {Q : XK} (h : ta σ H fun vs H1 => vs.length ≤ 1000 ∧ ∀ a, H1 a = none → sp (.ref a :: (vs ++ dvs)) (upd H1 a (exo a C none))
  (fun v H2 => v = .non ∧ ∃ (d : Addr) (fs : List (Str × V)), H2 a = some (exo a C (some d)) ∧ H2 d = some (exd d fs) ∧ H1 d = none ∧ Q (.ref C) (some d) (upd (del H2 a) d (.xd fs))) (fun _ _ _ => False)) : tMkO C sp dvs ta σ H Q := h
def spInvalidNumberI (T : Tx K mg) : Sp := fun vs H Q _ => ∃ (a : Addr) (x : V), vs = [.ref a, x] ∧ H a = some (exo a T.C_InvalidNumber none) ∧ ∀ (H' : Hp) (d : Addr), H d = none → d ≠ a → SameBut a H H' → H' a = some (exo a T.C_InvalidNumber (some d)) → H' d = some (exd d [("code", .str "InvalidNumber"), ("value", x)]) → Q .non H'
theorem ok_InvalidNumber_init (T : Tx K mg) : FnOk P w K mg base CX0 1 T.a_InvalidNumber_init T.fd_InvalidNumber_init P_InvalidNumber_init (spInvalidNumberI T) := by
  obtain ⟨cl, cld, csl, hce⟩ := T.ce_InvalidNumber_init
  refine T.F_InvalidNumber_init.ok sc_InvalidNumber_init hce T.b_InvalidNumber_init (fun vs H Q E h => ?_) (fun A outer s H vs Q E hr h => ?_)
  · obtain ⟨a, x, rfl, _⟩ := h
    rfl
  · obtain ⟨a, x, rfl, ha, k⟩ := h
    have nd := sc_InvalidNumber_init.nd
    refine ⟨_, (psa_cons (pst_supE T.sd_InvalidNumber_init rfl rfl g_InvalidNumber_init_super fr_InvalidNumber_init cc_look rfl (locB_ok l_InvalidNumber_init_self) (pa_cons pe_str pa_nil))
      (psa_cons (pst_of (ps_ost (kv (i := 0) v_InvalidNumber_init_self) (kv (i := 1) v_InvalidNumber_init_value)))
      (psa_one (pst_of (ps_ost (kv (i := 0) v_InvalidNumber_init_self) pe_str))))), ?_⟩
    refine k_supE (a := a) (C := T.C_InvalidNumber) rfl ha T.se_InvalidNumber fun q nq => ?_
    have naq : a ≠ q := ne_of_none ha nq
    walk_at "ss"
    refine ⟨by decide, upd_same, (upd_ne naq).trans ha, ?_⟩
    walk_at "ss"
    refine k_ost ?_
    walk_at "ss"
    refine ⟨a, _, rfl, T.oex_InvalidNumber, T.no_InvalidNumber_value, .inl ⟨(upd_ne naq).trans ha, fun d nd1 nda => ?_⟩⟩
    have ndH : H d = none := (up_none nd1).1
    walk_at "ss"
    dsimp only
    refine k_ost ?_
    walk_at "ss"
    refine ⟨a, _, rfl, T.oex_InvalidNumber, T.no_InvalidNumber_code, .inr ⟨d, _, upd_same, (upd_ne nda).trans upd_same, by simp, ?_⟩⟩
    refine k _ d ndH nda ?_ ((upd_ne (Ne.symm nda)).trans upd_same) upd_same
    intro b o nb hb
    have nbd : b ≠ d := ne_of_none hb ndH
    have nbq : b ≠ q := ne_of_none hb nq
    rw [upd_ne nbd, upd_ne nb, upd_ne nbd, upd_ne nbq]
    exact hb
theorem raise_InvalidNumber (T : Tx K mg) {H : Hp} {v : V} {Q : XK} (h : ∀ (H' : Hp) (d : Addr), Same H H' → H' d = some (.xd [("code", .str "InvalidNumber"), ("value", v)]) → Q (.ref T.C_InvalidNumber) (some d) H') : [v].length ≤ 1000 ∧ ∀ a, H a = none → spInvalidNumberI T (.ref a :: ([v] ++ [])) (upd H a (exo a T.C_InvalidNumber none))
    (fun v2 H2 => v2 = .non ∧ ∃ (d : Addr) (fs : List (Str × V)), H2 a = some (exo a T.C_InvalidNumber (some d)) ∧ H2 d = some (exd d fs) ∧ H d = none ∧ Q (.ref T.C_InvalidNumber) (some d) (upd (del H2 a) d (.xd fs))) (fun _ _ _ => False) := by
  refine ⟨by simp, fun x nx => ⟨x, v, rfl, upd_same, fun H' d nd1 ndx sb hx hd => ⟨rfl, d, _, hx, hd, (up_none nd1).1, ?_⟩⟩⟩
  refine h _ d ?_ upd_same
  intro z o hz
  have nzx : z ≠ x := ne_of_none hz nx
  have nzd : z ≠ d := ne_of_none hz (up_none nd1).1
  rw [upd_ne nzd, del_ne nzx]
  exact sb _ _ nzx ((upd_ne nzx).trans hz)
/-- an error with its values -/
inductive Ev where | num (v : V)
def Ev.C (T : Tx K mg) : Ev → Addr
  | .num _ => T.C_InvalidNumber
def Ev.fs : Ev → List (Str × V)
  | .num v => [("code", .str "InvalidNumber"), ("value", v)]
/-- the row in which the law keeps it -/
def Ev.row : Ev → List V
  | .num v => [.str "InvalidNumber", v]
/-- the error e leaves, all else as it was -/
def Goes (T : Tx K mg) (H : Hp) (E : XK) (e : Ev) : Prop := ∀ (H' : Hp) (d : Addr), Same H H' → H' d = some (.xd e.fs) → E (.ref (e.C T)) (some d) H'
theorem Goes.up {T : Tx K mg} {H H' : Hp} {E : XK} {e : Ev} (h : Goes T H E e) (q : Same H H') : Goes T H' E e := fun H2 d s hd => h H2 d (q.trans s) hd
end

section
open TL
variable {w : World} {K : PySem.W.Frag} {mg : Str → Option Value} {base : Heap}
/-! ### a new disk -/
/-- dict comprehensions by what is walked -/
theorem k_dc {wi : TI} {g : TG} {tt : TT} {tk tv : TE} {vs : List Nat} {σ : L2.St} {H : Hp} {Q : VK} (h : wi σ H fun J H1 => ∀ D, H1 D = none → ∃ W : Nat → Nat → Hp → Prop, (∃ m, W 0 m (upd H1 D (.dK []))) ∧ ∀ i m H, W i m H → (J.stop i H ∧ Q (.ref D) H) ∨ (J.go i H ∧ ∃ Nx : Hp → Prop, (∀ H', Nx H' → ∃ m', m' < m ∧ W (i + 1) m' H') ∧
  ∀ x H', J.yld i H x H' → g x (wipe σ vs) H' fun σ2 H2 => wipe σ2 vs = wipe σ vs ∧ tt σ2 H2 fun b H3 => if b = true then tk σ2 H3 fun y H4 => tv σ2 H4 fun z H5 => ∃ kvs k, y = kV k ∧ H5 D = some (.dK kvs) ∧ kvs.length < sizeLine ∧ Nx (upd H5 D (.dK (putK kvs k z))) else Nx H3)) : tDc wi g tt tk tv vs σ H Q := h
theorem dc_walk {J : It} {n : Nat} {G : Hp → Prop} {Y : Nat → Hp → V → Hp → Prop} (wk : Walk J n G Y) {g : TG} {tt : TT} {tk tv : TE} {vs : List Nat} {σ : L2.St} {H1 : Hp} {D : Addr} {Qd : Hp → Prop} (Pv : Nat → Hp → Prop) (h0 : Pv 0 (upd H1 D (.dK []))) (hG : ∀ i H, i ≤ n → Pv i H → G H)
    (hs : ∀ i x H H', i < n → Pv i H → Y i H x H' → g x (wipe σ vs) H' fun σ2 H2 => wipe σ2 vs = wipe σ vs ∧ tt σ2 H2 fun b H3 => if b = true then tk σ2 H3 fun y H4 => tv σ2 H4 fun z H5 => ∃ kvs k, y = kV k ∧ H5 D = some (.dK kvs) ∧ kvs.length < sizeLine ∧ Pv (i + 1) (upd H5 D (.dK (putK kvs k z))) else Pv (i + 1) H3) (hd : ∀ H, Pv n H → Qd H) :
    ∃ W : Nat → Nat → Hp → Prop, (∃ m, W 0 m (upd H1 D (.dK []))) ∧ ∀ i m H, W i m H → (J.stop i H ∧ Qd H) ∨ (J.go i H ∧ ∃ Nx : Hp → Prop, (∀ H', Nx H' → ∃ m', m' < m ∧ W (i + 1) m' H') ∧
  ∀ x H', J.yld i H x H' → g x (wipe σ vs) H' fun σ2 H2 => wipe σ2 vs = wipe σ vs ∧ tt σ2 H2 fun b H3 => if b = true then tk σ2 H3 fun y H4 => tv σ2 H4 fun z H5 => ∃ kvs k, y = kV k ∧ H5 D = some (.dK kvs) ∧ kvs.length < sizeLine ∧ Nx (upd H5 D (.dK (putK kvs k z))) else Nx H3) := by
  refine ⟨fun i m H => m = n - i ∧ i ≤ n ∧ Pv i H, ⟨n, rfl, Nat.zero_le _, h0⟩, ?_⟩
  rintro i m H ⟨rfl, hi, p⟩
  by_cases hlt : i < n
  · exact .inr ⟨wk.goes i H hlt (hG i H hi p), Pv (i + 1), fun H' p' => ⟨n - (i + 1), by omega, rfl, hlt, p'⟩, fun x H' y => hs i x H H' hlt p (wk.yields i H x H' hlt (hG i H hi p) y)⟩
  · have e : i = n := by omega
    subst e
    exact .inl ⟨wk.stops H (hG i H hi p), hd H p⟩
theorem k_keys {td : TE} {σ : L2.St} {H : Hp} {R : It → Hp → Prop} (h : td σ H fun x H1 => ∃ d o, x = .ref d ∧ ((∃ kvs, H1 d = some (.frz o (.dK kvs)) ∧ R (Itk d o kvs) H1) ∨ (∃ kvs, H1 d = some (.frz o (.dT kvs)) ∧ R (Itkt d o kvs) H1))) : iKeys td σ H R := h
theorem setG_new {κ α : Type} [DecidableEq κ] {t : List (κ × α)} {k : κ} {v : α} (h : ∀ y ∈ t, y.1 ≠ k) : setG t k v = t ++ [(k, v)] := by
  unfold setG
  rw [if_neg]
  intro q
  obtain ⟨y, hy, e⟩ := List.any_eq_true.mp q
  exact h y hy (by simpa using e)
theorem setG_take {κ α : Type} [DecidableEq κ] {t : List (κ × α)} {i : Nat} {z : κ × α} (hn : (t.map (·.1)).Nodup) (hz : t[i]? = some z) : setG (t.take i) z.1 z.2 = t.take (i + 1) := by
  rw [setG_new, List.take_add_one, hz]
  · rfl
  · intro y hy e
    have hs : t = t.take i ++ t.drop i := (List.take_append_drop i t).symm
    rw [hs, List.map_append, List.nodup_append] at hn
    have hd : z ∈ t.drop i := List.mem_of_getElem? (i := 0) (by rw [List.getElem?_drop]; exact hz)
    exact hn.2.2 _ (List.mem_map.mpr ⟨y, hy, rfl⟩) _ (List.mem_map.mpr ⟨z, hd, rfl⟩) e
theorem getG_nd {κ α : Type} [DecidableEq κ] : ∀ {t : List (κ × α)} {z : κ × α}, (t.map (·.1)).Nodup → z ∈ t → getG t z.1 = some z.2
  | [], _, _, h => absurd h List.not_mem_nil
  | y :: t, z, hn, h => by
    unfold getG
    rw [List.map_cons, List.nodup_cons] at hn
    rcases List.mem_cons.mp h with e | h
    · subst e
      simp [List.find?_cons]
    · have ne : ¬ y.1 = z.1 := fun q => hn.1 (by rw [q]; exact List.mem_map.mpr ⟨z, h, rfl⟩)
      have := getG_nd hn.2 h
      unfold getG at this
      simpa [List.find?_cons, ne] using this
theorem unlock_eq {H : Hp} {t D : Addr} {x o u : HO} (h : H t = some u) (ne : D ≠ t) : upd (upd (upd H t x) D o) t u = upd H D o := by
  funext b
  unfold upd
  by_cases e : b = t
  · rw [if_pos e, if_neg (by rw [e]; exact Ne.symm ne), e, h]
  · rw [if_neg e]
    by_cases e2 : b = D
    · rw [if_pos e2, if_pos e2]
    · rw [if_neg e2, if_neg e2, if_neg e]
/-- an instance whose other objects are new or of F -/
theorem FldAt.at {T : Tx K mg} {H : Hp} {f : DF} {s : DS} {dx : Addr} (h : H f.a = some (.ins T.C_Disk dx (FL nD6 (vD6 f s)))) : FldAt T H f s false := ⟨dx, h⟩
theorem k_clearU {T : Tx K mg} {H : Hp} {f : DF} {d : DS} {l : UL} {u : Addr} {Q : Hp → Prop} (hF : FldAt T H f d true) (hB : DiskB H f d l) (nu : H u = none) (k : ∀ H', Fr [f.a] H H' → H' u = some (.lst []) → DiskAt T H' { f with u := u } { d with uns := [] } → Q H') : rPutF K "_unsynced" (.ref u) (.ref f.a) (upd H u (.lst [])) Q := by
  have s4 := same_new (o := .lst []) nu
  have hF4 := hF.up s4
  have hB4 := hB.up s4
  have huu : upd H u (.lst []) u = some (.lst []) := upd_same
  generalize upd H u (.lst []) = H4 at hF4 hB4 s4 huu ⊢
  obtain ⟨dx, ha⟩ := hF4
  have ha : H4 f.a = some (.ins T.C_Disk dx (FL nD (vD f d))) := ha
  have nuo : ∀ {x : Addr} {o : HO}, H x = some o → x ≠ u := fun h => ne_of_none h nu
  have nua : f.a ≠ u := by obtain ⟨dx2, h⟩ := hF; exact nuo h
  refine k_putOld ha T.cl_Disk T.no_Disk_unsynced (i := 3) (by decide +kernel) (by show 3 < 10; decide) (by decide) ?_
  have fr5 : Fr [f.a] H4 (upd H4 f.a (.ins T.C_Disk dx (FL nD ((vD f d).set 3 (.ref u))))) := (Fr.refl _ _).put (.inl (by simp))
  refine k _ ((Fr.of s4).trans fr5 (fun x hx => .inl hx)) (fr5 _ _ huu (by simpa using Ne.symm nua)) ⟨⟨dx, ?_⟩, [], ?_⟩
  · rw [upd_same]
    rfl
  · obtain ⟨m1, m2, m3, m4, m5, m6, m7, m8, m9, m10, m11, m12, m13, m14, m15⟩ := DF.nds hB4.nd
    refine ⟨?_, fr5 _ _ hB4.ht (by simpa using Ne.symm m1), fr5 _ _ hB4.har (by simpa using Ne.symm m2), fr5 _ _ hB4.h0 (by simpa using Ne.symm m3), fr5 _ _ hB4.h1 (by simpa using Ne.symm m4), ⟨fr5 _ _ huu (by simpa using Ne.symm nua), fun z hz => absurd hz List.not_mem_nil⟩, rfl⟩
    have q := nuo hB.ht
    have q2 := nuo hB.har
    have q3 := nuo hB.h0
    have q4 := nuo hB.h1
    show [f.a, f.t, f.ar, f.c0, f.c1, u].Nodup
    simp only [List.nodup_cons, List.mem_cons, List.not_mem_nil, or_false, not_or, List.nodup_nil, and_true, not_false_eq_true]
    exact ⟨⟨m1, m2, m3, m4, nua⟩, ⟨m6, m7, m8, q⟩, ⟨m10, m11, q2⟩, ⟨m13, q3⟩, q4⟩
theorem k_pI {T : Tx K mg} {H : Hp} {a dx : Addr} {ns : List Str} {vs : List V} {nm : Str} {y : V} {Q : Hp → Prop} (ha : H a = some (.ins T.C_Disk dx (FL ns vs))) (no : NoAttr K T.C_Disk nm) (hl : ns.length = vs.length) (hn : nin nm ns = true) (hs : ns.length < 1000)
    (k : ∀ H', H' a = some (.ins T.C_Disk dx (FL (ns ++ [nm]) (vs ++ [y]))) → (∀ x, x ≠ a → H' x = H x) → Q H') : rPutF K nm y (.ref a) H Q := k_putAt ha T.cl_Disk no hl hn hs (k _ upd_same fun x hx => upd_ne hx)
theorem sb_fr {a : Addr} {F : List Addr} {H H1 H2 : Hp} (s : SameBut a H H1) (fr : Fr F H1 H2) (hF : ∀ x ∈ F, x = a ∨ H x = none) : SameBut a H H2 := fun x o ne h => fr _ _ (s _ _ ne h) fun m => by
  rcases hF x m with q | q
  · exact ne q
  · rw [h] at q; cases q
theorem sb_eq {a : Addr} {H H1 H2 : Hp} (s : SameBut a H H1) (e : ∀ x, x ≠ a → H2 x = H1 x) : SameBut a H H2 := fun x o ne h => (e x ne).trans (s _ _ ne h)
def DS.fresh (m : Int) (t : Tab) : DS := ⟨m, t, [], [], [], 0, false, 0, 0, 0, 0⟩
noncomputable def DS.newD (m : Int) (t : Tab) : DS := { ((DS.fresh m t).take 0 1).puts ((DS.fresh m t).take 0 1).uns with uns := [] }
def spInit (T : Tx K mg) : Sp := fun vs H Q E => ∃ (a dx t : Addr) (tb : Tab) (v : V), vs = [.ref a, .ref t, v] ∧ H a = some (.ins T.C_Disk dx []) ∧ H t = some (.dK (kT tb)) ∧ TabOk tb ∧ Gv H v ∧ (numV v 1 64 = false → Goes T H E (.num v)) ∧
  (∀ m : Int, v = .int m → 1 ≤ m → m ≤ 64 → ∀ (f : DF) (H' : Hp), f.a = a → SameBut a H H' → (∀ x ∈ f.l, x = a ∨ H x = none) → DiskAt T H' f (DS.newD m tb) → Q .non H')
theorem ok_Disk_init (T : Tx K mg) : FnOk P w K mg base (L2.CX P w) 3 T.a_Disk_init T.fd_Disk_init P_Disk_init (spInit T) := by
  refine T.F_Disk_init.ok sc_Disk_init (fun vs H Q E h => ?_) (fun cdv A outer s H vs Q E hr h => ?_)
  · obtain ⟨a, dx, t, tb, v, rfl, _⟩ := h
    rfl
  · obtain ⟨a, dx, t, tb, v, rfl, ha, ht, htb, gv, kb, k⟩ := h
    have nd := sc_Disk_init.nd
    refine ⟨_, (pss_cons (ps_if (pt_not (pt_val (pe_call (ok_is_number T) (hr.mono (by first | decide | omega)) g_Disk_init_is_number T.m_is_number T.k_is_number T.b_is_number .nil pass0 (pa_cons (kv (i := 2) v_Disk_init_rows) (pa_cons pe_int (pa_cons pe_int pa_nil)))))) (pss_one (ps_raise rfl (takes_of rfl rfl rfl rfl) (pmk_oex T.oex_InvalidNumber T.ii_InvalidNumber T.ti_InvalidNumber (ok_InvalidNumber_init T) (hr.mono (by first | decide | omega)) T.b_InvalidNumber_init .nil pass0 g_Disk_init_InvalidNumber T.m_InvalidNumber (pa_cons (kv (i := 2) v_Disk_init_rows) pa_nil)))) pss_nil)
      (pss_cons (kps_fld K (kv (i := 0) v_Disk_init_self) (kv (i := 2) v_Disk_init_rows))
      (pss_cons (kps_fld K (kv (i := 0) v_Disk_init_self) (pe_lock (pe_dc (own := [("key", 6)]) rfl nd (pi_keys (kv (i := 1) v_Disk_init_table)) ok_cs_Disk_init_1 (fun _ _ _ _ _ => (kgL (i := 6) nd l_Disk_init_1_key)) (fun _ _ _ _ _ => pts_nil) (fun _ _ _ _ _ => (kv (i := 6) v_Disk_init_1_key)) (fun _ _ _ _ _ => (pe_dget (hu_of hr) (kv (i := 1) v_Disk_init_1_table) (kv (i := 6) v_Disk_init_1_key) (fun _ _ => rfl))))))
      (pss_cons (kps_fld K (kv (i := 0) v_Disk_init_self) (pe_lst (pa_cons (pe_lst pa_nil) (pa_cons (pe_lst pa_nil) pa_nil))))
      (pss_cons (kps_fld K (kv (i := 0) v_Disk_init_self) (pe_lst pa_nil))
      (pss_cons (kps_fld K (kv (i := 0) v_Disk_init_self) pe_int)
      (pss_cons (kps_fld K (kv (i := 0) v_Disk_init_self) pe_bl)
      (pss_cons (ps_expr (kpe_methP (disp1 T.cl_Disk T.me_Disk_take_area (ok_Disk_take_area T) T.b_Disk_take_area) (hr.mono (by first | decide | omega)) pass0 (kv (i := 0) v_Disk_init_self) (pa_cons pe_int (pa_cons pe_int pa_nil))))
      (pss_cons (ps_for (passes_of rfl) rfl (kpi_list K (kpe_fld K (kv (i := 0) v_Disk_init_self))) (kpg_tup K 3 rfl (pgs_cons (kgL (i := 3) nd l_Disk_init_area) (pgs_cons (kgL (i := 4) nd l_Disk_init_index) (pgs_cons (kgL (i := 5) nd l_Disk_init_text) pgs_nil)))) (pss_one (ps_expr (kpe_methP (disp1 T.cl_Disk T.me_Disk_put (ok_Disk_put T) T.b_Disk_put) (hr.mono (by first | decide | omega)) pass0 (kv (i := 0) v_Disk_init_self) (pa_cons (kv (i := 3) v_Disk_init_area) (pa_cons (kv (i := 4) v_Disk_init_index) (pa_cons (kv (i := 5) v_Disk_init_text) pa_nil)))))))
      (pss_one (kps_fld K (kv (i := 0) v_Disk_init_self) (pe_lst pa_nil)))))))))))), ?_⟩
    walk_at "ss"
    refine ⟨v, 1, 64, rfl, gv, ?_⟩
    cases ev : numV v 1 64 with
    | false =>
      walk_at "ss"
      show tMkO _ _ _ _ _ _ _
      refine k_mkO ?_
      walk_at "ss"
      exact raise_InvalidNumber T (kb ev)
    | true =>
      obtain ⟨m, rfl, m1, m2⟩ : ∃ m : Int, v = .int m ∧ 1 ≤ m ∧ m ≤ 64 := by
        cases v with
        | int i =>
          simp only [numV, Bool.and_eq_true, decide_eq_true_eq] at ev
          exact ⟨i, rfl, ev.1, ev.2⟩
        | _ => cases ev
      have k := k m rfl m1 m2
      walk_at "ss"
      refine k_putAt (ns := []) (vs := []) ha T.cl_Disk T.no_Disk_most rfl (by decide +kernel) (by decide) ?_
      have nat : a ≠ t := ne_of ha ht (by intro q; cases q)
      have s0 : SameBut a H (upd H a (.ins T.C_Disk dx (FL ([] ++ [Str.ofString "_most"]) ([] ++ [V.int m])))) := (SameBut.refl a H).put
      have ha0 : upd H a (.ins T.C_Disk dx (FL ([] ++ [Str.ofString "_most"]) ([] ++ [V.int m]))) a = some (.ins T.C_Disk dx (FL ["_most"] [.int m])) := upd_same
      have nn0 : ∀ x, upd H a (.ins T.C_Disk dx (FL ([] ++ [Str.ofString "_most"]) ([] ++ [V.int m]))) x = none → H x = none ∧ x ≠ a := fun x h => up_none h
      generalize upd H a (.ins T.C_Disk dx (FL ([] ++ [Str.ofString "_most"]) ([] ++ [V.int m]))) = H1 at s0 ha0 nn0 ⊢
      have ht1 := s0 _ _ (Ne.symm nat) ht
      walk_at "ss"
      refine k_lockE ht1 True.intro fun od => ?_
      have htl : (kT tb).length ≤ 20 := by unfold kT; rw [List.length_map]; exact htb.len
      refine k_dc ?_
      refine k_keys ?_
      walk_at "ss"
      refine ⟨t, od, rfl, .inl ⟨kT tb, upd_same, ?_⟩⟩
      intro D nD
      have ntD : t ≠ D := ne_of_none upd_same nD
      have nD1 : H1 D = none := by rw [upd_ne (Ne.symm ntD)] at nD; exact nD
      refine dc_walk walk_keys (fun i H' => H' = upd (upd H1 t (.frz od (.dK (kT tb)))) D (.dK (kT (tb.take i)))) rfl ?_ ?_ ?_
      · rintro i H' _ rfl
        show upd _ D _ t = _
        rw [upd_ne ntD]
        exact upd_same
      · rintro i x H' H5 hi rfl ⟨rfl, key, vv, hx, rfl⟩
        obtain ⟨z, hz, rfl⟩ : ∃ z, tb[i]? = some z ∧ key = .inr z.1 := by
          unfold kT at hx
          rw [List.getElem?_map] at hx
          cases hh : tb[i]? with
          | none => rw [hh] at hx; cases hx
          | some z => rw [hh] at hx; cases hx; exact ⟨z, rfl, rfl⟩
        have gd : DGet (upd (upd H1 t (.frz od (.dK (kT tb)))) D (.dK (kT (tb.take i)))) t (.str z.1) (some (.str z.2)) := by
          refine .inl ⟨kT tb, .inr z.1, .inr ⟨od, ?_⟩, rfl, ?_⟩
          · rw [upd_ne ntD]; exact upd_same
          · rw [kT_val, getG_nd htb.nd (List.mem_of_getElem? hz)]; rfl
        walk_at "ss"
        refine ⟨rfl, ?_⟩
        walk_at "ss"
        refine k_dget ?_
        walk_at "ss"
        refine ⟨t, _, rfl, gd, ?_⟩
        refine ⟨_, .inr z.1, rfl, upd_same, small_lt (by unfold kT at htl ⊢; rw [List.length_map] at htl ⊢; rw [List.length_take]; omega), ?_⟩
        rw [upd_upd, kT_set, setG_take htb.nd hz]
      · rintro H' rfl
        refine ⟨by rw [upd_ne ntD]; exact upd_same, ?_⟩
        rw [show (kT tb).length = tb.length from List.length_map .., List.take_length, unlock_eq ht1 (Ne.symm ntD)]
        have s2 : SameBut a H (upd H1 D (.dK (kT tb))) := s0.trans (.of (same_new nD1))
        have naD : a ≠ D := ne_of_none ha0 nD1
        have ha2 : upd H1 D (.dK (kT tb)) a = some (.ins T.C_Disk dx (FL ["_most"] [.int m])) := by rw [upd_ne naD]; exact ha0
        have hD2 : upd H1 D (.dK (kT tb)) D = some (.dK (kT tb)) := upd_same
        have nHD : H D = none := (nn0 D nD1).1
        generalize upd H1 D (.dK (kT tb)) = H2 at s2 ha2 hD2 ⊢
        walk_at "ss"
        refine k_pI ha2 T.no_Disk_table rfl (by decide +kernel) (by decide) fun H3 ha3 e3 => ?_
        have hD3 := (e3 D (Ne.symm naD)).trans hD2
        have s3 := sb_eq s2 e3
        walk_at "ss"
        intro c0 nc0
        have t1 := same_new (o := .lst []) nc0
        have hc0 : upd H3 c0 (.lst []) c0 = some (.lst []) := upd_same
        generalize upd H3 c0 (.lst []) = H4 at t1 hc0 ⊢
        walk_at "ss"
        intro c1 nc1
        have t2 := same_new (o := .lst []) nc1
        have hc1 : upd H4 c1 (.lst []) c1 = some (.lst []) := upd_same
        generalize upd H4 c1 (.lst []) = H5 at t2 hc1 ⊢
        walk_at "ss"
        intro ar nar
        have t3 := same_new (o := .lst [V.ref c0, V.ref c1]) nar
        have har : upd H5 ar (.lst [V.ref c0, V.ref c1]) ar = some (.lst [V.ref c0, V.ref c1]) := upd_same
        generalize upd H5 ar (.lst [V.ref c0, V.ref c1]) = H6 at t3 har ⊢
        have ha6 := t3 _ _ (t2 _ _ (t1 _ _ ha3))
        have hD6 := t3 _ _ (t2 _ _ (t1 _ _ hD3))
        have hc06 := t3 _ _ (t2 _ _ hc0)
        have hc16 := t3 _ _ hc1
        have t123 := (t1.trans t2).trans t3
        have s6 := s3.trans (.of t123)
        have ac0 : a ≠ c0 := ne_of_none ha3 nc0
        have ac1 : a ≠ c1 := ne_of_none (t1 _ _ ha3) nc1
        have aar : a ≠ ar := ne_of_none (t2 _ _ (t1 _ _ ha3)) nar
        have Dc0 : D ≠ c0 := ne_of_none hD3 nc0
        have Dc1 : D ≠ c1 := ne_of_none (t1 _ _ hD3) nc1
        have Dar : D ≠ ar := ne_of_none (t2 _ _ (t1 _ _ hD3)) nar
        have c0c1 : c0 ≠ c1 := ne_of_none hc0 nc1
        have c0ar : c0 ≠ ar := ne_of_none (t2 _ _ hc0) nar
        have c1ar : c1 ≠ ar := ne_of_none hc1 nar
        have back : ∀ {H' : Hp} {x : Addr}, SameBut a H H' → x ≠ a → H' x = none → H x = none := fun {H' x} s ne h => by
          cases e : H x with
          | none => rfl
          | some o => rw [s _ _ ne e] at h; cases h
        have nHc0 := back s3 (Ne.symm ac0) nc0
        have nHc1 := back (s3.trans (.of t1)) (Ne.symm ac1) nc1
        have nHar := back (s3.trans (.of (t1.trans t2))) (Ne.symm aar) nar
        walk_at "ss"
        refine k_pI ha6 T.no_Disk_areas rfl (by decide +kernel) (by decide) fun H7 ha7 e7 => ?_
        have s7 := sb_eq s6 e7
        walk_at "ss"
        intro u nu
        have t8 := same_new (o := .lst []) nu
        have hu8 : upd H7 u (.lst []) u = some (.lst []) := upd_same
        generalize upd H7 u (.lst []) = H8 at t8 hu8 ⊢
        have ha8 := t8 _ _ ha7
        have s8 := s7.trans (.of t8)
        have k7 : ∀ {x : Addr} {o : HO}, x ≠ a → H6 x = some o → H8 x = some o ∧ x ≠ u := fun {x o} ne h => by
          have h7 : H7 x = some o := (e7 x ne).trans h
          exact ⟨t8 _ _ h7, ne_of_none h7 nu⟩
        have au : a ≠ u := ne_of_none ha7 nu
        have nHu := back s7 (Ne.symm au) nu
        have f8D := k7 (Ne.symm naD) hD6
        have f8c0 := k7 (Ne.symm ac0) hc06
        have f8c1 := k7 (Ne.symm ac1) hc16
        have f8ar := k7 (Ne.symm aar) har
        walk_at "ss"
        refine k_pI ha8 T.no_Disk_unsynced rfl (by decide +kernel) (by decide) fun H9 ha9 e9 => ?_
        have s9 := sb_eq s8 e9
        walk_at "ss"
        refine k_pI ha9 T.no_Disk_syncs rfl (by decide +kernel) (by decide) fun H10 ha10 e10 => ?_
        have s10 := sb_eq s9 e10
        walk_at "ss"
        refine k_pI ha10 T.no_Disk_fallen rfl (by decide +kernel) (by decide) fun H11 ha11 e11 => ?_
        have s11 := sb_eq s10 e11
        have e811 : ∀ {x : Addr} {o : HO}, x ≠ a → H8 x = some o → H11 x = some o := fun {x o} ne h => ((e11 x ne).trans ((e10 x ne).trans (e9 x ne))).trans h
        obtain ⟨f, ef⟩ : ∃ f : DF, f = ⟨a, D, ar, c0, c1, u⟩ := ⟨_, rfl⟩
        have hF11 : FldAt T H11 f (DS.fresh m tb) false := by subst ef; exact ⟨dx, ha11⟩
        have hB11 : DiskB H11 f (DS.fresh m tb) [] := by
          subst ef
          refine ⟨?_, e811 (Ne.symm naD) f8D.1, e811 (Ne.symm aar) f8ar.1, e811 (Ne.symm ac0) f8c0.1, e811 (Ne.symm ac1) f8c1.1, ⟨e811 (Ne.symm au) hu8, fun z hz => absurd hz List.not_mem_nil⟩, rfl⟩
          show [a, D, ar, c0, c1, u].Nodup
          simp only [List.nodup_cons, List.mem_cons, List.not_mem_nil, or_false, not_or, List.nodup_nil, and_true, not_false_eq_true]
          exact ⟨⟨naD, aar, ac0, ac1, au⟩, ⟨Dar, Dc0, Dc1, f8D.2⟩, ⟨Ne.symm c0ar, Ne.symm c1ar, f8ar.2⟩, ⟨c0c1, f8c0.2⟩, f8c1.2⟩
        have hnew : ∀ x ∈ f.l, x = a ∨ H x = none := fun x hx => by
          subst ef
          unfold DF.l at hx
          simp only [List.mem_cons, List.not_mem_nil, or_false] at hx
          rcases hx with rfl | rfl | rfl | rfl | rfl | rfl
          · exact .inl rfl
          · exact .inr nHD
          · exact .inr nHar
          · exact .inr nHc0
          · exact .inr nHc1
          · exact .inr nHu
        have efa : f.a = a := by rw [ef]
        clear ef
        rw [← efa]
        walk_at "ss"
        refine k_meth ?_
        walk_at "ss"
        obtain ⟨dx2, fs2, hins2, hno2⟩ := hF11.ins
        refine ⟨f.a, _, _, _, _, rfl, hins2, ⟨rfl, rfl⟩, hno2 _ (by decide +kernel), ?_⟩
        walk_at "ss"
        refine ⟨f, DS.fresh m tb, [], false, 0, 1, rfl, hF11, hB11, htb, by decide, by decide, ⟨Nat.zero_le _, Nat.zero_le _, Nat.zero_le _, fun x hx => absurd hx List.not_mem_nil⟩, fun H12 l1 fr12 hF12 hB12 => ?_⟩
        obtain ⟨d1, ed1⟩ : ∃ d1 : DS, d1 = (DS.fresh m tb).take 0 1 := ⟨_, rfl⟩
        have enew : DS.newD m tb = { d1.puts d1.uns with uns := [] } := by rw [ed1]; rfl
        have hwr : ∀ x ∈ d1.uns, x.1 ≤ 1 ∧ x.2.1 < 1000 := fun x hx => by
          subst ed1
          have := take_wr (s := DS.fresh m tb) (a := 0) (g := 1) htb (by decide) (by decide) x hx
          exact ⟨this.1, this.2.1⟩
        have hl0 : d1.c0.length ≤ 1000 := by rw [ed1]; exact Nat.zero_le _
        have hl1 : d1.c1.length ≤ 1000 := by rw [ed1]; exact Nat.zero_le _
        rw [← ed1] at hF12 hB12
        rw [enew] at k
        have hul : l1.length = d1.uns.length := by rw [← hB12.eu, List.length_map]
        walk_at "ss"
        refine k_fD hF12 T.no_Disk_unsynced (i := 3) (by decide +kernel) (by decide +kernel) rfl rfl ?_
        refine k_iL (SqL.of hB12.hu.at_) ?_
        refine k_forList (l1.map fun z => V.ref z.1) (fun i σ H' => (∃ u1 u2 u3 u4, σ = [some (.ref f.a), some (.ref t), some (.int m), u1, u2, u3, u4]) ∧ Fr f.l H11 H' ∧ FldAt T H' f (d1.puts (d1.uns.take i)) true ∧ DiskB H' f (d1.puts (d1.uns.take i)) l1) ⟨⟨_, _, _, _, rfl⟩, fr12, hF12, hB12⟩ (fun i σ H' _ h => SqL.of h.2.2.2.hu.at_) ?_ ?_
        · rintro i x σ H' hx ⟨⟨u1, u2, u3, u4, rfl⟩, fr, hF2, hB2⟩
          rw [List.getElem?_map] at hx
          obtain ⟨z, hz, rfl⟩ := Option.map_eq_some_iff.mp hx
          have hzw := hB2.hu.ws z (List.mem_of_getElem? hz)
          have huz : d1.uns[i]? = some z.2 := by rw [← hB12.eu, List.getElem?_map, hz]; rfl
          have hzm := hwr z.2 (List.mem_of_getElem? huz)
          refine k_gTup (SqT.of hzw) rfl ?_
          walk_at "ss"
          refine k_meth ?_
          walk_at "ss"
          obtain ⟨dx3, fs3, hins3, hno3⟩ := hF2.ins
          refine ⟨f.a, _, _, _, _, rfl, hins3, ⟨rfl, rfl⟩, hno3 _ (by decide +kernel), ?_⟩
          walk_at "ss"
          have hle := puts_lens (ws := d1.uns.take i) hl0 hl1 (fun x hx => (hwr x (List.mem_of_mem_take hx)).2)
          refine ⟨f, d1.puts (d1.uns.take i), l1, true, z.2, rfl, hF2, hB2, hzm.1, by omega, by omega, by omega, fun H3 fr3 hB3 => ?_⟩
          have step : d1.puts (d1.uns.take (i + 1)) = (d1.puts (d1.uns.take i)).put z.2 := by
            unfold DS.puts
            rw [List.take_add_one, huz, List.foldl_append]
            rfl
          refine ⟨⟨_, _, _, _, rfl⟩, fr.trans fr3 (fun x hx => .inl ?_), ?_, by rw [step]; exact hB3⟩
          · simp only [List.mem_cons, List.not_mem_nil, or_false] at hx
            rcases hx with rfl | rfl <;> simp [DF.l]
          · obtain ⟨n1, n2, n3, n4, n5, n6, n7, n8, n9, n10, n11, n12, n13, n14, n15⟩ := DF.nds hB2.nd
            rw [step]
            have h3 := hF2.fr fr3 (by simp [n3, n4])
            obtain ⟨e1, e2⟩ := vD_puts f (d1.puts (d1.uns.take i)) [z.2]
            exact h3.congr e1 e2
        · rintro σ H' ⟨⟨u1, u2, u3, u4, rfl⟩, fr, hF2, hB2⟩
          rw [List.length_map, hul, List.take_length] at hB2 hF2
          have sH := sb_fr s11 fr hnew
          walk_at "ss"
          intro u2 nu2
          have nHu2 : u2 = a ∨ H u2 = none := by
            by_cases e : u2 = a
            · exact .inl e
            · exact .inr (back sH e nu2)
          walk_at "ss"
          refine k_clearU hF2 hB2 nu2 fun H13 fr13 hu13 hd13 => ?_
          refine k { f with u := u2 } H13 efa (sb_fr sH fr13 fun x hx => .inl (by rw [List.mem_singleton.mp hx, efa])) (fun x hx => ?_) hd13
          unfold DF.l at hx
          simp only [List.mem_cons, List.not_mem_nil, or_false] at hx
          rcases hx with rfl | rfl | rfl | rfl | rfl | rfl
          · exact .inl efa
          · exact hnew _ (by simp [DF.l])
          · exact hnew _ (by simp [DF.l])
          · exact hnew _ (by simp [DF.l])
          · exact hnew _ (by simp [DF.l])
          · exact nHu2
end

section
open TL
variable {w : World} {K : PySem.W.Frag} {mg : Str → Option Value} {base : Heap}
/-! ### what a disk tells -/
def sortF {α : Type} (t : List (Str × α)) (ys : List Str) : List (Str × α) := ys.filterMap fun k => (getG t k).map fun v => (k, v)
theorem sortF_snoc {α : Type} {t : List (Str × α)} {ys : List Str} {y : Str} {v : α} (h : getG t y = some v) : sortF t (ys ++ [y]) = sortF t ys ++ [(y, v)] := by
  unfold sortF
  rw [List.filterMap_append]
  simp [h]
theorem sortF_mem {α : Type} {t : List (Str × α)} {ys : List Str} {z : Str × α} (h : z ∈ sortF t ys) : z.1 ∈ ys ∧ getG t z.1 = some z.2 := by
  unfold sortF at h
  obtain ⟨k, hk, e⟩ := List.mem_filterMap.mp h
  obtain ⟨v, hv, rfl⟩ := Option.map_eq_some_iff.mp e
  exact ⟨hk, hv⟩
theorem sortF_len {α : Type} (t : List (Str × α)) (ys : List Str) : (sortF t ys).length ≤ ys.length := List.length_filterMap_le _ _
/-- t2 is t, its keys ascending -/
def SrtOf {α : Type} (t t2 : List (Str × α)) : Prop := ∃ ys : List Str, ys.Perm (t.map (·.1)) ∧ sortedS ys = true ∧ t2 = sortF t ys
theorem SrtOf.uniq {α : Type} {t t2 t3 : List (Str × α)} (h : SrtOf t t2) (g : SrtOf t t3) : t2 = t3 := by
  obtain ⟨ys, p, s, rfl⟩ := h
  obtain ⟨ys', p', s', rfl⟩ := g
  rw [sort_uniq s s' (p.trans p'.symm)]
theorem SrtOf.len {α : Type} {t t2 : List (Str × α)} (h : SrtOf t t2) : t2.length ≤ t.length := by
  obtain ⟨ys, p, s, rfl⟩ := h
  refine Nat.le_trans (sortF_len _ _) ?_
  rw [p.length_eq, List.length_map]
  exact Nat.le_refl _
theorem getG_key {κ α : Type} [DecidableEq κ] {t : List (κ × α)} {k : κ} (h : k ∈ t.map (·.1)) : ∃ v, getG t k = some v := by
  unfold getG
  cases hf : t.find? fun z => decide (z.1 = k) with
  | none =>
    obtain ⟨z, hz, e⟩ := List.mem_map.mp h
    have := List.find?_eq_none.mp hf z hz
    simp [e] at this
  | some z => exact ⟨z.2, rfl⟩
def spTable (T : Tx K mg) : Sp := fun vs H Q _ => ∃ (f : DF) (s : DS), vs = [.ref f.a] ∧ DiskAt T H f s ∧ TabOk s.tab ∧ ∀ (D : Addr) (t2 : Tab) (H' : Hp), H D = none → Same H H' → SrtOf s.tab t2 → H' D = some (.dK (kT t2)) → Q (.ref D) H'
theorem ok_Disk_table (T : Tx K mg) : FnOk P w K mg base CX0 1 T.a_Disk_table T.fd_Disk_table P_Disk_table (spTable T) := by
  refine T.F_Disk_table.ok sc_Disk_table (fun vs H Q E h => ?_) (fun cdv A outer s H vs Q E hr h => ?_)
  · obtain ⟨f, s, rfl, _⟩ := h
    rfl
  · obtain ⟨f, d, rfl, ⟨hF, l, hB⟩, htb, k⟩ := h
    have nd := sc_Disk_table.nd
    refine ⟨_, (pss_one (ps_ret (pe_dc (own := [("key", 1)]) rfl nd (kpi_list K (kcB b_sorted (by decide) (by decide) (call_sortedD rfl) g_Disk_table_sorted T.n_sorted (pa_cons (kpe_fld K (kv (i := 0) v_Disk_table_self)) pa_nil))) ok_cs_Disk_table_1 (fun _ _ _ _ _ => (kgL (i := 1) nd l_Disk_table_1_key)) (fun _ _ _ _ _ => pts_nil) (fun _ _ _ _ _ => (kv (i := 1) v_Disk_table_1_key)) (fun _ _ _ _ _ => (pe_dget (hu_of hr) (kpe_fld K (kv (i := 0) v_Disk_table_1_self)) (kv (i := 1) v_Disk_table_1_key) (fun _ _ => rfl)))))), ?_⟩
    walk_at "ss"
    refine k_dc ?_
    walk_at "ss"
    refine k_fD hF T.no_Disk_table (i := 1) (by decide +kernel) (by decide +kernel) rfl rfl ?_
    have hl20 := htb.len
    refine ⟨f.t, kT d.tab, d.tab.map (·.1), rfl, .inl hB.ht, by simp [kT], by rw [List.length_map]; omega, fun ys q hp hs nq => ?_⟩
    generalize eL : upd H q _ = H1
    have s1 := upd_sm eL nq
    have hq := upd_at eL
    clear eL
    have ynd : ys.Nodup := hp.nodup_iff.mpr htb.nd
    have yl : ys.length ≤ 20 := by have := hp.length_eq; rw [List.length_map] at this; omega
    refine k_iL (SqL.of hq) ?_
    intro D nD
    have hF1 := hF.up s1
    have hB1 := hB.up s1
    have nDo : ∀ {x : Addr} {o : HO}, H1 x = some o → x ≠ D := fun h => ne_of_none h nD
    refine dc_walk (walk_list (xs := ys.map V.str)) (fun i H' => H' = upd H1 D (.dK (kT (sortF d.tab (ys.take i))))) rfl ?_ ?_ ?_
    · rintro i H' _ rfl
      exact SqL.of (by rw [upd_ne (nDo hq)]; exact hq)
    · rintro i x H' H5 hi rfl ⟨rfl, hx⟩
      rw [List.getElem?_map] at hx
      obtain ⟨y, hy, rfl⟩ := Option.map_eq_some_iff.mp hx
      have hil := (List.getElem?_eq_some_iff.mp hy).1
      obtain ⟨v, hv⟩ := getG_key (hp.mem_iff.mp (List.mem_of_getElem? hy))
      have s2 := same_new (o := .dK (kT (sortF d.tab (ys.take i)))) nD
      have hF2 := hF1.up s2
      have hB2 := hB1.up s2
      have gd := DGet.k (k := Sum.inr y) hB2.ht
      rw [kT_val, hv] at gd
      walk_at "ss"
      refine ⟨rfl, ?_⟩
      walk_at "ss"
      refine k_dget ?_
      walk_at "ss"
      refine k_fD hF2 T.no_Disk_table (i := 1) (by decide +kernel) (by decide +kernel) rfl rfl ?_
      walk_at "ss"
      refine ⟨f.t, _, rfl, gd, ?_⟩
      refine ⟨_, .inr y, rfl, upd_same, small_lt (by unfold kT; rw [List.length_map]; have := sortF_len d.tab (ys.take i); rw [List.length_take] at this; omega), ?_⟩
      rw [upd_upd, kT_set, setG_new, List.take_add_one, hy, Option.toList_some, sortF_snoc hv]
      intro z hz e
      have hm := (sortF_mem hz).1
      rw [e] at hm
      have hs2 : ys = ys.take i ++ ys.drop i := (List.take_append_drop i ys).symm
      rw [hs2, List.nodup_append] at ynd
      exact ynd.2.2 _ hm _ (List.mem_of_getElem? (i := 0) (by rw [List.getElem?_drop]; exact hy)) rfl
    · rintro H' rfl
      rw [List.length_map, List.take_length]
      exact k D _ _ (by
        cases e : H D with
        | none => rfl
        | some o => exact absurd rfl (nDo (s1 _ _ e))) (s1.trans (same_new nD)) ⟨ys, hp, hs, rfl⟩ upd_same
def spAreas (T : Tx K mg) : Sp := fun vs H Q _ => ∃ (f : DF) (s : DS), vs = [.ref f.a] ∧ DiskAt T H f s ∧ ∀ (L p q : Addr) (H' : Hp), H L = none → H p = none → H q = none → L ≠ p → L ≠ q → p ≠ q → Same H H' → H' L = some (.lst [.ref p, .ref q]) → H' p = some (.lst (s.c0.map vO)) → H' q = some (.lst (s.c1.map vO)) → Q (.ref L) H'
theorem ok_Disk_areas (T : Tx K mg) : FnOk P w K mg base CX0 1 T.a_Disk_areas T.fd_Disk_areas P_Disk_areas (spAreas T) := by
  refine T.F_Disk_areas.ok sc_Disk_areas (fun vs H Q E h => ?_) (fun cdv A outer s H vs Q E hr h => ?_)
  · obtain ⟨f, s, rfl, _⟩ := h
    rfl
  · obtain ⟨f, d, rfl, ⟨hF, l, hB⟩, k⟩ := h
    have nd := sc_Disk_areas.nd
    refine ⟨_, (pss_one (ps_ret (pe_lc (own := [("cells", 1)]) rfl nd (kpi_list K (kpe_fld K (kv (i := 0) v_Disk_areas_self))) ok_cs_Disk_areas_1 (fun _ _ _ _ _ => (kgL (i := 1) nd l_Disk_areas_1_cells)) (fun _ _ _ _ _ => pts_nil) (fun _ _ _ _ _ => (kcT b_list (by decide) (by decide) (kc_list K) g_Disk_areas_1_list T.n_list (pa_cons (kv (i := 1) v_Disk_areas_1_cells) pa_nil)))))), ?_⟩
    walk_at "ss"
    refine k_fD hF T.no_Disk_areas (i := 2) (by decide +kernel) (by decide +kernel) rfl rfl ?_
    refine k_iL (SqL.of hB.har) ?_
    intro D nD
    have nDo : ∀ {x : Addr} {o : HO}, H x = some o → x ≠ D := fun h => ne_of_none h nD
    refine k_lcList [V.ref f.c0, V.ref f.c1] (fun i H' => Same H H' ∧ (i = 0 → H' D = some (.lst [])) ∧ (i = 1 → ∃ p, H' D = some (.lst [.ref p]) ∧ H p = none ∧ p ≠ D ∧ H' p = some (.lst (d.c0.map vO))) ∧ (i = 2 → ∃ p q, H' D = some (.lst [.ref p, .ref q]) ∧ H p = none ∧ H q = none ∧ p ≠ D ∧ q ≠ D ∧ p ≠ q ∧ H' p = some (.lst (d.c0.map vO)) ∧ H' q = some (.lst (d.c1.map vO)))) ⟨same_new nD, fun _ => upd_same, fun e => (by cases e), fun e => (by cases e)⟩ (fun i H' _ h => SqL.of (h.1 _ _ hB.har)) ?_ ?_
    · rintro i x H' hx ⟨sm, h0, h1, h2⟩
      match i, hx with
      | 0, hx =>
        cases hx
        have hD := h0 rfl
        walk_at "ss"
        refine ⟨rfl, ?_⟩
        walk_at "ss"
        refine k_listL (SqL.of (sm _ _ hB.h0)) fun p np => ?_
        have npD : p ≠ D := fun e => by rw [e, hD] at np; cases np
        refine ⟨_, (upd_ne (Ne.symm npD)).trans hD, by decide, same_put (sm.trans (same_new np)) nD, fun e => (by cases e), fun _ => ⟨p, upd_same, ?_, npD, (upd_ne npD).trans upd_same⟩, fun e => (by cases e)⟩
        cases e : H p with
        | none => rfl
        | some o => rw [sm _ _ e] at np; cases np
      | 1, hx =>
        cases hx
        obtain ⟨p, hD, np0, npD, hp⟩ := h1 rfl
        walk_at "ss"
        refine ⟨rfl, ?_⟩
        walk_at "ss"
        refine k_listL (SqL.of (sm _ _ hB.h1)) fun q nq => ?_
        have nqD : q ≠ D := fun e => by rw [e, hD] at nq; cases nq
        have npq : p ≠ q := fun e => by rw [← e, hp] at nq; cases nq
        refine ⟨_, (upd_ne (Ne.symm nqD)).trans hD, small_lt (show 1 ≤ 1000000 by decide), same_put (sm.trans (same_new nq)) nD, fun e => (by cases e), fun e => (by cases e), fun _ => ⟨p, q, upd_same, np0, ?_, npD, nqD, npq, (upd_ne npD).trans ((upd_ne npq).trans hp), (upd_ne nqD).trans upd_same⟩⟩
        cases e : H q with
        | none => rfl
        | some o => rw [sm _ _ e] at nq; cases nq
      | i + 2, hx => cases hx
    · rintro H' ⟨sm, h0, h1, h2⟩
      obtain ⟨p, q, hD, np, nq, npD, nqD, npq, hp, hq⟩ := h2 rfl
      exact k D p q H' nD np nq (Ne.symm npD) (Ne.symm nqD) npq sm hD hp hq
def spUnsynced (T : Tx K mg) : Sp := fun vs H Q _ => ∃ (f : DF) (s : DS), vs = [.ref f.a] ∧ DiskAt T H f s ∧ ∀ (L : Addr) (l : UL) (H' : Hp), H L = none → Same H H' → l.map (·.2) = s.uns → UnsAt H' L l → (∀ z ∈ l, WrAt H z) → Q (.ref L) H'
theorem ok_Disk_unsynced (T : Tx K mg) : FnOk P w K mg base CX0 1 T.a_Disk_unsynced T.fd_Disk_unsynced P_Disk_unsynced (spUnsynced T) := by
  refine T.F_Disk_unsynced.ok sc_Disk_unsynced (fun vs H Q E h => ?_) (fun cdv A outer s H vs Q E hr h => ?_)
  · obtain ⟨f, s, rfl, _⟩ := h
    rfl
  · obtain ⟨f, d, rfl, ⟨hF, l, hB⟩, k⟩ := h
    have nd := sc_Disk_unsynced.nd
    refine ⟨_, (pss_one (ps_ret (kcT b_list (by decide) (by decide) (kc_list K) g_Disk_unsynced_list T.n_list (pa_cons (kpe_fld K (kv (i := 0) v_Disk_unsynced_self)) pa_nil)))), ?_⟩
    walk_at "ss"
    refine k_fD hF T.no_Disk_unsynced (i := 3) (by decide +kernel) (by decide +kernel) rfl rfl ?_
    refine k_listL (SqL.of hB.hu.at_) fun L nL => ?_
    exact k L l _ nL (same_new nL) hB.eu ⟨upd_same, fun z hz => same_new nL _ _ (hB.hu.ws z hz)⟩ hB.hu.ws
def spSyncs (T : Tx K mg) : Sp := fun vs H Q _ => ∃ (f : DF) (s : DS), vs = [.ref f.a] ∧ FldAt T H f s true ∧ Q (.int (s.syncs : Nat)) H
theorem ok_Disk_syncs (T : Tx K mg) : FnOk P w K mg base CX0 1 T.a_Disk_syncs T.fd_Disk_syncs P_Disk_syncs (spSyncs T) := by
  refine T.F_Disk_syncs.ok sc_Disk_syncs (fun vs H Q E h => ?_) (fun cdv A outer s H vs Q E hr h => ?_)
  · obtain ⟨f, s, rfl, _⟩ := h
    rfl
  · obtain ⟨f, d, rfl, hF, k⟩ := h
    refine ⟨_, (pss_one (ps_ret (kpe_fld K (kv (i := 0) v_Disk_syncs_self)))), ?_⟩
    walk_at "ss"
    exact k_fD hF T.no_Disk_syncs (i := 4) (by decide +kernel) (by decide +kernel) rfl rfl k
def spFallen (T : Tx K mg) : Sp := fun vs H Q _ => ∃ (f : DF) (s : DS), vs = [.ref f.a] ∧ FldAt T H f s true ∧ Q (.bl s.fallen) H
theorem ok_Disk_fallen (T : Tx K mg) : FnOk P w K mg base CX0 1 T.a_Disk_fallen T.fd_Disk_fallen P_Disk_fallen (spFallen T) := by
  refine T.F_Disk_fallen.ok sc_Disk_fallen (fun vs H Q E h => ?_) (fun cdv A outer s H vs Q E hr h => ?_)
  · obtain ⟨f, s, rfl, _⟩ := h
    rfl
  · obtain ⟨f, d, rfl, hF, k⟩ := h
    refine ⟨_, (pss_one (ps_ret (kpe_fld K (kv (i := 0) v_Disk_fallen_self)))), ?_⟩
    walk_at "ss"
    exact k_fD hF T.no_Disk_fallen (i := 5) (by decide +kernel) (by decide +kernel) rfl rfl k
end

section
open TL
variable {w : World} {K : PySem.W.Frag} {mg : Str → Option Value} {base : Heap}
/-! ### a copy -/
theorem vals_rev {vs : List V} {us : List Value} (r : Vals vs us) : Vals vs.reverse us.reverse := by
  induction r with
  | nil => exact .nil
  | cons h r ih => rw [List.reverse_cons, List.reverse_cons]; exact ih.append (.cons h .nil)
theorem bindD1 (T : Tx K mg) : ∃ ds, Vals [V.int 16] ds ∧ Binds K T.fd_Disk_init P_Disk_init ds :=
  L2.FunD.binds0 (ps := P_Disk_init) T.F_Disk_init 2 (by simp) rfl (fun D doc pm an cdv ct us ks hu hk => match us, ks, hu, hk with
    | [_, _], [_], _, _ => ⟨_, _, _, _, _, _, rfl, rfl, rfl⟩)
theorem kbindD1 (T : Tx K mg) : ∃ mv : List Value, KBn K T.fd_Disk_init P_Disk_init 2 ["rows"] (fun us ws => us ++ ws) (fun vs zs => vs ++ zs) :=
  L2.FunD.kbinds0 (ps := P_Disk_init) T.F_Disk_init 2 ["rows"] [] (fun us _ ws => us ++ ws) (by simp) (fun q hq => by cases hq) (fun r1 _ r4 => r1.append r4)
    (fun D doc pm an cdv ct us mv ws hu hm hw => match us, mv, ws, hu, hm, hw with
    | [_, _], [], [_], _, _, _ => rfl)
theorem kbindD0 (T : Tx K mg) : ∃ mv : List Value, KBn K T.fd_Disk_init P_Disk_init 1 ["rows", "table"] (fun us ws => us ++ ws.reverse) (fun vs zs => vs ++ zs.reverse) :=
  L2.FunD.kbinds0 (ps := P_Disk_init) T.F_Disk_init 1 ["rows", "table"] [] (fun us _ ws => us ++ ws.reverse) (by simp) (fun q hq => by cases hq) (fun r1 _ r4 => r1.append (vals_rev r4))
    (fun D doc pm an cdv ct us mv ws hu hm hw => match us, mv, ws, hu, hm, hw with
    | [_], [], [_, _], _, _, _ => rfl)
theorem k_makeK {C : Addr} {n m : Nat} {sp : Sp} {gV : List V → List V → List V} {E : XK} {t tk : TA} {σ : L2.St} {H : Hp} {Q : VK} (h : t σ H fun vs H1 => tk σ H1 fun zs H2 => vs.length = n ∧ zs.length = m ∧ ∀ x dx, H2 x = none → H2 dx = none → dx ≠ x →
  sp (gV (.ref x :: vs) zs) (upd (upd H2 dx (.own x)) x (.ins C dx [])) (fun v H3 => v = .non ∧ Q (.ref x) H3) E) : tMakeK C n m sp gV E t tk σ H Q := h
theorem k_make {C : Addr} {sp : Sp} {dvs : List V} {E : XK} {t : TA} {σ : L2.St} {H : Hp} {Q : VK} (h : t σ H fun vs H1 => ∀ x dx, H1 x = none → H1 dx = none → dx ≠ x →
  sp (.ref x :: (vs ++ dvs)) (upd (upd H1 dx (.own x)) x (.ins C dx [])) (fun v H2 => v = .non ∧ Q (.ref x) H2) E) : tMake C sp dvs E t σ H Q := h
/-- a new disk of right rows -/
theorem k_mkD {T : Tx K mg} {H : Hp} {t : Addr} {tb : Tab} {m : Int} {E : XK} {Q : Addr → Hp → Prop} (ht : H t = some (.dK (kT tb))) (htb : TabOk tb) (m1 : 1 ≤ m) (m2 : m ≤ 64) (k : ∀ (f : DF) (H' : Hp), (∀ y ∈ f.l, H y = none) → Same H H' → DiskAt T H' f (DS.newD m tb) → Q f.a H') :
    ∀ x dx, H x = none → H dx = none → dx ≠ x → spInit T [.ref x, .ref t, .int m] (upd (upd H dx (.own x)) x (.ins T.C_Disk dx [])) (fun v H3 => v = .non ∧ Q x H3) E := fun x dx nx nd ne => by
  have ntx : t ≠ x := ne_of_none ht nx
  have ntd : t ≠ dx := ne_of_none ht nd
  refine ⟨x, dx, t, tb, .int m, rfl, upd_same, by rw [upd_ne ntx, upd_ne ntd]; exact ht, htb, .int m, fun h => ?_, fun m' em _ _ f H' ef sb hn hd => ⟨rfl, ?_⟩⟩
  · simp only [numV, Bool.and_eq_false_iff, decide_eq_false_iff_not] at h
    omega
  · cases em
    rw [← ef]
    refine k f H' (fun y hy => ?_) (SameBut.made nx nd ne sb) hd
    rcases hn y hy with e | e
    · rw [e]; exact nx
    · exact (up_none (up_none e).1).1
/-- a field that is there -/
theorem k_pO {T : Tx K mg} {H : Hp} {a dx : Addr} {ns : List Str} {vs : List V} {nm : Str} {i : Nat} {y : V} {Q : Hp → Prop} (ha : H a = some (.ins T.C_Disk dx (FL ns vs))) (no : NoAttr K T.C_Disk nm) (hi : pos? nm ns = some i) (hl : i < vs.length) (hs : ns.length < 1000)
    (k : ∀ H', H' a = some (.ins T.C_Disk dx (FL ns (vs.set i y))) → (∀ x, x ≠ a → H' x = H x) → Q H') : rPutF K nm y (.ref a) H Q := k_putOld ha T.cl_Disk no hi hl hs (k _ upd_same fun x hx => upd_ne hx)
theorem FldAt.eqs {T : Tx K mg} {H H' : Hp} {f : DF} {s : DS} {full : Bool} {a : Addr} (h : FldAt T H f s full) (e : ∀ x, x ≠ a → H' x = H x) (ne : f.a ≠ a) : FldAt T H' f s full := by
  obtain ⟨dx, h⟩ := h
  exact ⟨dx, by rw [e _ ne]; exact h⟩
theorem DiskB.eqs {H H' : Hp} {f : DF} {s : DS} {l : UL} {a : Addr} {C dx : Addr} {fs : List (Str × V)} (h : DiskB H f s l) (e : ∀ x, x ≠ a → H' x = H x) (ne : ∀ x ∈ f.l, x ≠ a) (ha : H a = some (.ins C dx fs)) : DiskB H' f s l := by
  have m : ∀ x, x ∈ f.l → H' x = H x := fun x hx => e x (ne x hx)
  exact ⟨h.nd, (m _ (by simp [DF.l])).trans h.ht, (m _ (by simp [DF.l])).trans h.har, (m _ (by simp [DF.l])).trans h.h0, (m _ (by simp [DF.l])).trans h.h1, ⟨(m _ (by simp [DF.l])).trans h.hu.at_, fun z hz => (e _ (ne_of (h.hu.ws z hz) ha (by intro q; cases q))).trans (h.hu.ws z hz)⟩, h.eu⟩
def spCopyD (T : Tx K mg) : Sp := fun vs H Q _ => ∃ (f : DF) (s : DS), vs = [.ref f.a] ∧ DiskAt T H f s ∧ TabOk s.tab ∧ 1 ≤ s.most ∧ s.most ≤ 64 ∧ ∀ (f' : DF) (H' : Hp), (∀ x ∈ f'.l, H x = none) → Same H H' → DiskAt T H' f' s → Q (.ref f'.a) H'
theorem ok_Disk_copy (T : Tx K mg) : FnOk P w K mg base CX0 5 T.a_Disk_copy T.fd_Disk_copy P_Disk_copy (spCopyD T) := by
  refine T.F_Disk_copy.ok sc_Disk_copy (fun vs H Q E h => ?_) (fun cdv A outer s H vs Q E hr h => ?_)
  · obtain ⟨f, s, rfl, _⟩ := h
    rfl
  · obtain ⟨f, d, rfl, ⟨hF, l, hB⟩, htb, hm1, hm2, k⟩ := h
    have nd := sc_Disk_copy.nd
    obtain ⟨mv, kbp1⟩ := kbindD1 T
    refine ⟨_, (pss_cons (ks_setL (i := 1) nd l_Disk_copy_twin (pe_makeK T.mk_Disk (ok_Disk_init T) (hr.mono (by first | decide | omega)) g_Disk_copy_Disk T.m_Disk kbp1 passE (pa_cons pe_dnewK pa_nil) (pk_cons (kpe_fld K (kv (i := 0) v_Disk_copy_self)) pk_nil)))
      (pss_cons (kps_fld K (kv (i := 1) v_Disk_copy_twin) (pe_lock (pe_dc (own := [("key", 2)]) rfl nd (pi_keys (kpe_fld K (kv (i := 0) v_Disk_copy_self))) ok_cs_Disk_copy_2 (fun _ _ _ _ _ => (kgL (i := 2) nd l_Disk_copy_2_key)) (fun _ _ _ _ _ => pts_nil) (fun _ _ _ _ _ => (kv (i := 2) v_Disk_copy_2_key)) (fun _ _ _ _ _ => (pe_dget (hu_of hr) (kpe_fld K (kv (i := 0) v_Disk_copy_2_self)) (kv (i := 2) v_Disk_copy_2_key) (fun _ _ => rfl))))))
      (pss_cons (kps_fld K (kv (i := 1) v_Disk_copy_twin) (pe_lc (own := [("cells", 3)]) rfl nd (kpi_list K (kpe_fld K (kv (i := 0) v_Disk_copy_self))) ok_cs_Disk_copy_1 (fun _ _ _ _ _ => (kgL (i := 3) nd l_Disk_copy_1_cells)) (fun _ _ _ _ _ => pts_nil) (fun _ _ _ _ _ => (kcT b_list (by decide) (by decide) (kc_list K) g_Disk_copy_1_list T.n_list (pa_cons (kv (i := 3) v_Disk_copy_1_cells) pa_nil)))))
      (pss_cons (kps_fld K (kv (i := 1) v_Disk_copy_twin) (kcT b_list (by decide) (by decide) (kc_list K) g_Disk_copy_list T.n_list (pa_cons (kpe_fld K (kv (i := 0) v_Disk_copy_self)) pa_nil)))
      (pss_cons (kps_fld K (kv (i := 1) v_Disk_copy_twin) (kpe_fld K (kv (i := 0) v_Disk_copy_self)))
      (pss_cons (kps_fld K (kv (i := 1) v_Disk_copy_twin) (kpe_fld K (kv (i := 0) v_Disk_copy_self)))
      (pss_cons (kps_fld K (kv (i := 1) v_Disk_copy_twin) (kpe_fld K (kv (i := 0) v_Disk_copy_self)))
      (pss_cons (kps_fld K (kv (i := 1) v_Disk_copy_twin) (kpe_fld K (kv (i := 0) v_Disk_copy_self)))
      (pss_cons (kps_fld K (kv (i := 1) v_Disk_copy_twin) (kpe_fld K (kv (i := 0) v_Disk_copy_self)))
      (pss_cons (kps_fld K (kv (i := 1) v_Disk_copy_twin) (kpe_fld K (kv (i := 0) v_Disk_copy_self)))
      (pss_one (ps_ret (kv (i := 1) v_Disk_copy_twin))))))))))))), ?_⟩
    walk_at "ss"
    refine k_makeK ?_
    walk_at "ss"
    refine k_dnew fun e0 ne0 => ?_
    have s0 := same_new (o := .dK []) ne0
    have he0 : upd H e0 (.dK []) e0 = some (.dK (kT [])) := upd_same
    generalize upd H e0 (.dK []) = H1 at s0 he0 ⊢
    have hF1 := hF.up s0
    walk_at "ss"
    refine k_fT hF1 T.no_Disk_most (i := 0) (by decide +kernel) rfl ?_
    walk_at "ss"
    refine ⟨rfl, rfl, ?_⟩
    show ∀ x dx, _ → _ → _ → spInit T [V.ref x, V.ref e0, V.int d.most] _ _ _
    refine k_mkD (T := T) he0 ⟨List.nodup_nil, fun z hz => absurd hz List.not_mem_nil⟩ hm1 hm2 fun f2 H2 hn2 s2 hd2 => ?_
    have s02 := s0.trans s2
    have hF2 := hF.up s02
    have hB2 := hB.up s02
    obtain ⟨⟨dx, ha2⟩, l2, hB22⟩ := hd2
    obtain ⟨d2, ed2⟩ : ∃ d2 : DS, d2 = DS.newD d.most [] := ⟨_, rfl⟩
    have ha2 : H2 f2.a = some (.ins T.C_Disk dx (FL nD (vD f2 d2))) := by rw [ed2]; exact ha2
    have n2a : H f2.a = none := by
      cases e : H f2.a with
      | none => rfl
      | some o =>
        have h1 := s0 _ _ e
        rw [hn2 f2.a (by simp [DF.l])] at h1
        cases h1
    have hmost : d2.most = d.most := by
      rw [ed2]
      exact (puts_same _ ((DS.fresh d.most []).take 0 1)).1
    have nfa : ∀ x ∈ f.l, x ≠ f2.a := fun x hx e => by
      obtain ⟨o, ho⟩ : ∃ o, H x = some o := by
        unfold DF.l at hx
        simp only [List.mem_cons, List.not_mem_nil, or_false] at hx
        obtain ⟨dx0, h0⟩ := hF
        rcases hx with rfl | rfl | rfl | rfl | rfl | rfl
        · exact ⟨_, h0⟩
        · exact ⟨_, hB.ht⟩
        · exact ⟨_, hB.har⟩
        · exact ⟨_, hB.h0⟩
        · exact ⟨_, hB.h1⟩
        · exact ⟨_, hB.hu.at_⟩
      rw [e, n2a] at ho
      cases ho
    have nfaa : f.a ≠ f2.a := nfa _ (by simp [DF.l])
    obtain ⟨a, ea⟩ : ∃ a, a = f2.a := ⟨_, rfl⟩
    rw [← ea] at ha2 n2a nfa nfaa ⊢
    have sb2 : SameBut a H H2 := .of s02
    have back : ∀ {H' : Hp} {x : Addr}, SameBut a H H' → x ≠ a → H' x = none → H x = none := fun {H' x} s ne h => by
      cases e : H x with
      | none => rfl
      | some o => rw [s _ _ ne e] at h; cases h
    walk_at "ss"
    have htl : (kT d.tab).length ≤ 20 := by unfold kT; rw [List.length_map]; exact htb.len
    refine k_lockE hB2.ht True.intro fun od => ?_
    refine k_dc ?_
    refine k_keys ?_
    walk_at "ss"
    have nat' : f.a ≠ f.t := (DF.nds hB.nd).1
    have hFL : FldAt T (upd H2 f.t (.frz od (.dK (kT d.tab)))) f d true := by
      obtain ⟨dx0, h0⟩ := hF2
      exact ⟨dx0, by rw [upd_ne nat']; exact h0⟩
    refine k_fD hFL T.no_Disk_table (i := 1) (by decide +kernel) (by decide +kernel) rfl rfl ?_
    refine ⟨f.t, od, rfl, .inl ⟨kT d.tab, upd_same, ?_⟩⟩
    intro D nDn
    have ntD : f.t ≠ D := ne_of_none upd_same nDn
    have nD1 : H2 D = none := by rw [upd_ne (Ne.symm ntD)] at nDn; exact nDn
    refine dc_walk walk_keys (fun i H' => H' = upd (upd H2 f.t (.frz od (.dK (kT d.tab)))) D (.dK (kT (d.tab.take i)))) rfl ?_ ?_ ?_
    · rintro i H' _ rfl
      show upd _ D _ f.t = _
      rw [upd_ne ntD]
      exact upd_same
    · rintro i x H' H5 hi rfl ⟨rfl, key, vv, hx, rfl⟩
      obtain ⟨z, hz, rfl⟩ : ∃ z, d.tab[i]? = some z ∧ key = .inr z.1 := by
        unfold kT at hx
        rw [List.getElem?_map] at hx
        cases hh : d.tab[i]? with
        | none => rw [hh] at hx; cases hx
        | some z => rw [hh] at hx; cases hx; exact ⟨z, rfl, rfl⟩
      have gd : DGet (upd (upd H2 f.t (.frz od (.dK (kT d.tab)))) D (.dK (kT (d.tab.take i)))) f.t (.str z.1) (some (.str z.2)) := by
        refine .inl ⟨kT d.tab, .inr z.1, .inr ⟨od, ?_⟩, rfl, ?_⟩
        · rw [upd_ne ntD]; exact upd_same
        · rw [kT_val, getG_nd htb.nd (List.mem_of_getElem? hz)]; rfl
      have hFi := hFL.up (same_new (o := .dK (kT (d.tab.take i))) nDn)
      walk_at "ss"
      refine ⟨rfl, ?_⟩
      walk_at "ss"
      refine k_dget ?_
      walk_at "ss"
      refine k_fD hFi T.no_Disk_table (i := 1) (by decide +kernel) (by decide +kernel) rfl rfl ?_
      walk_at "ss"
      refine ⟨f.t, _, rfl, gd, ?_⟩
      refine ⟨_, .inr z.1, rfl, upd_same, small_lt (by unfold kT at htl ⊢; rw [List.length_map] at htl ⊢; rw [List.length_take]; omega), ?_⟩
      rw [upd_upd, kT_set, setG_take htb.nd hz]
    rintro H' rfl
    refine ⟨by rw [upd_ne ntD]; exact upd_same, ?_⟩
    rw [show (kT d.tab).length = d.tab.length from List.length_map .., List.take_length, unlock_eq hB2.ht (Ne.symm ntD)]
    have naD : a ≠ D := ne_of_none ha2 nD1
    have s3 := same_new (o := .dK (kT d.tab)) nD1
    have hD3 : upd H2 D (.dK (kT d.tab)) D = some (.dK (kT d.tab)) := upd_same
    have nHD := back sb2 (Ne.symm naD) nD1
    generalize upd H2 D (.dK (kT d.tab)) = H3 at s3 hD3 ⊢
    have ha3 := s3 _ _ ha2
    have sb3 := sb2.trans (.of s3)
    walk_at "ss"
    refine k_pO ha3 T.no_Disk_table (i := 1) (by decide +kernel) (by show 1 < 10; decide) (by decide) fun H4 ha4 e4 => ?_
    have sb4 := sb_eq sb3 e4
    have hD4 := (e4 D (Ne.symm naD)).trans hD3
    have hF4 := (hF2.up s3).eqs e4 nfaa
    have hB4 := (hB2.up s3).eqs e4 nfa ha3
    walk_at "ss"
    refine k_fD hF4 T.no_Disk_areas (i := 2) (by decide +kernel) (by decide +kernel) rfl rfl ?_
    refine k_iL (SqL.of hB4.har) ?_
    intro R nR
    have nRo : ∀ {x : Addr} {o : HO}, H4 x = some o → x ≠ R := fun h => ne_of_none h nR
    refine k_lcList [V.ref f.c0, V.ref f.c1] (fun i H' => Same H4 H' ∧ (i = 0 → H' R = some (.lst [])) ∧ (i = 1 → ∃ p, H' R = some (.lst [.ref p]) ∧ H4 p = none ∧ p ≠ R ∧ H' p = some (.lst (d.c0.map vO))) ∧ (i = 2 → ∃ p q, H' R = some (.lst [.ref p, .ref q]) ∧ H4 p = none ∧ H4 q = none ∧ p ≠ R ∧ q ≠ R ∧ p ≠ q ∧ H' p = some (.lst (d.c0.map vO)) ∧ H' q = some (.lst (d.c1.map vO)))) ⟨same_new nR, fun _ => upd_same, fun e => (by cases e), fun e => (by cases e)⟩ (fun i H' _ h => SqL.of (h.1 _ _ hB4.har)) ?_ ?_
    · rintro i x H' hx ⟨sm, h0, h1, h2⟩
      match i, hx with
      | 0, hx =>
        cases hx
        have hR := h0 rfl
        walk_at "ss"
        refine ⟨rfl, ?_⟩
        walk_at "ss"
        refine k_listL (SqL.of (sm _ _ hB4.h0)) fun p np => ?_
        have npR : p ≠ R := fun e => by rw [e, hR] at np; cases np
        refine ⟨_, (upd_ne (Ne.symm npR)).trans hR, by decide, same_put (sm.trans (same_new np)) nR, fun e => (by cases e), fun _ => ⟨p, upd_same, ?_, npR, (upd_ne npR).trans upd_same⟩, fun e => (by cases e)⟩
        cases e : H4 p with
        | none => rfl
        | some o => rw [sm _ _ e] at np; cases np
      | 1, hx =>
        cases hx
        obtain ⟨p, hR, np0, npR, hp⟩ := h1 rfl
        walk_at "ss"
        refine ⟨rfl, ?_⟩
        walk_at "ss"
        refine k_listL (SqL.of (sm _ _ hB4.h1)) fun q nq => ?_
        have nqR : q ≠ R := fun e => by rw [e, hR] at nq; cases nq
        have npq : p ≠ q := fun e => by rw [← e, hp] at nq; cases nq
        refine ⟨_, (upd_ne (Ne.symm nqR)).trans hR, small_lt (show 1 ≤ 1000000 by decide), same_put (sm.trans (same_new nq)) nR, fun e => (by cases e), fun e => (by cases e), fun _ => ⟨p, q, upd_same, np0, ?_, npR, nqR, npq, (upd_ne npR).trans ((upd_ne npq).trans hp), (upd_ne nqR).trans upd_same⟩⟩
        cases e : H4 q with
        | none => rfl
        | some o => rw [sm _ _ e] at nq; cases nq
      | i + 2, hx => cases hx
    rintro H5 ⟨s5, _, _, h2⟩
    obtain ⟨p, q, hR5, np, nq, npR, nqR, npq, hp5, hq5⟩ := h2 rfl
    have ha5 := s5 _ _ ha4
    have sb5 := sb4.trans (.of s5)
    have hD5 := s5 _ _ hD4
    have aR : a ≠ R := nRo ha4
    have ap : a ≠ p := ne_of_none ha4 np
    have aq : a ≠ q := ne_of_none ha4 nq
    have nHR := back sb4 (Ne.symm aR) nR
    have nHp := back sb4 (Ne.symm ap) np
    have nHq := back sb4 (Ne.symm aq) nq
    walk_at "ss"
    refine k_pO ha5 T.no_Disk_areas (i := 2) (by decide +kernel) (by show 2 < 10; decide) (by decide) fun H6 ha6 e6 => ?_
    have sb6 := sb_eq sb5 e6
    have hF6 := (hF4.up s5).eqs e6 nfaa
    have hB6 := (hB4.up s5).eqs e6 nfa ha5
    walk_at "ss"
    refine k_fD hF6 T.no_Disk_unsynced (i := 3) (by decide +kernel) (by decide +kernel) rfl rfl ?_
    walk_at "ss"
    refine k_listL (SqL.of hB6.hu.at_) fun u nu => ?_
    have s7 := same_new (o := .lst (l.map fun z => V.ref z.1)) nu
    have hu7 : upd H6 u (.lst (l.map fun z => V.ref z.1)) u = some (.lst (l.map fun z => V.ref z.1)) := upd_same
    have au : a ≠ u := ne_of_none ha6 nu
    have nHu := back sb6 (Ne.symm au) nu
    have nuo : ∀ {x : Addr} {o : HO}, x ≠ a → H5 x = some o → x ≠ u := fun {x o} ne h => ne_of_none ((e6 x ne).trans h) nu
    generalize upd H6 u (.lst (l.map fun z => V.ref z.1)) = H7 at s7 hu7 ⊢
    have ha7 := s7 _ _ ha6
    have sb7 := sb6.trans (.of s7)
    have hF7 := hF6.up s7
    have hB7 := hB6.up s7
    walk_at "ss"
    refine k_pO ha7 T.no_Disk_unsynced (i := 3) (by decide +kernel) (by show 3 < 10; decide) (by decide) fun H8 ha8 e8 => ?_
    have sb8 := sb_eq sb7 e8
    have hF8 := hF7.eqs e8 nfaa
    walk_at "ss"
    refine k_fT hF8 T.no_Disk_syncs (i := 4) (by decide +kernel) rfl ?_
    walk_at "ss"
    refine k_pO ha8 T.no_Disk_syncs (i := 4) (by decide +kernel) (by show 4 < 10; decide) (by decide) fun H9 ha9 e9 => ?_
    have sb9 := sb_eq sb8 e9
    have hF9 := hF8.eqs e9 nfaa
    walk_at "ss"
    refine k_fT hF9 T.no_Disk_fallen (i := 5) (by decide +kernel) rfl ?_
    walk_at "ss"
    refine k_pO ha9 T.no_Disk_fallen (i := 5) (by decide +kernel) (by show 5 < 10; decide) (by decide) fun H10 ha10 e10 => ?_
    have sb10 := sb_eq sb9 e10
    have hF10 := hF9.eqs e10 nfaa
    walk_at "ss"
    refine k_fT hF10 T.no_Disk_area (i := 6) (by decide +kernel) rfl ?_
    walk_at "ss"
    refine k_pO ha10 T.no_Disk_area (i := 6) (by decide +kernel) (by show 6 < 10; decide) (by decide) fun H11 ha11 e11 => ?_
    have sb11 := sb_eq sb10 e11
    have hF11 := hF10.eqs e11 nfaa
    walk_at "ss"
    refine k_fT hF11 T.no_Disk_generation (i := 7) (by decide +kernel) rfl ?_
    walk_at "ss"
    refine k_pO ha11 T.no_Disk_generation (i := 7) (by decide +kernel) (by show 7 < 10; decide) (by decide) fun H12 ha12 e12 => ?_
    have sb12 := sb_eq sb11 e12
    have hF12 := hF11.eqs e12 nfaa
    walk_at "ss"
    refine k_fT hF12 T.no_Disk_pieces (i := 8) (by decide +kernel) rfl ?_
    walk_at "ss"
    refine k_pO ha12 T.no_Disk_pieces (i := 8) (by decide +kernel) (by show 8 < 10; decide) (by decide) fun H13 ha13 e13 => ?_
    have sb13 := sb_eq sb12 e13
    have hF13 := hF12.eqs e13 nfaa
    walk_at "ss"
    refine k_fT hF13 T.no_Disk_rows (i := 9) (by decide +kernel) rfl ?_
    walk_at "ss"
    refine k_pO ha13 T.no_Disk_rows (i := 9) (by decide +kernel) (by show 9 < 10; decide) (by decide) fun H14 ha14 e14 => ?_
    have sb14 := sb_eq sb13 e14
    have hF14 := hF13.eqs e14 nfaa
    walk_at "ss"
    have e714 : ∀ x, x ≠ a → H14 x = H7 x := fun x ne => (e14 x ne).trans ((e13 x ne).trans ((e12 x ne).trans ((e11 x ne).trans ((e10 x ne).trans ((e9 x ne).trans (e8 x ne))))))
    have m7 : ∀ {x : Addr} {o : HO}, x ≠ a → H5 x = some o → H14 x = some o := fun {x o} ne h => (e714 x ne).trans (s7 _ _ ((e6 x ne).trans h))
    have aD := Ne.symm naD
    have nHa : H a = none := n2a
    refine k ⟨a, D, R, p, q, u⟩ H14 (fun x hx => ?_) (fun x o h => sb14 x o (fun e => by rw [e, n2a] at h; cases h) h) ⟨⟨dx, ?_⟩, l, ?_⟩
    · unfold DF.l at hx
      simp only [List.mem_cons, List.not_mem_nil, or_false] at hx
      rcases hx with rfl | rfl | rfl | rfl | rfl | rfl
      · exact nHa
      · exact nHD
      · exact nHR
      · exact nHp
      · exact nHq
      · exact nHu
    · show H14 a = some (.ins T.C_Disk dx (FL nD (vD ⟨a, D, R, p, q, u⟩ d)))
      rw [ha14]
      unfold vD
      rw [hmost]
      rfl
    · have DR : D ≠ R := nRo hD4
      have Dp : D ≠ p := ne_of_none hD4 np
      have Dq : D ≠ q := ne_of_none hD4 nq
      refine ⟨?_, m7 aD hD5, m7 (Ne.symm aR) hR5, m7 (Ne.symm ap) hp5, m7 (Ne.symm aq) hq5, ⟨(e714 _ (Ne.symm au)).trans hu7, fun z hz => ?_⟩, hB.eu⟩
      · show [a, D, R, p, q, u].Nodup
        simp only [List.nodup_cons, List.mem_cons, List.not_mem_nil, or_false, not_or, List.nodup_nil, and_true, not_false_eq_true]
        exact ⟨⟨naD, aR, ap, aq, au⟩, ⟨DR, Dp, Dq, nuo aD hD5⟩, ⟨Ne.symm npR, Ne.symm nqR, nuo (Ne.symm aR) hR5⟩, ⟨npq, nuo (Ne.symm ap) hp5⟩, nuo (Ne.symm aq) hq5⟩
      · have h7 := hB7.hu.ws z hz
        exact (e714 _ (ne_of h7 ha7 (by intro q; cases q))).trans h7
end

section
open TL
variable {w : World} {K : PySem.W.Frag} {mg : Str → Option Value} {base : Heap}
/-! ### the law's own disk -/
/-- a dict by names and values -/
def KLs (ns : List Str) (vs : List V) : List (Key × V) := kG (κ := Str) Sum.inr id (FL ns vs)
theorem setG_cons {κ α : Type} [DecidableEq κ] (n k : κ) (w v : α) (t : List (κ × α)) : setG ((n, w) :: t) k v = if n = k then (n, v) :: t.map (fun z => if z.1 = k then (z.1, v) else z) else (n, w) :: setG t k v := by
  unfold setG
  by_cases e : n = k
  · rw [if_pos e, if_pos (by simp [e]), List.map_cons, if_pos e]
  · rw [if_neg e]
    by_cases h : (t.any fun z => decide (z.1 = k)) = true
    · rw [if_pos (by simp only [List.any_cons, h, Bool.or_true]), if_pos h, List.map_cons, if_neg e]
    · rw [if_neg (by simpa [e] using h), if_neg h]
      rfl
theorem FL_keys {x : Str} : ∀ {ns : List Str} {vs : List V} {z : Str × V}, z ∈ FL ns vs → z.1 ∈ ns := fun {ns vs z} h => (List.of_mem_zip (show (z.1, z.2) ∈ ns.zip vs from h)).1
theorem set_old {x : Str} {v : V} : ∀ {ns : List Str} {vs : List V} {i : Nat}, pos? x ns = some i → ns.Nodup → i < vs.length → setG (FL ns vs) x v = FL ns (vs.set i v)
  | [], _, _, h, _, _ => by cases h
  | n :: r, [], i, h, _, hl => by simp at hl
  | n :: r, w :: ws, i, h, hn, hl => by
    unfold pos? at h
    rw [List.nodup_cons] at hn
    show setG ((n, w) :: FL r ws) x v = _
    rw [setG_cons]
    by_cases e : n = x
    · rw [if_pos (by rw [e]; simp)] at h
      cases h
      rw [if_pos e]
      show _ = (n, v) :: FL r ws
      congr 1
      have : ∀ z ∈ FL r ws, (if z.1 = x then (z.1, v) else z) = z := fun z hz => by
        rw [if_neg (fun q => hn.1 (by rw [e, ← q]; exact FL_keys (x := x) hz))]
      rw [List.map_congr_left this]
      simp
    · rw [if_neg (by simpa using e)] at h
      rw [if_neg e]
      cases hp : pos? x r with
      | none => rw [hp] at h; cases h
      | some j =>
        rw [hp] at h
        cases h
        rw [set_old hp hn.2 (by simpa using hl)]
        rfl
theorem set_new {x : Str} {v : V} {ns : List Str} {vs : List V} (hl : ns.length = vs.length) (hn : x ∉ ns) : setG (FL ns vs) x v = FL (ns ++ [x]) (vs ++ [v]) := by
  rw [setG_new (fun z hz q => hn (by rw [← q]; exact FL_keys (x := x) hz))]
  show ns.zip vs ++ [(x, v)] = (ns ++ [x]).zip (vs ++ [v])
  rw [List.zip_append hl]
  rfl
theorem inrI : ∀ a b : Str, (Sum.inr a : Key) = .inr b → a = b := fun _ _ => Sum.inr.inj
theorem put_KLo {x : Str} {v : V} {ns : List Str} {vs : List V} {i : Nat} (hp : pos? x ns = some i) (hn : ns.Nodup) (hl : i < vs.length) : putK (KLs ns vs) (.inr x) v = KLs ns (vs.set i v) := by
  unfold KLs
  rw [← set_old hp hn hl]
  exact put_kG (fk := Sum.inr) (fv := id) inrI _ _ _
theorem put_KLn {x : Str} {v : V} {ns : List Str} {vs : List V} (hl : ns.length = vs.length) (hn : x ∉ ns) : putK (KLs ns vs) (.inr x) v = KLs (ns ++ [x]) (vs ++ [v]) := by
  unfold KLs
  rw [← set_new hl hn]
  exact put_kG (fk := Sum.inr) (fv := id) inrI _ _ _
theorem get_FL {x : Str} : ∀ {ns : List Str} {vs : List V} {i : Nat} {v : V}, pos? x ns = some i → vs[i]? = some v → getG (FL ns vs) x = some v
  | [], _, _, _, h, _ => by cases h
  | n :: r, [], i, v, h, hv => by simp at hv
  | n :: r, w :: ws, i, v, h, hv => by
    unfold pos? at h
    unfold getG
    show (List.find? _ ((n, w) :: FL r ws)).map _ = _
    by_cases e : n = x
    · rw [if_pos (by rw [e]; simp)] at h
      cases h
      simp only [List.getElem?_cons_zero, Option.some.injEq] at hv
      simp [List.find?_cons, e, hv]
    · rw [if_neg (by simpa using e)] at h
      cases hp : pos? x r with
      | none => rw [hp] at h; cases h
      | some j =>
        rw [hp] at h
        cases h
        have := get_FL (ns := r) (vs := ws) hp (by simpa using hv)
        unfold getG at this
        simpa [List.find?_cons, e] using this
theorem DGet.kl {H : Hp} {o : Addr} {ns : List Str} {vs : List V} {x : Str} {i : Nat} {v : V} (h : H o = some (.dK (KLs ns vs))) (hp : pos? x ns = some i) (hv : vs[i]? = some v) : DGet H o (.str x) (some v) := by
  have := DGet.k (k := Sum.inr x) h
  rw [show valV (KLs ns vs) (.inr x) = some v by
    unfold KLs
    rw [val_kG (fk := Sum.inr) (fv := id) inrI, get_FL hp hv]
    rfl] at this
  exact this
theorem KLs_len (ns : List Str) (vs : List V) : (KLs ns vs).length ≤ ns.length := by
  unfold KLs kG
  rw [List.length_map]
  exact fl_len
/-- d[x] = v, x there -/
theorem k_klo {H : Hp} {o : Addr} {ns : List Str} {vs : List V} {x : Str} {i : Nat} {v : V} {Q : Hp → Prop} (h : H o = some (.dK (KLs ns vs))) (hp : pos? x ns = some i) (hn : ns.Nodup) (hl : i < vs.length) (hs : ns.length ≤ 1000)
    (q : ∀ H', H' o = some (.dK (KLs ns (vs.set i v))) → (∀ y, y ≠ o → H' y = H y) → Q H') : rSetD (.ref o) (.str x) v H Q :=
  k_setD (DPut.k (k := .inr x) h (small_lt (Nat.le_trans (KLs_len _ _) (by omega)))) (q _ (by rw [upd_same, put_KLo hp hn hl]) fun y hy => upd_ne hy)
theorem k_kln {H : Hp} {o : Addr} {ns : List Str} {vs : List V} {x : Str} {v : V} {Q : Hp → Prop} (h : H o = some (.dK (KLs ns vs))) (hl : ns.length = vs.length) (hn : x ∉ ns) (hs : ns.length ≤ 1000)
    (q : ∀ H', H' o = some (.dK (KLs (ns ++ [x]) (vs ++ [v]))) → (∀ y, y ≠ o → H' y = H y) → Q H') : rSetD (.ref o) (.str x) v H Q :=
  k_setD (DPut.k (k := .inr x) h (small_lt (Nat.le_trans (KLs_len _ _) (by omega)))) (q _ (by rw [upd_same, put_KLn hl hn]) fun y hy => upd_ne hy)
/-! cells in a dict -/
theorem getG_cons {κ α : Type} [DecidableEq κ] (n j : κ) (w : α) (t : List (κ × α)) : getG ((n, w) :: t) j = if n = j then some w else getG t j := by
  unfold getG
  by_cases e : n = j
  · rw [if_pos e]; simp [e]
  · rw [if_neg e]; simp [e]
theorem getG_map {κ α : Type} [DecidableEq κ] {n j : κ} {v : α} (e : ¬ n = j) : ∀ t : List (κ × α), getG (t.map fun z => if z.1 = n then (z.1, v) else z) j = getG t j
  | [] => rfl
  | (m, w) :: t => by
    have ih := getG_map (v := v) e t
    rw [List.map_cons]
    by_cases h : m = n
    · rw [if_pos h, getG_cons, getG_cons, if_neg (by rw [h]; exact e), if_neg (by rw [h]; exact e), ih]
    · rw [if_neg h, getG_cons, getG_cons, ih]
theorem getG_set {κ α : Type} [DecidableEq κ] (k j : κ) (v : α) : ∀ t : List (κ × α), getG (setG t k v) j = if j = k then some v else getG t j
  | [] => by
    show getG [(k, v)] j = _
    rw [getG_cons]
    by_cases e : k = j
    · rw [if_pos e, if_pos e.symm]
    · rw [if_neg e, if_neg (Ne.symm e)]
  | (n, w) :: t => by
    have ih := getG_set k j v t
    rw [setG_cons, getG_cons]
    by_cases e : n = k
    · rw [if_pos e, getG_cons]
      by_cases e2 : n = j
      · rw [if_pos e2, if_pos (e2.symm.trans e)]
      · rw [if_neg e2, if_neg (fun q => e2 (e.trans q.symm)), if_neg e2, ← e, getG_map e2]
    · rw [if_neg e, getG_cons, ih]
      by_cases e2 : n = j
      · rw [if_pos e2, if_neg (fun q => e (e2.trans q)), if_pos e2]
      · rw [if_neg e2, if_neg e2]
abbrev CT := List (Nat × Str)
def kN (e : CT) : List (Key × V) := kG (κ := Nat) (fun n => Sum.inl (n : Int)) V.str e
theorem inlI : ∀ a b : Nat, (Sum.inl (a : Int) : Key) = .inl b → a = b := fun a b h => by have := Sum.inl.inj h; omega
structure CellsOf (e : CT) (c : List (Option Str)) : Prop where
  nd : (e.map (·.1)).Nodup
  g : ∀ k, getG e k = (c[k]?).join
  last : c = [] ∨ ∃ z, c[c.length - 1]? = some (some z)
theorem getC_put {c : List (Option Str)} {i : Nat} {z : Str} (k : Nat) : ((putC c i z)[k]?).join = if k = i then some z else (c[k]?).join := by
  unfold putC
  split
  · rename_i h
    by_cases e : k = i
    · rw [if_pos e, e, List.getElem?_set_self h]; rfl
    · rw [if_neg e, List.getElem?_set_ne (Ne.symm e)]
  · rename_i h
    have hl : (c ++ List.replicate (i - c.length) none).length = i := by rw [List.length_append, List.length_replicate]; omega
    by_cases e : k = i
    · subst e
      rw [if_pos rfl, List.getElem?_append_right (by omega), hl, Nat.sub_self]
      rfl
    · rw [if_neg e]
      by_cases h2 : k < i
      · rw [List.getElem?_append_left (by omega)]
        by_cases h3 : k < c.length
        · rw [List.getElem?_append_left h3]
        · rw [List.getElem?_append_right (by omega), List.getElem?_replicate, if_pos (by omega), List.getElem?_eq_none (by omega)]
          rfl
      · rw [List.getElem?_eq_none (by rw [List.length_append, hl]; show i + 1 ≤ k; omega), List.getElem?_eq_none (by omega)]
theorem CellsOf.put {e : CT} {c : List (Option Str)} (h : CellsOf e c) (i : Nat) (z : Str) : CellsOf (setG e i z) (putC c i z) := by
  refine ⟨setG_nd h.nd, fun k => ?_, .inr ?_⟩
  · rw [getG_set, getC_put, h.g k]
  · rw [putC_len]
    unfold putC
    split
    · rename_i hl
      rw [show max c.length (i + 1) - 1 = c.length - 1 by omega]
      by_cases e : i = c.length - 1
      · exact ⟨z, by rw [← e, List.getElem?_set_self hl]⟩
      · rw [List.getElem?_set_ne e]
        rcases h.last with h | h
        · rw [h] at hl; cases hl
        · exact h
    · rename_i hl
      refine ⟨z, ?_⟩
      have h2 : (c ++ List.replicate (i - c.length) none).length = i := by rw [List.length_append, List.length_replicate]; omega
      rw [show max c.length (i + 1) - 1 = i by omega, List.getElem?_append_right (by omega), h2, Nat.sub_self]
      rfl
theorem kN_put (e : CT) (i : Nat) (z : Str) : putK (kN e) (.inl (i : Nat)) (.str z) = kN (setG e i z) := put_kG (fk := fun n : Nat => Sum.inl (n : Int)) (fv := V.str) inlI e i z
theorem kN_val (e : CT) (i : Nat) : valV (kN e) (.inl (i : Nat)) = (getG e i).map V.str := val_kG (fk := fun n : Nat => Sum.inl (n : Int)) (fv := V.str) inlI i e
structure OF where
  o : Addr
  sh : Addr
  hd : Addr
  k0 : Addr
  k1 : Addr
  op : Addr
def OF.l (g : OF) : List Addr := [g.o, g.sh, g.hd, g.k0, g.k1, g.op]
abbrev nO : List Str := ["shelf", "most", "side", "gen", "pieces", "count", "soft", "hard", "open", "syncs"]
theorem nO_nd : nO.Nodup := by decide +kernel
def vOw (g : OF) (s : DS) : List V := [.ref g.sh, .int s.most, .int (s.area : Nat), .int (s.gen : Nat), .int (s.pieces : Nat), .int (s.rows : Nat), .bl s.soft, .ref g.hd, .ref g.op, .int (s.syncs : Nat)]
/-- all of it but its own dict -/
structure OwnB (H : Hp) (g : OF) (s : DS) (e0 e1 : CT) (l : UL) : Prop where
  nd : g.l.Nodup
  hs : H g.sh = some (.dK (kT s.tab))
  hh : H g.hd = some (.lst [.ref g.k0, .ref g.k1])
  h0 : H g.k0 = some (.dK (kN e0))
  h1 : H g.k1 = some (.dK (kN e1))
  q0 : CellsOf e0 s.c0
  q1 : CellsOf e1 s.c1
  hu : UnsAt H g.op l
  eu : l.map (·.2) = s.uns
structure OwnAt (H : Hp) (g : OF) (s : DS) : Prop where
  ho : H g.o = some (.dK (KLs nO (vOw g s)))
  b : ∃ e0 e1 l, OwnB H g s e0 e1 l
theorem OF.nds {f : OF} (h : f.l.Nodup) : f.o ≠ f.sh ∧ f.o ≠ f.hd ∧ f.o ≠ f.k0 ∧ f.o ≠ f.k1 ∧ f.o ≠ f.op ∧ f.sh ≠ f.hd ∧ f.sh ≠ f.k0 ∧ f.sh ≠ f.k1 ∧ f.sh ≠ f.op ∧ f.hd ≠ f.k0 ∧ f.hd ≠ f.k1 ∧ f.hd ≠ f.op ∧ f.k0 ≠ f.k1 ∧ f.k0 ≠ f.op ∧ f.k1 ≠ f.op := by
  unfold OF.l at h
  simp only [List.nodup_cons, List.mem_cons, List.not_mem_nil, or_false, not_or] at h
  obtain ⟨⟨h1, h2, h3, h4, h5⟩, ⟨h6, h7, h8, h9⟩, ⟨h10, h11, h12⟩, ⟨h13, h14⟩, h15, _⟩ := h
  exact ⟨h1, h2, h3, h4, h5, h6, h7, h8, h9, h10, h11, h12, h13, h14, h15⟩
theorem OF.nd_of {f : OF} (h : f.o ≠ f.sh ∧ f.o ≠ f.hd ∧ f.o ≠ f.k0 ∧ f.o ≠ f.k1 ∧ f.o ≠ f.op ∧ f.sh ≠ f.hd ∧ f.sh ≠ f.k0 ∧ f.sh ≠ f.k1 ∧ f.sh ≠ f.op ∧ f.hd ≠ f.k0 ∧ f.hd ≠ f.k1 ∧ f.hd ≠ f.op ∧ f.k0 ≠ f.k1 ∧ f.k0 ≠ f.op ∧ f.k1 ≠ f.op) : f.l.Nodup := by
  obtain ⟨h1, h2, h3, h4, h5, h6, h7, h8, h9, h10, h11, h12, h13, h14, h15⟩ := h
  unfold OF.l
  simp only [List.nodup_cons, List.mem_cons, List.not_mem_nil, or_false, not_or, List.nodup_nil, and_true, not_false_eq_true]
  exact ⟨⟨h1, h2, h3, h4, h5⟩, ⟨h6, h7, h8, h9⟩, ⟨h10, h11, h12⟩, ⟨h13, h14⟩, h15⟩
/-- none of F is a tuple -/
def NoT (H : Hp) (F : List Addr) : Prop := ∀ x ∈ F, ∀ xs, H x ≠ some (.tup xs)
theorem DiskAt.live {T : Tx K mg} {H : Hp} {f : DF} {s : DS} (h : DiskAt T H f s) : ∀ x ∈ f.l, ∃ o, H x = some o ∧ ∀ xs, o ≠ .tup xs := fun x hx => by
  obtain ⟨⟨dx, ha⟩, l, hB⟩ := h
  unfold DF.l at hx
  simp only [List.mem_cons, List.not_mem_nil, or_false] at hx
  rcases hx with rfl | rfl | rfl | rfl | rfl | rfl
  · exact ⟨_, ha, fun xs q => by cases q⟩
  · exact ⟨_, hB.ht, fun xs q => by cases q⟩
  · exact ⟨_, hB.har, fun xs q => by cases q⟩
  · exact ⟨_, hB.h0, fun xs q => by cases q⟩
  · exact ⟨_, hB.h1, fun xs q => by cases q⟩
  · exact ⟨_, hB.hu.at_, fun xs q => by cases q⟩
theorem OwnAt.live {H : Hp} {g : OF} {s : DS} (h : OwnAt H g s) : ∀ x ∈ g.l, ∃ o, H x = some o ∧ ∀ xs, o ≠ .tup xs := fun x hx => by
  obtain ⟨ho, e0, e1, l, hB⟩ := h
  unfold OF.l at hx
  simp only [List.mem_cons, List.not_mem_nil, or_false] at hx
  rcases hx with rfl | rfl | rfl | rfl | rfl | rfl
  · exact ⟨_, ho, fun xs q => by cases q⟩
  · exact ⟨_, hB.hs, fun xs q => by cases q⟩
  · exact ⟨_, hB.hh, fun xs q => by cases q⟩
  · exact ⟨_, hB.h0, fun xs q => by cases q⟩
  · exact ⟨_, hB.h1, fun xs q => by cases q⟩
  · exact ⟨_, hB.hu.at_, fun xs q => by cases q⟩
theorem NoT.of {H : Hp} {F : List Addr} (h : ∀ x ∈ F, ∃ o, H x = some o ∧ ∀ xs, o ≠ .tup xs) : NoT H F := fun x hx xs e => by
  obtain ⟨o, ho, hn⟩ := h x hx
  rw [ho] at e
  exact hn xs (Option.some.inj e)
theorem DiskAt.fr {T : Tx K mg} {H H' : Hp} {f : DF} {s : DS} {F : List Addr} (h : DiskAt T H f s) (fr : Fr F H H') (dis : ∀ x ∈ f.l, x ∉ F) (nt : NoT H F) : DiskAt T H' f s := by
  obtain ⟨⟨dx, ha⟩, l, hB⟩ := h
  have d : ∀ {x : Addr} {o : HO}, x ∈ f.l → H x = some o → H' x = some o := fun hx e => fr _ _ e (dis _ hx)
  exact ⟨⟨dx, d (by simp [DF.l]) ha⟩, l, hB.nd, d (by simp [DF.l]) hB.ht, d (by simp [DF.l]) hB.har, d (by simp [DF.l]) hB.h0, d (by simp [DF.l]) hB.h1, hB.hu.fr fr nt (dis _ (by simp [DF.l])), hB.eu⟩
theorem OwnB.fr {H H' : Hp} {g : OF} {s : DS} {F : List Addr} {e0 e1 : CT} {l : UL} (hB : OwnB H g s e0 e1 l) (fr : Fr F H H') (dis : ∀ x ∈ g.l, x ≠ g.o → x ∉ F) (nt : NoT H F) : OwnB H' g s e0 e1 l := by
  obtain ⟨n1, n2, n3, n4, n5, _⟩ := OF.nds hB.nd
  have d : ∀ {x : Addr} {o : HO}, x ∈ g.l → x ≠ g.o → H x = some o → H' x = some o := fun hx ne e => fr _ _ e (dis _ hx ne)
  exact ⟨hB.nd, d (by simp [OF.l]) (Ne.symm n1) hB.hs, d (by simp [OF.l]) (Ne.symm n2) hB.hh, d (by simp [OF.l]) (Ne.symm n3) hB.h0, d (by simp [OF.l]) (Ne.symm n4) hB.h1, hB.q0, hB.q1, hB.hu.fr fr nt (dis _ (by simp [OF.l]) (Ne.symm n5)), hB.eu⟩
theorem OwnAt.fr {H H' : Hp} {g : OF} {s : DS} {F : List Addr} (h : OwnAt H g s) (fr : Fr F H H') (dis : ∀ x ∈ g.l, x ∉ F) (nt : NoT H F) : OwnAt H' g s := by
  obtain ⟨ho, e0, e1, l, hB⟩ := h
  exact ⟨fr _ _ ho (dis _ (by simp [OF.l])), e0, e1, l, hB.fr fr (fun x hx _ => dis x hx) nt⟩
theorem DiskAt.up {T : Tx K mg} {H H' : Hp} {f : DF} {s : DS} (h : DiskAt T H f s) (e : Same H H') : DiskAt T H' f s := ⟨h.at_.up e, let ⟨l, b⟩ := h.b; ⟨l, b.up e⟩⟩
theorem OwnB.up {H H' : Hp} {g : OF} {s : DS} {e0 e1 : CT} {l : UL} (h : OwnB H g s e0 e1 l) (e : Same H H') : OwnB H' g s e0 e1 l := ⟨h.nd, e _ _ h.hs, e _ _ h.hh, e _ _ h.h0, e _ _ h.h1, h.q0, h.q1, h.hu.up e, h.eu⟩
theorem OwnAt.up {H H' : Hp} {g : OF} {s : DS} (h : OwnAt H g s) (e : Same H H') : OwnAt H' g s := ⟨e _ _ h.ho, let ⟨e0, e1, l, b⟩ := h.b; ⟨e0, e1, l, b.up e⟩⟩
end

section
open TL
variable {w : World} {K : PySem.W.Frag} {mg : Str → Option Value} {base : Heap}
/-! ### the law's texts and copies -/
def spCut : Sp := fun vs H Q _ => ∃ z : Str, vs = [.str z] ∧ z.length ≤ 100000 ∧ ∀ (L : Addr) (H' : Hp), H L = none → Same H H' → H' L = some (.lst ((cutZ z).map V.str)) → Q (.ref L) H'
theorem ok_cut (T : Tx K mg) : FnOk P w K mg base CX0 1 T.a_cut T.fd_cut P_cut spCut := by
  refine T.F_cut.ok sc_cut (fun vs H Q E h => ?_) (fun cdv A outer s H vs Q E hr h => ?_)
  · obtain ⟨z, rfl, _⟩ := h
    rfl
  · obtain ⟨z, rfl, hz, k⟩ := h
    have nd := sc_cut.nd
    refine ⟨_, (pss_one (ps_ret (pe_lc (own := [("_law_k", 1)]) rfl nd (pi_range3 g_cut_range T.n_range (pa_cons pe_int (pa_cons (kcB b_len (by decide) (by decide) (kc_len K) g_cut_len T.n_len (pa_cons (kv (i := 0) v_cut_law_text) pa_nil)) (pa_cons pe_int pa_nil)))) ok_cs_cut_1 (fun _ _ _ _ _ => (kgL (i := 1) nd l_cut_1_law_k)) (fun _ _ _ _ _ => pts_nil) (fun _ _ _ _ _ => (pe_slice sl_str (kv (i := 0) v_cut_1_law_text) (po_some (kv (i := 1) v_cut_1_law_k)) (po_some (pe_op kop_add (kv (i := 1) v_cut_1_law_k) pe_int))))))), ?_⟩
    have hzs : z.length ≤ sizeLine := small_size (by omega)
    have hcn : cutN z ≤ 100000 := by unfold cutN; omega
    walk_at "ss"
    refine k_iRng3 ?_
    walk_at "ss"
    refine k_lenS hzs ?_
    walk_at "ss"
    refine ⟨0, (z.length : Nat), 60, cutN z, rfl, rgc_60 hz, ?_⟩
    intro D nD
    refine k_lcIt walk_rangeC (fun i H' => H' D = some (.lst (((List.range i).map fun i => cutS z (some ((0 : Int) + (i : Nat) * 60)) (some ((0 : Int) + (i : Nat) * 60 + 60))).map V.str)) ∧ Same H H') ⟨upd_same, same_new nD⟩ (fun _ _ _ _ => True.intro) ?_ ?_
    · rintro i x H1 H2 hi ⟨hD, sm⟩ ⟨rfl, rfl⟩
      walk_at "ss"
      refine ⟨rfl, ?_⟩
      walk_at "ss"
      refine k_slS hzs ?_
      refine ⟨_, hD, small_lt (by simp only [List.length_map, List.length_range]; omega), ?_, same_put sm nD⟩
      rw [upd_same, List.range_succ, List.map_append, List.map_append]
      rfl
    · rintro H1 ⟨hD, sm⟩
      exact k D H1 nD sm hD
theorem getC_G (cs : CsL) (k : Str) : getC cs k = getG cs k := rfl
theorem getC_tab (t : Tab) (k : Str) : getC (tabC t) k = (getG t k).map some := by
  induction t with
  | nil => rfl
  | cons z t ih =>
    obtain ⟨n, v⟩ := z
    show getG ((n, some v) :: tabC t) k = _
    rw [getG_cons, getG_cons]
    split
    · rfl
    · exact ih
def spWritten : Sp := fun vs H Q _ => ∃ (d : Addr) (t : Tab), vs = [.ref d] ∧ H d = some (.dK (kT t)) ∧ TabOk t ∧ ∀ (z : Str) (H' : Hp), TextOf (tabC t) z → Same H H' → Q (.str z) H'
theorem ok_written (T : Tx K mg) : FnOk P w K mg base CX0 1 T.a_written T.fd_written P_written spWritten := by
  refine T.F_written.ok sc_written (fun vs H Q E h => ?_) (fun cdv A outer s H vs Q E hr h => ?_)
  · obtain ⟨d, t, rfl, _⟩ := h
    rfl
  · obtain ⟨d, t, rfl, hd, ht, k⟩ := h
    have nd := sc_written.nd
    have hl20 := ht.len
    have hcs := ht.ch.cs
    refine ⟨_, (pss_one (ps_ret (kpe_join K pe_str (pe_lc (own := [("_law_key_here", 1)]) rfl nd (kpi_list K (kcB b_sorted (by decide) (by decide) (call_sortedD rfl) g_written_sorted T.n_sorted (pa_cons (kv (i := 0) v_written_law_shelf_here) pa_nil))) ok_cs_written_1 (fun _ _ _ _ _ => (kgL (i := 1) nd l_written_1_law_key_here)) (fun _ _ _ _ _ => pts_nil) (fun _ _ _ _ _ => (pe_joined (.cons (pe_fmt (kv (i := 1) v_written_1_law_key_here)) (.cons pe_str (.cons (pe_fmt (pe_dget (hu_of hr) (kv (i := 0) v_written_1_law_shelf_here) (kv (i := 1) v_written_1_law_key_here) (fun _ _ => rfl))) (.cons pe_str .nil)))))))))), ?_⟩
    walk_at "ss"
    refine ⟨d, kT t, t.map (·.1), rfl, .inl hd, by simp [kT], by rw [List.length_map]; omega, fun ys q hp hs nq => ?_⟩
    generalize eL : upd H q _ = H1
    have s1 := upd_sm eL nq
    have hq := upd_at eL
    clear eL
    have hd1 := s1 _ _ hd
    have hyl : ys.length ≤ 20 := by have := hp.length_eq; rw [List.length_map] at this; omega
    refine k_iL (SqL.of hq) ?_
    intro D nD
    have hp' : ys.Perm ((tabC t).map (·.1)) := by
      have : (tabC t).map (·.1) = t.map (·.1) := by unfold tabC; rw [List.map_map]; rfl
      rw [this]; exact hp
    refine k_lcList (ys.map V.str) (fun i H' => H' D = some (.lst (((ys.take i).map fun k => partT k ((getC (tabC t) k).getD none)).map V.str)) ∧ Same H1 H') ⟨upd_same, same_new nD⟩ (fun i H' _ h => SqL.of (h.2 _ _ hq)) ?_ ?_
    · rintro i x H' hx ⟨hDi, sm⟩
      rw [List.getElem?_map] at hx
      obtain ⟨y, hy, rfl⟩ := Option.map_eq_some_iff.mp hx
      have hil := (List.getElem?_eq_some_iff.mp hy).1
      obtain ⟨v, hv⟩ := getG_key (hp.mem_iff.mp (List.mem_of_getElem? hy))
      have hvm := ht.k _ (getG_mem hv)
      have hk16 : y.length ≤ 16 := key9_len _ hvm.1
      have hv3 : v.length ≤ 300 := hvm.2
      have gd := DGet.k (k := Sum.inr y) (sm _ _ hd1)
      rw [kT_val, hv] at gd
      have l2 : ("=" : Str).length = 1 := by decide +kernel
      have l3 : (";" : Str).length = 1 := by decide +kernel
      walk_at "ss"
      refine ⟨rfl, ?_⟩
      walk_at "ss"
      refine k_fmtS (by omega) ?_
      refine k_jsV (by simp only [PySem.Str.length_append, len_empty]; omega) ?_
      walk_at "ss"
      refine k_jsV (by simp only [PySem.Str.length_append, len_empty, l2]; omega) ?_
      walk_at "ss"
      refine k_dget ?_
      walk_at "ss"
      refine ⟨d, _, rfl, gd, ?_⟩
      refine k_fmtS (by omega) ?_
      refine k_jsV (by simp only [PySem.Str.length_append, len_empty, l2]; omega) ?_
      walk_at "ss"
      refine k_jsV (by simp only [PySem.Str.length_append, len_empty, l2, l3]; omega) ?_
      walk_at "ss"
      refine ⟨_, hDi, small_lt (by simp only [List.length_map, List.length_take]; omega), ?_, same_put sm nD⟩
      rw [upd_same, List.take_add_one, hy]
      simp [getC_tab, hv, partT]
    · rintro H' ⟨hDi, sm⟩
      rw [List.length_map, List.take_length] at hDi
      have hps := parts_sum hcs hp'
      refine k_joinL (SqL.of hDi) (by show _ + _ * 0 ≤ _; omega) fun out eout => ?_
      exact k out H' ⟨ys, hp', hs, eout⟩ (s1.trans sm)
def spRecorded : Sp := fun vs H Q _ => ∃ (d : Addr) (cs : CsL), vs = [.ref d] ∧ H d = some (.dK (kC cs)) ∧ CsOk cs ∧ ∀ (z : Str) (H' : Hp), TextOf cs z → Same H H' → Q (.str z) H'
theorem ok_recorded (T : Tx K mg) : FnOk P w K mg base CX0 1 T.a_recorded T.fd_recorded P_recorded spRecorded := by
  refine T.F_recorded.ok sc_recorded (fun vs H Q E h => ?_) (fun cdv A outer s H vs Q E hr h => ?_)
  · obtain ⟨d, cs, rfl, _⟩ := h
    rfl
  · obtain ⟨d, cs, rfl, hd, ok, k⟩ := h
    have nd := sc_recorded.nd
    have hl20 := ok.len
    refine ⟨_, (pss_one (ps_ret (kpe_join K pe_str (pe_lc (own := [("_law_key_here", 1)]) rfl nd (kpi_list K (kcB b_sorted (by decide) (by decide) (call_sortedD rfl) g_recorded_sorted T.n_sorted (pa_cons (kv (i := 0) v_recorded_law_pairs_here) pa_nil))) ok_cs_recorded_1 (fun _ _ _ _ _ => (kgL (i := 1) nd l_recorded_1_law_key_here)) (fun _ _ _ _ _ => pts_nil) (fun _ _ _ _ _ => (pe_ifExp (pt_cmpR op_isN (pe_dget (hu_of hr) (kv (i := 0) v_recorded_1_law_pairs_here) (kv (i := 1) v_recorded_1_law_key_here) (fun _ _ => rfl)) pe_non (nomark _)) (pe_joined (.cons (pe_fmt (kv (i := 1) v_recorded_1_law_key_here)) (.cons pe_str .nil))) (pe_joined (.cons (pe_fmt (kv (i := 1) v_recorded_1_law_key_here)) (.cons pe_str (.cons (pe_fmt (pe_dget (hu_of hr) (kv (i := 0) v_recorded_1_law_pairs_here) (kv (i := 1) v_recorded_1_law_key_here) (fun _ _ => rfl))) (.cons pe_str .nil))))))))))), ?_⟩
    walk_at "ss"
    refine ⟨d, kC cs, cs.map (·.1), rfl, .inl hd, by simp [kC], by rw [List.length_map]; omega, fun ys q hp hs nq => ?_⟩
    generalize eL : upd H q _ = H1
    have s1 := upd_sm eL nq
    have hq := upd_at eL
    clear eL
    have hd1 := s1 _ _ hd
    have hyl : ys.length ≤ 20 := by have := hp.length_eq; rw [List.length_map] at this; omega
    refine k_iL (SqL.of hq) ?_
    intro D nD
    refine k_lcList (ys.map V.str) (fun i H' => H' D = some (.lst (((ys.take i).map fun k => partT k ((getC cs k).getD none)).map V.str)) ∧ Same H1 H') ⟨upd_same, same_new nD⟩ (fun i H' _ h => SqL.of (h.2 _ _ hq)) ?_ ?_
    · rintro i x H' hx ⟨hDi, sm⟩
      rw [List.getElem?_map] at hx
      obtain ⟨y, hy, rfl⟩ := Option.map_eq_some_iff.mp hx
      have hil := (List.getElem?_eq_some_iff.mp hy).1
      obtain ⟨o, ho, hm⟩ := getC_some (hp.mem_iff.mp (List.mem_of_getElem? hy))
      have hk16 : y.length ≤ 16 := ok.k16 _ hm
      have gd := DGet.k (k := Sum.inr y) (sm _ _ hd1)
      rw [val_kC, ho] at gd
      have l1 : ("!;" : Str).length = 2 := by decide +kernel
      have l2 : ("=" : Str).length = 1 := by decide +kernel
      have l3 : (";" : Str).length = 1 := by decide +kernel
      have fin : ∀ out : Str, out = partT y o → ∃ acc, H' D = some (.lst acc) ∧ acc.length < sizeLine ∧ (upd H' D (.lst (acc ++ [V.str out]))) D = some (.lst (((ys.take (i + 1)).map fun k => partT k ((getC cs k).getD none)).map V.str)) ∧ Same H1 (upd H' D (.lst (acc ++ [V.str out]))) := fun out e => by
        refine ⟨_, hDi, small_lt (by simp only [List.length_map, List.length_take]; omega), ?_, same_put sm nD⟩
        rw [upd_same, List.take_add_one, hy, e]
        simp [ho]
      walk_at "ss"
      refine ⟨rfl, ?_⟩
      walk_at "ss"
      refine k_dget ?_
      walk_at "ss"
      refine ⟨d, _, rfl, gd, ?_⟩
      refine ⟨rfl, ?_⟩
      refine ⟨_, rfl, ?_⟩
      cases o with
      | none =>
        refine k_dt rfl ?_
        walk_at "ss"
        refine k_fmtS (by omega) ?_
        refine k_jsV (by simp only [PySem.Str.length_append, len_empty]; omega) ?_
        walk_at "ss"
        refine k_jsV (by simp only [PySem.Str.length_append, len_empty, l1]; omega) ?_
        walk_at "ss"
        exact fin _ rfl
      | some v =>
        have hv3 := ok.v300 _ hm v rfl
        refine k_df (fun e => by cases e) ?_
        walk_at "ss"
        refine k_fmtS (by omega) ?_
        refine k_jsV (by simp only [PySem.Str.length_append, len_empty]; omega) ?_
        walk_at "ss"
        refine k_jsV (by simp only [PySem.Str.length_append, len_empty, l2]; omega) ?_
        walk_at "ss"
        refine k_dget ?_
        walk_at "ss"
        refine ⟨d, _, rfl, gd, ?_⟩
        refine k_fmtS (by omega) ?_
        refine k_jsV (by simp only [PySem.Str.length_append, len_empty, l2]; omega) ?_
        walk_at "ss"
        refine k_jsV (by simp only [PySem.Str.length_append, len_empty, l2, l3]; omega) ?_
        walk_at "ss"
        exact fin _ rfl
    · rintro H' ⟨hDi, sm⟩
      rw [List.length_map, List.take_length] at hDi
      have hps := parts_sum ok hp
      refine k_joinL (SqL.of hDi) (by show _ + _ * 0 ≤ _; omega) fun out eout => ?_
      exact k out H' ⟨ys, hp, hs, eout⟩ (s1.trans sm)
def spCopy : Sp := fun vs H Q _ => ∃ (d : Addr) (kvs : List (Key × V)), vs = [.ref d] ∧ H d = some (.dK kvs) ∧ (kvs.map (·.1)).Nodup ∧ kvs.length ≤ 5000 ∧ ∀ (D : Addr) (H' : Hp), H D = none → Same H H' → H' D = some (.dK kvs) → Q (.ref D) H'
theorem ok_copy (T : Tx K mg) : FnOk P w K mg base CX0 1 T.a_copy T.fd_copy P_copy spCopy := by
  refine T.F_copy.ok sc_copy (fun vs H Q E h => ?_) (fun cdv A outer s H vs Q E hr h => ?_)
  · obtain ⟨d, kvs, rfl, _⟩ := h
    rfl
  · obtain ⟨d, kvs, rfl, hd, hn, hl, k⟩ := h
    have nd := sc_copy.nd
    refine ⟨_, (pss_cons (ks_setL (i := 1) nd l_copy_law_some pe_dnewK)
      (pss_cons (ps_lock (ps_for PassesOwn.never rfl (pi_keys (kv (i := 0) v_copy_law_shelf_here)) (kgL (i := 2) nd l_copy_law_key_here) (pss_one (ps_asg (pe_dget (hu_of hr) (kv (i := 0) v_copy_law_shelf_here) (kv (i := 2) v_copy_law_key_here) (fun _ _ => rfl)) (pg_sub (kv (i := 1) v_copy_law_some) (kv (i := 2) v_copy_law_key_here) (set_dict (hu_of hr)))))))
      (pss_one (ps_ret (kv (i := 1) v_copy_law_some))))), ?_⟩
    walk_at "ss"
    refine k_dnew fun D nD => ?_
    have ndD : d ≠ D := ne_of_none hd nD
    have s1 := same_new (o := .dK []) nD
    walk_at "ss"
    refine k_lock (s1 _ _ hd) True.intro fun od => ?_
    refine k_for ?_
    refine k_keys ?_
    walk_at "ss"
    refine ⟨d, od, rfl, .inl ⟨kvs, upd_same, ?_⟩⟩
    refine k_forIt (walk_keys (d := d) (o := od) (kvs := kvs)) (fun i σ H' => (∃ u, σ = [some (.ref d), some (.ref D), u]) ∧ H' d = some (.frz od (.dK kvs)) ∧ H' D = some (.dK (kvs.take i)) ∧ ∀ x, x ≠ d → x ≠ D → H' x = H x) ⟨⟨_, rfl⟩, upd_same, (upd_ne (Ne.symm ndD)).trans upd_same, fun x h1 h2 => by rw [upd_ne h1, upd_ne h2]⟩ (fun i σ H' _ h => h.2.1) ?_ ?_
    · rintro i x σ H' H5 hi ⟨⟨u, rfl⟩, hd1, hD1, fr⟩ ⟨rfl, key, v, hx, rfl⟩
      have gd : DGet H5 d (kV key) (some v) := by
        refine .inl ⟨kvs, key, .inr ⟨od, hd1⟩, rfl, ?_⟩
        exact (getG_nd (t := kvs) hn (List.mem_of_getElem? hx)).symm
      walk_at "ss"
      refine k_dget ?_
      walk_at "ss"
      refine ⟨d, _, rfl, gd, ?_⟩
      walk_at "ss"
      refine k_setD (DPut.k (k := key) hD1 (small_lt (by rw [List.length_take]; omega))) ?_
      refine ⟨⟨_, rfl⟩, (upd_ne ndD).trans hd1, ?_, fun x h1 h2 => (upd_ne h2).trans (fr x h1 h2)⟩
      rw [upd_same]
      have := setG_take (t := kvs) (z := (key, v)) hn hx
      rw [← this]
      rfl
    · rintro σ H' ⟨⟨u, rfl⟩, hd1, hD1, fr⟩
      rw [List.take_length] at hD1
      refine ⟨hd1, ?_⟩
      walk_at "ss"
      refine k D _ nD (fun x o h => ?_) ((upd_ne (Ne.symm ndD)).trans hD1)
      by_cases e : x = d
      · rw [e] at h ⊢
        rw [upd_same, ← hd, h]
      · rw [upd_ne e, fr x e (ne_of_none h nD)]
        exact h
end

section
open TL
variable {w : World} {K : PySem.W.Frag} {mg : Str → Option Value} {base : Heap}
/-! ### the law's new disk -/
theorem k_dispG {trs : List (TE × TE)} {σ : L2.St} {H : Hp} {Q : VK} (h : ∀ p, H p = none → tPairs trs σ (upd H p (.dK [])) fun ps H2 => H2 p = some (.dK []) ∧ ∃ kvs : List (Key × V), ps = kvs.map (fun kv => (kV kv.1, kv.2)) ∧ kvs.length ≤ 15 ∧ Q (.ref p) (upd H2 p (.dK (mergeK [] kvs)))) : tDisp trs σ H Q := h
theorem k_pc {tk tv : TE} {r : List (TE × TE)} {σ : L2.St} {H : Hp} {Q : List (V × V) → Hp → Prop} (h : tk σ H fun x H1 => tv σ H1 fun y H2 => tPairs r σ H2 fun ps H3 => Q ((x, y) :: ps) H3) : tPairs ((tk, tv) :: r) σ H Q := h
theorem k_pn {σ : L2.St} {H : Hp} {Q : List (V × V) → Hp → Prop} (h : Q [] H) : tPairs [] σ H Q := h
theorem str_cps {a b : Str} (h : a.cps.toList = b.cps.toList) : a = b := by
  cases a
  cases b
  congr 1
  exact Array.toList_inj.mp h
theorem num1 : numL 1 = [49] := by decide +kernel
theorem head1 (n : Nat) : Str.empty ++ ("head 1 " : Str) ++ numT n = headT 1 n := by
  apply str_cps
  unfold headT
  simp only [cps_app, numT_cps, num1, cps_blank, cps_empty, show ("head 1 " : Str).cps.toList = [104, 101, 97, 100, 32, 49, 32] by decide +kernel, show ("head " : Str).cps.toList = [104, 101, 97, 100, 32] by decide +kernel, List.nil_append, List.cons_append, List.append_assoc]
theorem piece1 (k : Nat) (z : Str) : Str.empty ++ ("piece 1 " : Str) ++ numT k ++ (" " : Str) ++ z = pieceT 1 k z := by
  apply str_cps
  unfold pieceT
  simp only [cps_app, numT_cps, num1, cps_blank, cps_empty, show ("piece 1 " : Str).cps.toList = [112, 105, 101, 99, 101, 32, 49, 32] by decide +kernel, show ("piece " : Str).cps.toList = [112, 105, 101, 99, 101, 32] by decide +kernel, List.nil_append, List.cons_append, List.append_assoc]
theorem merge_nd : ∀ {more acc : List (Key × V)}, ((acc ++ more).map (·.1)).Nodup → mergeK acc more = acc ++ more
  | [], acc, _ => by rw [List.append_nil]; rfl
  | z :: more, acc, h => by
    show mergeK (putK acc z.1 z.2) more = _
    have e : putK acc z.1 z.2 = acc ++ [z] := by
      have := setG_new (t := acc) (k := z.1) (v := z.2) fun y hy q => by
        rw [List.map_append, List.nodup_append] at h
        exact h.2.2 _ (List.mem_map.mpr ⟨y, hy, rfl⟩) _ (List.mem_map.mpr ⟨z, List.mem_cons_self, rfl⟩) q
      exact this
    rw [e, merge_nd (by rw [List.append_assoc]; exact h), List.append_assoc]
    rfl
theorem KLs_keys {ns : List Str} {vs : List V} (hl : ns.length = vs.length) : (KLs ns vs).map (·.1) = ns.map Sum.inr := by
  unfold KLs kG
  rw [List.map_map]
  show (ns.zip vs).map ((Sum.inr : Str → Key) ∘ Prod.fst) = _
  rw [← List.map_map (f := Prod.fst) (g := Sum.inr), List.map_fst_zip (by omega)]
theorem KLs_nd {ns : List Str} {vs : List V} (hl : ns.length = vs.length) (hn : ns.Nodup) : ((KLs ns vs).map (·.1)).Nodup := by
  rw [KLs_keys hl]
  exact List.Pairwise.map _ (fun a b ne q => ne (Sum.inr.inj q)) hn
def FW (e : CT) (ws : List Wr) : CT := ws.foldl (fun e x => setG e x.2.1 x.2.2) e
theorem FW_congr {k : Nat} : ∀ {ws : List Wr} {e e' : CT}, getG e k = getG e' k → getG (FW e ws) k = getG (FW e' ws) k
  | [], _, _, h => h
  | x :: ws, e, e', h => FW_congr (ws := ws) (by rw [getG_set, getG_set, h])
theorem FW_no {k : Nat} : ∀ {ws : List Wr} {e : CT}, (∀ x ∈ ws, x.2.1 ≠ k) → getG (FW e ws) k = getG e k
  | [], _, _ => rfl
  | x :: ws, e, h => by
    show getG (FW (setG e x.2.1 x.2.2) ws) k = _
    rw [FW_no (fun y hy => h y (List.mem_cons_of_mem _ hy)), getG_set, if_neg (fun q => h x List.mem_cons_self q.symm)]
theorem FW_nd : ∀ {ws : List Wr} {e : CT}, (e.map (·.1)).Nodup → ((FW e ws).map (·.1)).Nodup
  | [], _, h => h
  | x :: ws, e, h => FW_nd (ws := ws) (setG_nd h)
theorem FW_len : ∀ (ws : List Wr) (e : CT), (FW e ws).length ≤ e.length + ws.length
  | [], _ => Nat.le_refl _
  | x :: ws, e => by
    have h1 := FW_len ws (setG e x.2.1 x.2.2)
    have h2 := setG_len e x.2.1 x.2.2
    show (FW (setG e x.2.1 x.2.2) ws).length ≤ _
    rw [List.length_cons]
    omega
theorem FW_cells {a : Nat} (ha : a ≤ 1) : ∀ {ws : List Wr} {e : CT} {s : DS}, (∀ x ∈ ws, x.1 = a) → CellsOf e (s.cl a) → CellsOf (FW e ws) ((s.puts ws).cl a)
  | [], _, _, _, h => h
  | x :: ws, e, s, hx, h => by
    refine FW_cells ha (ws := ws) (s := s.put x) (fun y hy => hx y (List.mem_cons_of_mem _ hy)) ?_
    have h1 := hx x List.mem_cons_self
    obtain ⟨a', i, z⟩ := x
    have h1 : a' = a := h1
    subst h1
    rw [put_cl ha]
    exact h.put i z
theorem CellsOf.nil : CellsOf [] [] := ⟨List.nodup_nil, fun _ => rfl, .inl rfl⟩
theorem CellsOf.congr {e e' : CT} {c : List (Option Str)} (h : CellsOf e c) (hn : (e'.map (·.1)).Nodup) (hg : ∀ k, getG e' k = getG e k) : CellsOf e' c := ⟨hn, fun k => (hg k).trans (h.g k), h.last⟩
/-- the cells of a new disk -/
theorem new_cells {m : Int} {t : Tab} : CellsOf (FW [(0, headT 1 (prt (tabC t)).length)] (piecesW 0 1 (prt (tabC t)))) (DS.newD m t).c0 ∧ (DS.newD m t).c1 = [] := by
  have hp : ∀ x ∈ piecesW 0 1 (prt (tabC t)), x.1 = 0 ∧ x.2.1 ≠ 0 := fun x hx => by
    obtain ⟨z, k, hz, hk, rfl⟩ := zip_mem hx
    exact ⟨rfl, by show k + 1 ≠ 0; omega⟩
  have h1 : CellsOf (FW [] (piecesW 0 1 (prt (tabC t)))) ((((DS.fresh m t).take 0 1).puts (piecesW 0 1 (prt (tabC t)))).cl 0) := FW_cells (by decide) (fun x hx => (hp x hx).1) CellsOf.nil
  have h2 := h1.put 0 (headT 1 (prt (tabC t)).length)
  have ec : (DS.newD m t).c0 = putC ((((DS.fresh m t).take 0 1).puts (piecesW 0 1 (prt (tabC t)))).cl 0) 0 (headT 1 (prt (tabC t)).length) := by
    show ((((DS.fresh m t).take 0 1).puts ([] ++ (piecesW 0 1 (prt (tabC t)) ++ [(0, 0, headT 1 (prt (tabC t)).length)]))).cl 0) = _
    rw [List.nil_append, puts_app, puts_one, put_cl (by decide)]
  refine ⟨?_, ?_⟩
  · rw [ec]
    refine h2.congr (FW_nd (by simp)) fun k => ?_
    rw [getG_set]
    by_cases e : k = 0
    · subst e
      rw [if_pos rfl, FW_no (fun x hx => (hp x hx).2)]
      rfl
    · rw [if_neg e]
      refine FW_congr ?_
      show getG [(0, _)] k = none
      rw [getG_cons, if_neg (Ne.symm e)]
      rfl
  · have key : ∀ (ws : List Wr) (s : DS), (∀ x ∈ ws, x.1 = 0) → (s.puts ws).c1 = s.c1 := by
      intro ws
      induction ws with
      | nil => intro s _; rfl
      | cons x ws ih =>
        intro s h
        show ((s.put x).puts ws).c1 = _
        rw [ih _ fun y hy => h y (List.mem_cons_of_mem _ hy)]
        unfold DS.put
        rw [if_pos (h x List.mem_cons_self)]
    refine key _ _ fun x hx => ?_
    have hx : x ∈ [] ++ (piecesW 0 1 (prt (tabC t)) ++ [(0, 0, headT 1 (prt (tabC t)).length)]) := hx
    rw [List.nil_append] at hx
    rcases List.mem_append.mp hx with hx | hx
    · exact (hp x hx).1
    · rw [List.mem_singleton.mp hx]
theorem new_same (m : Int) (t : Tab) : (DS.newD m t).most = m ∧ (DS.newD m t).tab = t ∧ (DS.newD m t).uns = [] ∧ (DS.newD m t).syncs = 0 ∧ (DS.newD m t).fallen = false ∧ (DS.newD m t).area = 0 ∧ (DS.newD m t).gen = 1 ∧ (DS.newD m t).pieces = (prt (tabC t)).length ∧ (DS.newD m t).rows = 0 := by
  obtain ⟨a1, a2, a3, a4, a5, a6, a7, a8, a9⟩ := puts_same ((DS.fresh m t).take 0 1).uns ((DS.fresh m t).take 0 1)
  exact ⟨a1, a2, rfl, a4, a5, a6, a7, a8, a9⟩
def spNew : Sp := fun vs H Q _ => ∃ (d : Addr) (t : Tab) (m : Int), vs = [.ref d, .int m] ∧ H d = some (.dK (kT t)) ∧ TabOk t ∧ ∀ (g : OF) (H' : Hp), (∀ x ∈ g.l, H x = none) → Same H H' → OwnAt H' g (DS.newD m t) → Q (.ref g.o) H'
theorem kT_nd {t : Tab} (h : TabOk t) : ((kT t).map (·.1)).Nodup := by
  unfold kT
  rw [List.map_map]
  show (t.map ((Sum.inr : Str → Key) ∘ Prod.fst)).Nodup
  rw [← List.map_map (f := Prod.fst) (g := Sum.inr)]
  exact List.Pairwise.map _ (fun a b ne q => ne (Sum.inr.inj q)) h.nd
theorem ok_new (T : Tx K mg) : FnOk P w K mg base CX0 2 T.a_new T.fd_new P_new spNew := by
  refine T.F_new.ok sc_new (fun vs H Q E h => ?_) (fun cdv A outer s H vs Q E hr h => ?_)
  · obtain ⟨d, t, m, rfl, _⟩ := h
    rfl
  · obtain ⟨d, t, m, rfl, hd, ht, k⟩ := h
    have nd := sc_new.nd
    refine ⟨_, (pss_cons (ks_setL (i := 2) nd l_new_law_parts (pe_call (ok_cut T) (hr.mono (by first | decide | omega)) g_new_law_cut T.m_cut T.k_cut T.b_cut .nil pass0 (pa_cons (pe_call (ok_written T) (hr.mono (by first | decide | omega)) g_new_law_written T.m_written T.k_written T.b_written .nil pass0 (pa_cons (kv (i := 0) v_new_law_shelf_here) pa_nil)) pa_nil)))
      (pss_cons (ks_setL (i := 3) nd l_new_law_cells (pe_disp (pps_cons pe_int (pe_joined (.cons pe_str (.cons (pe_fmt (kcB b_len (by decide) (by decide) (kc_len K) g_new_len T.n_len (pa_cons (kv (i := 2) v_new_law_parts) pa_nil))) .nil))) pps_nil) (by rfl) (by rfl) (fun z => by cases z) (by decide)))
      (pss_cons (ps_for PassesOwn.never rfl (pi_range1 g_new_range T.n_range (pa_cons (kcB b_len (by decide) (by decide) (kc_len K) g_new_len T.n_len (pa_cons (kv (i := 2) v_new_law_parts) pa_nil)) pa_nil)) (kgL (i := 4) nd l_new_law_k) (pss_one (ps_asg (pe_joined (.cons pe_str (.cons (pe_fmt (pe_op kop_add (kv (i := 4) v_new_law_k) pe_int)) (.cons pe_str (.cons (pe_fmt (pe_ix (kix K) (kv (i := 2) v_new_law_parts) (kv (i := 4) v_new_law_k) (fun _ _ => rfl))) .nil))))) (pg_sub (kv (i := 3) v_new_law_cells) (pe_op kop_add (kv (i := 4) v_new_law_k) pe_int) (set_dict (hu_of hr))))))
      (pss_cons (ks_setL (i := 5) nd l_new_law_own (pe_disp (pps_cons pe_str (pe_call (ok_copy T) (hr.mono (by first | decide | omega)) g_new_law_copy T.m_copy T.k_copy T.b_copy .nil pass0 (pa_cons (kv (i := 0) v_new_law_shelf_here) pa_nil)) (pps_cons pe_str (kv (i := 1) v_new_law_most_here) (pps_cons pe_str pe_int (pps_cons pe_str pe_int (pps_cons pe_str (kcB b_len (by decide) (by decide) (kc_len K) g_new_len T.n_len (pa_cons (kv (i := 2) v_new_law_parts) pa_nil)) (pps_cons pe_str pe_int pps_nil)))))) (by rfl) (by rfl) (fun z => by cases z) (by decide)))
      (pss_cons (ps_asg pe_bl (pg_sub (kv (i := 5) v_new_law_own) pe_str (set_dict (hu_of hr))))
      (pss_cons (ps_asg (pe_lst (pa_cons (kv (i := 3) v_new_law_cells) (pa_cons pe_dnewK pa_nil))) (pg_sub (kv (i := 5) v_new_law_own) pe_str (set_dict (hu_of hr))))
      (pss_cons (ps_asg (pe_lst pa_nil) (pg_sub (kv (i := 5) v_new_law_own) pe_str (set_dict (hu_of hr))))
      (pss_cons (ps_asg pe_int (pg_sub (kv (i := 5) v_new_law_own) pe_str (set_dict (hu_of hr))))
      (pss_one (ps_ret (kv (i := 5) v_new_law_own))))))))))), ?_⟩
    have hcs := ht.ch.cs
    walk_at "ss"
    refine ⟨d, t, rfl, hd, ht, fun z H1 hz s1 => ?_⟩
    have hzl := hz.len hcs
    have ep : cutZ z = prt (tabC t) := by unfold prt; rw [← hz.tx]
    walk_at "ss"
    refine ⟨z, rfl, by omega, fun L H2 nL s2 hL => ?_⟩
    rw [ep] at hL
    have pl := prt_len hcs
    have pz : ∀ y ∈ prt (tabC t), y.length ≤ 6400 := fun y hy => prt_z hcs hy
    obtain ⟨ps, eps⟩ : ∃ ps : List Str, ps = prt (tabC t) := ⟨_, rfl⟩
    have hcel := new_cells (m := m) (t := t)
    rw [← eps] at hL pl pz hcel
    have hnw := new_same m t
    rw [← eps] at hnw
    have s12 := s1.trans s2
    walk_at "ss"
    refine k_dispG fun c nc => ?_
    have sc := same_new (o := .dK []) nc
    have hL3 := sc _ _ hL
    have nLc : L ≠ c := ne_of_none hL nc
    have hh := headT_len (g := 1) (n := ps.length) (by decide) (by omega)
    refine k_pc ?_
    walk_at "ss"
    have hh2 := hh
    rw [← head1] at hh2
    simp only [PySem.Str.length_append, len_empty] at hh2
    refine k_jsV (by simp only [PySem.Str.length_append, len_empty]; omega) ?_
    walk_at "ss"
    rw [List.length_map]
    refine k_fmtI (by omega) ?_
    refine k_jsV (z := numT ps.length) (by simp only [PySem.Str.length_append, len_empty]; omega) ?_
    walk_at "ss"
    refine k_pn ?_
    refine ⟨upd_same, [(.inl 0, .str (headT 1 ps.length))], by rw [← head1]; rfl, by show 1 ≤ 15; decide, ?_⟩
    rw [upd_upd, show mergeK [] [((.inl 0 : Key), V.str (headT 1 ps.length))] = kN [(0, headT 1 ps.length)] from rfl]
    have sc2 := same_new (o := .dK (kN [(0, headT 1 ps.length)])) nc
    have hL4 := sc2 _ _ hL
    have hc4 : upd H2 c (.dK (kN [(0, headT 1 ps.length)])) c = some (.dK (kN [(0, headT 1 ps.length)])) := upd_same
    have nHc : H c = none := by
      cases e : H c with
      | none => rfl
      | some o => rw [s12 _ _ e] at nc; cases nc
    have s4 := s12.trans sc2
    generalize upd H2 c (.dK (kN [(0, headT 1 ps.length)])) = H4 at hL4 hc4 s4 ⊢
    refine k_gName ?_
    dsimp only
    refine k_seq ?_
    refine k_for ?_
    walk_at "ss"
    rw [List.length_map]
    refine k_r1 (by constructor <;> omega) ?_
    have hpw : ∀ {i : Nat} {zz : Str}, ps[i]? = some zz → (piecesW 0 1 ps).take (i + 1) = (piecesW 0 1 ps).take i ++ [(0, i + 1, pieceT 1 (i + 1) zz)] := fun {i zz} h => by
      rw [List.take_add_one]
      congr 1
      unfold piecesW
      rw [List.getElem?_map, List.getElem?_zipIdx, h]
      simp
    refine k_forRange (n := ((ps.length : Nat) : Int).toNat) (fun i σ H' => (∃ u, σ = [some (.ref d), some (.int m), some (.ref L), some (.ref c), u, none]) ∧ H' c = some (.dK (kN (FW [(0, headT 1 ps.length)] ((piecesW 0 1 ps).take i)))) ∧ H' L = some (.lst (ps.map V.str)) ∧ SameBut c H4 H') ⟨⟨none, rfl⟩, hc4, hL4, SameBut.refl _ _⟩ ?_ ?_
    · rintro i σ H' hi ⟨⟨u, rfl⟩, hc5, hL5, sb⟩
      rw [Int.toNat_natCast] at hi
      obtain ⟨zz, hzz⟩ : ∃ zz, ps[i]? = some zz := ⟨ps[i], List.getElem?_eq_getElem hi⟩
      have hzz6 := pz _ (List.mem_of_getElem? hzz)
      have hpl := pieceT_len (g := 1) (k := i + 1) (z := zz) (by decide) (by omega) hzz6
      rw [← piece1] at hpl
      simp only [PySem.Str.length_append, len_empty] at hpl
      rw [Int.zero_add]
      walk_at "ss"
      refine k_jsV (by simp only [PySem.Str.length_append, len_empty]; omega) ?_
      walk_at "ss"
      refine k_fmtI (i := ((i + 1 : Nat) : Int)) (by omega) ?_
      refine k_jsV (z := numT (i + 1)) (by simp only [PySem.Str.length_append, len_empty]; omega) ?_
      walk_at "ss"
      refine k_jsV (by simp only [PySem.Str.length_append, len_empty]; omega) ?_
      walk_at "ss"
      refine k_ixL (SqL.of hL5) (v := .str zz) (atI_nat (by rw [List.getElem?_map, hzz]; rfl)) ?_
      refine k_fmtS (by omega) ?_
      refine k_jsV (by simp only [PySem.Str.length_append, len_empty]; omega) ?_
      walk_at "ss"
      have hfl : (kN (FW [(0, headT 1 ps.length)] ((piecesW 0 1 ps).take i))).length < sizeLine := small_lt (by
        unfold kN kG
        rw [List.length_map]
        have h1 := FW_len ((piecesW 0 1 ps).take i) [(0, headT 1 ps.length)]
        rw [List.length_take, List.length_singleton] at h1
        omega)
      refine k_setD (DPut.k (k := .inl ((i + 1 : Nat) : Int)) hc5 hfl) ?_
      refine ⟨⟨_, rfl⟩, ?_, (upd_ne nLc).trans hL5, sb.put⟩
      rw [upd_same]
      show some (HO.dK (putK _ (.inl ((i + 1 : Nat) : Int)) (.str (Str.empty ++ ("piece 1 " : Str) ++ numT (i + 1) ++ (" " : Str) ++ zz)))) = _
      rw [piece1, kN_put, hpw hzz]
      unfold FW
      rw [List.foldl_append]
      rfl
    · rintro σ H5 ⟨⟨u, rfl⟩, hc5, hL5, sb⟩
      rw [Int.toNat_natCast, List.take_of_length_le (show (piecesW 0 1 ps).length ≤ ps.length from Nat.le_of_eq (zip_len _ _))] at hc5
      have s5 : Same H H5 := fun x o h => sb x o (ne_of_none h nHc) (s4 x o h)
      have bk : ∀ {H' : Hp} {x : Addr}, Same H H' → H' x = none → H x = none := fun {H' x} s h => by
        cases e : H x with
        | none => rfl
        | some o => rw [s _ _ e] at h; cases h
      walk_at "ss"
      refine k_dispG fun o no => ?_
      have s6 := same_new (o := .dK []) no
      have nHo := bk s5 no
      have nco : c ≠ o := ne_of_none hc5 no
      have hc6 := s6 _ _ hc5
      have hL6 := s6 _ _ hL5
      have ho6 : upd H5 o (.dK []) o = some (.dK []) := upd_same
      have s06 := s5.trans s6
      generalize upd H5 o (.dK []) = H6 at s6 hc6 hL6 ho6 s06 ⊢
      refine k_pc ?_
      walk_at "ss"
      refine ⟨d, kT t, rfl, s06 _ _ hd, kT_nd ht, by unfold kT; rw [List.length_map]; have := ht.len; omega, fun D H7 nD s7 hD => ?_⟩
      have hc7 := s7 _ _ hc6
      have hL7 := s7 _ _ hL6
      have ho7 := s7 _ _ ho6
      have nHD := bk s06 nD
      have s07 := s06.trans s7
      have noD : o ≠ D := ne_of_none ho6 nD
      have ncD : c ≠ D := ne_of_none hc6 nD
      refine k_pc ?_
      walk_at "ss"
      refine k_pc ?_
      walk_at "ss"
      refine k_pc ?_
      walk_at "ss"
      refine k_pc ?_
      walk_at "ss"
      rw [List.length_map]
      refine k_pc ?_
      walk_at "ss"
      refine k_pn ?_
      obtain ⟨n6, en6⟩ : ∃ n6 : List Str, n6 = (["shelf", "most", "side", "gen", "pieces", "count"] : List Str) := ⟨_, rfl⟩
      obtain ⟨v6, ev6⟩ : ∃ v6 : List V, v6 = [V.ref D, V.int m, V.int 0, V.int 1, V.int (ps.length : Nat), V.int 0] := ⟨_, rfl⟩
      have l66 : n6.length = v6.length := by rw [en6, ev6]; rfl
      refine ⟨ho7, KLs n6 v6, by rw [en6, ev6]; rfl, Nat.le_trans (KLs_len _ _) (by rw [en6]; decide), ?_⟩
      rw [merge_nd (by rw [List.nil_append]; exact KLs_nd l66 (by rw [en6]; decide +kernel)), List.nil_append]
      have e8 : ∀ x, x ≠ o → upd H7 o (.dK (KLs n6 v6)) x = H7 x := fun x h => upd_ne h
      have ho8 : upd H7 o (.dK (KLs n6 v6)) o = some (.dK (KLs n6 v6)) := upd_same
      generalize upd H7 o (.dK (KLs n6 v6)) = H8 at e8 ho8 ⊢
      have hc8 := (e8 c nco).trans hc7
      have hD8 := (e8 D (Ne.symm noD)).trans hD
      have s08 : Same H H8 := fun x u h => (e8 x (ne_of_none h nHo)).trans (s07 x u h)
      walk_at "ss"
      refine k_kln ho8 l66 (by rw [en6]; decide +kernel) (by rw [en6]; decide) fun H9 ho9 e9 => ?_
      have hc9 := (e9 c nco).trans hc8
      have hD9 := (e9 D (Ne.symm noD)).trans hD8
      have s09 : Same H H9 := fun x u h => (e9 x (ne_of_none h nHo)).trans (s08 x u h)
      walk_at "ss"
      refine k_dnew fun k1 nk1 => ?_
      have s10 := same_new (o := .dK []) nk1
      have hk10 : upd H9 k1 (.dK []) k1 = some (.dK []) := upd_same
      have nHk1 := bk s09 nk1
      have nok1 : o ≠ k1 := ne_of_none ho9 nk1
      have nck1 : c ≠ k1 := ne_of_none hc9 nk1
      have nDk1 : D ≠ k1 := ne_of_none hD9 nk1
      have ho10 := s10 _ _ ho9
      have hc10 := s10 _ _ hc9
      have hD10 := s10 _ _ hD9
      have s010 := s09.trans s10
      generalize upd H9 k1 (.dK []) = H10 at s10 hk10 ho10 hc10 hD10 s010 ⊢
      walk_at "ss"
      intro hl nhl
      have s11 := same_new (o := .lst [V.ref c, V.ref k1]) nhl
      have hl11 : upd H10 hl (.lst [V.ref c, V.ref k1]) hl = some (.lst [V.ref c, V.ref k1]) := upd_same
      have nHhl := bk s010 nhl
      have nohl : o ≠ hl := ne_of_none ho10 nhl
      have nchl : c ≠ hl := ne_of_none hc10 nhl
      have nDhl : D ≠ hl := ne_of_none hD10 nhl
      have nk1hl : k1 ≠ hl := ne_of_none hk10 nhl
      have ho11 := s11 _ _ ho10
      have hc11 := s11 _ _ hc10
      have hD11 := s11 _ _ hD10
      have hk11 := s11 _ _ hk10
      have s011 := s010.trans s11
      generalize upd H10 hl (.lst [V.ref c, V.ref k1]) = H11 at s11 hl11 ho11 hc11 hD11 hk11 s011 ⊢
      walk_at "ss"
      have l7 : (n6 ++ [Str.ofString "soft"]).length = (v6 ++ [V.bl false]).length := by rw [en6, ev6]; rfl
      refine k_kln ho11 l7 (by rw [en6]; decide +kernel) (by rw [en6]; decide) fun H12 ho12 e12 => ?_
      have s012 : Same H H12 := fun x u h => (e12 x (ne_of_none h nHo)).trans (s011 x u h)
      walk_at "ss"
      intro op nop
      have s13 := same_new (o := .lst []) nop
      have hop13 : upd H12 op (.lst []) op = some (.lst []) := upd_same
      have nHop := bk s012 nop
      have noop : o ≠ op := ne_of_none ho12 nop
      have mv : ∀ {x : Addr} {u : HO}, x ≠ o → H11 x = some u → H12 x = some u ∧ x ≠ op := fun {x u} ne h => by
        have h2 := (e12 x ne).trans h
        exact ⟨h2, ne_of_none h2 nop⟩
      have mc := mv nco hc11
      have mD := mv (Ne.symm noD) hD11
      have mk := mv (Ne.symm nok1) hk11
      have mh := mv (Ne.symm nohl) hl11
      have ho13 := s13 _ _ ho12
      have hc13 := s13 _ _ mc.1
      have hD13 := s13 _ _ mD.1
      have hk13 := s13 _ _ mk.1
      have hl13 := s13 _ _ mh.1
      have s013 := s012.trans s13
      generalize upd H12 op (.lst []) = H13 at s13 hop13 ho13 hc13 hD13 hk13 hl13 s013 ⊢
      walk_at "ss"
      have l8 : (n6 ++ [Str.ofString "soft"] ++ [Str.ofString "hard"]).length = (v6 ++ [V.bl false] ++ [V.ref hl]).length := by rw [en6, ev6]; rfl
      refine k_kln ho13 l8 (by rw [en6]; decide +kernel) (by rw [en6]; decide) fun H14 ho14 e14 => ?_
      have s014 : Same H H14 := fun x u h => (e14 x (ne_of_none h nHo)).trans (s013 x u h)
      walk_at "ss"
      have l9 : (n6 ++ [Str.ofString "soft"] ++ [Str.ofString "hard"] ++ [Str.ofString "open"]).length = (v6 ++ [V.bl false] ++ [V.ref hl] ++ [V.ref op]).length := by rw [en6, ev6]; rfl
      refine k_kln ho14 l9 (by rw [en6]; decide +kernel) (by rw [en6]; decide) fun H15 ho15 e15 => ?_
      have s015 : Same H H15 := fun x u h => (e15 x (ne_of_none h nHo)).trans (s014 x u h)
      have m15 : ∀ {x : Addr} {u : HO}, x ≠ o → H13 x = some u → H15 x = some u := fun {x u} ne h => (e15 x ne).trans ((e14 x ne).trans h)
      obtain ⟨w1, w2, w3, w4, w5, w6, w7, w8, w9⟩ := hnw
      walk_at "ss"
      refine k ⟨o, D, hl, c, k1, op⟩ H15 (fun x hx => ?_) s015 ⟨?_, FW [(0, headT 1 ps.length)] (piecesW 0 1 ps), [], [], OF.nd_of ⟨noD, nohl, Ne.symm nco, nok1, noop, nDhl, Ne.symm ncD, nDk1, mD.2, Ne.symm nchl, Ne.symm nk1hl, mh.2, nck1, mc.2, mk.2⟩, ?_, m15 (Ne.symm nohl) hl13, m15 nco hc13, m15 (Ne.symm nok1) hk13, hcel.1, ?_, ⟨m15 (Ne.symm noop) hop13, fun z hz => absurd hz List.not_mem_nil⟩, w3.symm⟩
      · unfold OF.l at hx
        simp only [List.mem_cons, List.not_mem_nil, or_false] at hx
        rcases hx with rfl | rfl | rfl | rfl | rfl | rfl
        · exact nHo
        · exact nHD
        · exact nHhl
        · exact nHc
        · exact nHk1
        · exact nHop
      · have es : (DS.newD m t).soft = false := by unfold DS.soft; rw [w3]; rfl
        show H15 o = some (.dK (KLs nO (vOw _ _)))
        rw [ho15]
        unfold vOw
        rw [w1, w4, w6, w7, w8, w9, es, en6, ev6]
        rfl
      · rw [w2]
        exact m15 (Ne.symm noD) hD13
      · rw [hcel.2]
        exact CellsOf.nil
end

section
open TL
variable {w : World} {K : PySem.W.Frag} {mg : Str → Option Value} {base : Heap}
/-! ### the law's sync -/
/-- what its deeds write; the list of open writes is only made anew -/
def OF.v (g : OF) : List Addr := [g.o, g.sh, g.hd, g.k0, g.k1]
theorem OF.v_l {g : OF} {x : Addr} (h : x ∈ g.v) : x ∈ g.l := by
  unfold OF.v at h
  unfold OF.l
  simp only [List.mem_cons, List.not_mem_nil, or_false] at h ⊢
  rcases h with h | h | h | h | h
  · exact .inl h
  · exact .inr (.inl h)
  · exact .inr (.inr (.inl h))
  · exact .inr (.inr (.inr (.inl h)))
  · exact .inr (.inr (.inr (.inr (.inl h))))
theorem OF.frl {g : OF} {H H' : Hp} (h : Fr g.v H H') : Fr g.l H H' := h.mono fun _ => OF.v_l
theorem OF.nw {g : OF} {x : Addr} (h : x ∉ g.l) : x ∉ g.v := fun m => h (OF.v_l m)
theorem OF.o_v {g g' : OF} (h : g'.v = g.v) : g'.o = g.o := (List.cons.inj h).1
theorem Fr.tr {F : List Addr} {H H1 H2 : Hp} (h : Fr F H H1) (h2 : Fr F H1 H2) : Fr F H H2 := fun x o e n => h2 _ _ (h _ _ e n) n
theorem OwnB.cong {H : Hp} {g : OF} {s s' : DS} {e0 e1 : CT} {l : UL} (h : OwnB H g s e0 e1 l) (a1 : s'.tab = s.tab) (a2 : s'.c0 = s.c0) (a3 : s'.c1 = s.c1) (a4 : s'.uns = s.uns) : OwnB H g s' e0 e1 l :=
  ⟨h.nd, a1 ▸ h.hs, h.hh, h.h0, h.h1, a2 ▸ h.q0, a3 ▸ h.q1, h.hu, a4 ▸ h.eu⟩
theorem OwnB.put0 {H : Hp} {g : OF} {s : DS} {e0 e1 : CT} {l : UL} (h : OwnB H g s e0 e1 l) {i : Nat} {z : Str} : OwnB (upd H g.k0 (.dK (kN (setG e0 i z)))) g (s.put (0, i, z)) (setG e0 i z) e1 l := by
  obtain ⟨n1, n2, n3, n4, n5, n6, n7, n8, n9, n10, n11, n12, n13, n14, n15⟩ := OF.nds h.nd
  obtain ⟨a1, a2, a3, a4, a5, a6, a7, a8, a9⟩ := put_same s (0, i, z)
  have fr : Fr [g.k0] H (upd H g.k0 (.dK (kN (setG e0 i z)))) := (Fr.refl _ _).put (.inl (by simp))
  refine ⟨h.nd, a2 ▸ fr _ _ h.hs (by simpa using n7), fr _ _ h.hh (by simpa using n10), upd_same, fr _ _ h.h1 (by simpa using Ne.symm n13), h.q0.put i z, h.q1, h.hu.fr fr (fun x hx xs => by rw [List.mem_singleton.mp hx, h.h0]; intro q; cases q) (by simpa using Ne.symm n14), a3 ▸ h.eu⟩
theorem OwnB.put1 {H : Hp} {g : OF} {s : DS} {e0 e1 : CT} {l : UL} (h : OwnB H g s e0 e1 l) {i : Nat} {z : Str} : OwnB (upd H g.k1 (.dK (kN (setG e1 i z)))) g (s.put (1, i, z)) e0 (setG e1 i z) l := by
  obtain ⟨n1, n2, n3, n4, n5, n6, n7, n8, n9, n10, n11, n12, n13, n14, n15⟩ := OF.nds h.nd
  obtain ⟨a1, a2, a3, a4, a5, a6, a7, a8, a9⟩ := put_same s (1, i, z)
  have fr : Fr [g.k1] H (upd H g.k1 (.dK (kN (setG e1 i z)))) := (Fr.refl _ _).put (.inl (by simp))
  refine ⟨h.nd, a2 ▸ fr _ _ h.hs (by simpa using n8), fr _ _ h.hh (by simpa using n11), fr _ _ h.h0 (by simpa using n13), upd_same, h.q0, h.q1.put i z, h.hu.fr fr (fun x hx xs => by rw [List.mem_singleton.mp hx, h.h1]; intro q; cases q) (by simpa using Ne.symm n15), a3 ▸ h.eu⟩
theorem kN_len {e : CT} {c : List (Option Str)} (h : CellsOf e c) : (kN e).length ≤ c.length := by
  unfold kN kG
  rw [List.length_map]
  have := len_sub (l := e.map (·.1)) (m := List.range c.length) h.nd fun x hx => by
    obtain ⟨v, hv⟩ := getG_key hx
    rw [h.g x] at hv
    rw [List.mem_range]
    by_cases hl : x < c.length
    · exact hl
    · rw [List.getElem?_eq_none (by omega)] at hv
      cases hv
  rw [List.length_map, List.length_range] at this
  exact this
def spSyncL : Sp := fun vs H Q _ => ∃ (g : OF) (s : DS), vs = [.ref g.o] ∧ OwnAt H g s ∧ Ok s 30000 ∧ ∀ (g' : OF) (H' : Hp), g'.v = g.v → Fr g.v H H' → Nw g.l g'.l H → OwnAt H' g' s.syncd → Q .non H'
theorem ok_sync (T : Tx K mg) : FnOk P w K mg base CX0 1 T.a_sync T.fd_sync P_sync spSyncL := by
  refine T.F_sync.ok sc_sync (fun vs H Q E h => ?_) (fun cdv A outer s H vs Q E hr h => ?_)
  · obtain ⟨g, s, rfl, _⟩ := h
    rfl
  · obtain ⟨g, d, rfl, ⟨ho, e0, e1, l, hB⟩, hok, k⟩ := h
    have nd := sc_sync.nd
    obtain ⟨n1, n2, n3, n4, n5, n6, n7, n8, n9, n10, n11, n12, n13, n14, n15⟩ := OF.nds hB.nd
    have hul : l.length = d.uns.length := by rw [← hB.eu, List.length_map]
    refine ⟨_, (kss_meet (ps_if (kpt_truth K (pe_dget (hu_of hr) (kv (i := 0) v_sync_law_own) pe_str (fun _ _ => rfl))) (pss_one (ps_asg (pe_op kop_add (pe_dget (hu_of hr) (kv (i := 0) v_sync_law_own) pe_str (fun _ _ => rfl)) pe_int) (pg_sub (kv (i := 0) v_sync_law_own) pe_str (set_dict (hu_of hr))))) pss_nil)
      (pss_cons (ps_for PassesOwn.never rfl (kpi_list K (pe_dget (hu_of hr) (kv (i := 0) v_sync_law_own) pe_str (fun _ _ => rfl))) (kpg_tup K 3 rfl (pgs_cons (kgL (i := 1) nd l_sync_law_side) (pgs_cons (kgL (i := 2) nd l_sync_law_index) (pgs_cons (kgL (i := 3) nd l_sync_law_text) pgs_nil)))) (pss_cons (ks_setL (i := 4) nd l_sync_law_cells (pe_ix (kix K) (pe_dget (hu_of hr) (kv (i := 0) v_sync_law_own) pe_str (fun _ _ => rfl)) (kv (i := 1) v_sync_law_side) (fun _ _ => rfl)))
      (pss_one (ps_asg (kv (i := 3) v_sync_law_text) (pg_sub (kv (i := 4) v_sync_law_cells) (kv (i := 2) v_sync_law_index) (set_dict (hu_of hr)))))))
      (pss_cons (ps_asg (pe_lst pa_nil) (pg_sub (kv (i := 0) v_sync_law_own) pe_str (set_dict (hu_of hr))))
      (pss_one (ps_asg pe_bl (pg_sub (kv (i := 0) v_sync_law_own) pe_str (set_dict (hu_of hr)))))))), ?_⟩
    obtain ⟨d1, hd1⟩ : ∃ d1 : DS, d1 = { d with syncs := d.syncs + (if d.uns = [] then 0 else 1) } := ⟨_, rfl⟩
    have hmeq : d1.uns = d.uns := by rw [hd1]
    have hB1 : ∀ {H : Hp}, OwnB H g d e0 e1 l → OwnB H g d1 e0 e1 l := fun h => h.cong (by rw [hd1]) (by rw [hd1]) (by rw [hd1]) (by rw [hd1])
    refine k_meet (fun σ H' => σ = [some (.ref g.o), none, none, none, none] ∧ Fr [g.o] H H' ∧ H' g.o = some (.dK (KLs nO (vOw g d1))) ∧ OwnB H' g d1 e0 e1 l) ?_ ?_
    · walk_at "ss"
      refine k_tru ?_
      refine k_dget ?_
      walk_at "ss"
      refine ⟨g.o, _, rfl, DGet.kl ho (i := 8) (by decide +kernel) rfl, ?_⟩
      refine ⟨_, .inl ⟨_, SqL.of hB.hu.at_, rfl⟩, ?_⟩
      cases l with
      | nil =>
        have he : d.uns = [] := hB.eu.symm
        refine k_f ?_
        walk_at "ss"
        refine ⟨rfl, Fr.refl _ _, ?_, hB1 hB⟩
        rw [hd1, if_pos he]
        exact ho
      | cons z l =>
        have hne : d.uns ≠ [] := fun e => by rw [← hB.eu] at e; cases e
        refine k_t ?_
        walk_at "ss"
        refine k_dget ?_
        walk_at "ss"
        refine ⟨g.o, _, rfl, DGet.kl ho (i := 9) (by decide +kernel) rfl, ?_⟩
        walk_at "ss"
        refine k_klo ho (i := 9) (by decide +kernel) nO_nd (by show 9 < 10; decide) (by decide) fun H1 ho1 e1' => ?_
        have fr : Fr [g.o] H H1 := fun x o h ne => (e1' x (by simpa using ne)).trans h
        have nt : NoT H [g.o] := fun x hx xs => by rw [List.mem_singleton.mp hx, ho]; intro q; cases q
        refine ⟨rfl, fr, ?_, hB1 (hB.fr fr (fun x hx ne => by simpa using ne) nt)⟩
        rw [ho1]
        have es : d1.soft = d.soft := by rw [hd1]; rfl
        unfold vOw
        rw [es, hd1, if_neg hne]
        rfl
    · rintro σ H1 ⟨rfl, fr1, ho1, hB1⟩
      have ok1 : Ok d1 30000 := by subst hd1; exact ⟨hok.c0, hok.c1, hok.u, hok.i⟩
      walk_at "ss"
      refine k_dget ?_
      walk_at "ss"
      refine ⟨g.o, _, rfl, DGet.kl ho1 (i := 8) (by decide +kernel) rfl, ?_⟩
      refine k_iL (SqL.of hB1.hu.at_) ?_
      refine k_forList (l.map fun z => V.ref z.1) (fun i σ H' => (∃ u1 u2 u3 u4, σ = [some (.ref g.o), u1, u2, u3, u4]) ∧ Fr g.v H1 H' ∧ H' g.o = some (.dK (KLs nO (vOw g d1))) ∧ ∃ e0 e1, OwnB H' g (d1.puts (d1.uns.take i)) e0 e1 l) ⟨⟨_, _, _, _, rfl⟩, Fr.refl _ _, ho1, e0, e1, hB1⟩ (fun i σ H' _ h => SqL.of (by obtain ⟨_, _, _, _, _, h⟩ := h; exact h.hu.at_)) ?_ ?_
      · rintro i x σ H' hx ⟨⟨u1, u2, u3, u4, rfl⟩, fr, ho2, e0', e1', hB2⟩
        rw [List.getElem?_map] at hx
        obtain ⟨z, hz, rfl⟩ := Option.map_eq_some_iff.mp hx
        have hzw := hB2.hu.ws z (List.mem_of_getElem? hz)
        have huz : d1.uns[i]? = some z.2 := by rw [hmeq, ← hB.eu, List.getElem?_map, hz]; rfl
        have hzm := ok1.i z.2 (List.mem_of_getElem? huz)
        have hle := puts_lens (ws := d1.uns.take i) ok1.c0 ok1.c1 (fun x hx => (ok1.i x (List.mem_of_mem_take hx)).2)
        have hk0 := kN_len hB2.q0
        have hk1 := kN_len hB2.q1
        have step : d1.puts (d1.uns.take (i + 1)) = (d1.puts (d1.uns.take i)).put z.2 := by
          unfold DS.puts
          rw [List.take_add_one, huz, List.foldl_append]
          rfl
        rw [step]
        refine k_gTup (SqT.of hzw) rfl ?_
        walk_at "ss"
        refine k_dget ?_
        walk_at "ss"
        refine ⟨g.o, _, rfl, DGet.kl ho2 (i := 7) (by decide +kernel) rfl, ?_⟩
        walk_at "ss"
        obtain ⟨zp, za, zi, zt⟩ := z
        have hz01 : za = 0 ∨ za = 1 := by have : za ≤ 1 := hzm.1; omega
        rcases hz01 with rfl | rfl
        · refine k_ixL (SqL.of hB2.hh) (v := .ref g.k0) (atI_nat (j := 0) rfl) ?_
          refine k_gName ?_
          dsimp only
          walk_at "ss"
          refine k_setD (DPut.k (k := .inl ((zi : Nat) : Int)) hB2.h0 (small_lt (by omega))) ?_
          show _ ∧ Fr g.v H1 (upd H' g.k0 (.dK (putK (kN e0') (.inl ((zi : Nat) : Int)) (.str zt)))) ∧ (upd H' g.k0 (.dK (putK (kN e0') (.inl ((zi : Nat) : Int)) (.str zt)))) g.o = _ ∧ ∃ a b, OwnB (upd H' g.k0 (.dK (putK (kN e0') (.inl ((zi : Nat) : Int)) (.str zt)))) _ _ _ _ _
          rw [kN_put]
          exact ⟨⟨_, _, _, _, rfl⟩, fr.put (.inl (by simp [OF.v])), (upd_ne n3).trans ho2, _, _, hB2.put0⟩
        · refine k_ixL (SqL.of hB2.hh) (v := .ref g.k1) (atI_nat (j := 1) rfl) ?_
          refine k_gName ?_
          dsimp only
          walk_at "ss"
          refine k_setD (DPut.k (k := .inl ((zi : Nat) : Int)) hB2.h1 (small_lt (by omega))) ?_
          show _ ∧ Fr g.v H1 (upd H' g.k1 (.dK (putK (kN e1') (.inl ((zi : Nat) : Int)) (.str zt)))) ∧ (upd H' g.k1 (.dK (putK (kN e1') (.inl ((zi : Nat) : Int)) (.str zt)))) g.o = _ ∧ ∃ a b, OwnB (upd H' g.k1 (.dK (putK (kN e1') (.inl ((zi : Nat) : Int)) (.str zt)))) _ _ _ _ _
          rw [kN_put]
          exact ⟨⟨_, _, _, _, rfl⟩, fr.put (.inl (by simp [OF.v])), (upd_ne n4).trans ho2, _, _, hB2.put1⟩
      · rintro σ H' ⟨⟨u1, u2, u3, u4, rfl⟩, fr, ho2, e0', e1', hB2⟩
        rw [List.length_map, hul, ← hmeq, List.take_length] at hB2
        have frH := (fr1.mono (F2 := g.v) (fun x hx => by rw [List.mem_singleton.mp hx]; simp [OF.v])).trans fr (fun x hx => .inl hx)
        walk_at "ss"
        intro u nu
        have nuo : ∀ {x : Addr} {o : HO}, H' x = some o → x ≠ u := fun h => ne_of_none h nu
        have nou := nuo ho2
        have nHu : H u = none := by
          cases e : H u with
          | none => rfl
          | some o =>
            exfalso
            by_cases hm : u ∈ g.v
            · unfold OF.v at hm
              simp only [List.mem_cons, List.not_mem_nil, or_false] at hm
              rcases hm with e | e | e | e | e
              · exact nou e.symm
              · exact nuo hB2.hs e.symm
              · exact nuo hB2.hh e.symm
              · exact nuo hB2.h0 e.symm
              · exact nuo hB2.h1 e.symm
            · exact nuo (frH _ _ e hm) rfl
        have s5 := same_new (o := .lst []) nu
        have hu5 : upd H' u (.lst []) u = some (.lst []) := upd_same
        have ho5 := s5 _ _ ho2
        have hB5 := hB2.up s5
        have fr5 := frH.same s5
        generalize upd H' u (.lst []) = H5 at s5 hu5 ho5 hB5 fr5 ⊢
        walk_at "ss"
        refine k_klo ho5 (i := 8) (by decide +kernel) nO_nd (by show 8 < 10; decide) (by decide) fun H6 ho6 e6 => ?_
        walk_at "ss"
        refine k_klo ho6 (i := 6) (by decide +kernel) nO_nd (by show 6 < 10; decide) (by decide) fun H7 ho7 e7 => ?_
        have e57 : ∀ x, x ≠ g.o → H7 x = H5 x := fun x ne => (e7 x ne).trans (e6 x ne)
        have fr57 : Fr [g.o] H5 H7 := fun x o h ne => (e57 x (by simpa using ne)).trans h
        have nt : NoT H5 [g.o] := fun x hx xs => by rw [List.mem_singleton.mp hx, ho5]; intro q; cases q
        have hB7 := hB5.fr fr57 (fun x hx ne => by simpa using ne) nt
        obtain ⟨a1, a2, a3, a4, a5, a6, a7, a8, a9⟩ := puts_same d1.uns d1
        obtain ⟨b1, b2, b3, b4, b5, b6, b7, b8, b9⟩ := puts_same d.uns d
        have ep := puts_cells d.uns (show d1.c0 = d.c0 by rw [hd1]) (show d1.c1 = d.c1 by rw [hd1])
        rw [hmeq] at hB7
        refine k { g with op := u } H7 rfl (fr5.trans fr57 (fun x hx => .inl (by rw [List.mem_singleton.mp hx]; simp [OF.v]))) (fun x hx => ?_) ⟨?_, e0', e1', [], ?_⟩
        · unfold OF.l at hx ⊢
          simp only [List.mem_cons, List.not_mem_nil, or_false] at hx ⊢
          rcases hx with rfl | rfl | rfl | rfl | rfl | rfl
          · exact .inl (.inl rfl)
          · exact .inl (.inr (.inl rfl))
          · exact .inl (.inr (.inr (.inl rfl)))
          · exact .inl (.inr (.inr (.inr (.inl rfl))))
          · exact .inl (.inr (.inr (.inr (.inr (.inl rfl)))))
          · exact .inr nHu
        · show H7 g.o = some (.dK (KLs nO (vOw { g with op := u } d.syncd)))
          rw [ho7]
          show some (HO.dK (KLs nO [.ref g.sh, .int d1.most, .int (d1.area : Nat), .int (d1.gen : Nat), .int (d1.pieces : Nat), .int (d1.rows : Nat), .bl false, .ref g.hd, .ref u, .int (d1.syncs : Nat)])) = some (HO.dK (KLs nO [.ref g.sh, .int (d.puts d.uns).most, .int ((d.puts d.uns).area : Nat), .int ((d.puts d.uns).gen : Nat), .int ((d.puts d.uns).pieces : Nat), .int ((d.puts d.uns).rows : Nat), .bl false, .ref g.hd, .ref u, .int ((d.syncs + (if d.uns = [] then 0 else 1) : Nat) : Int)]))
          rw [b1, b6, b7, b8, b9, hd1]
        · refine ⟨OF.nd_of ⟨n1, n2, n3, n4, nou, n6, n7, n8, nuo hB2.hs, n10, n11, nuo hB2.hh, n13, nuo hB2.h0, nuo hB2.h1⟩, ?_, hB7.hh, hB7.h0, hB7.h1, ?_, ?_, ⟨(e57 u (Ne.symm nou)).trans hu5, fun z hz => absurd hz List.not_mem_nil⟩, rfl⟩
          · have e : d.syncd.tab = (d1.puts d.uns).tab := by
              show (d.puts d.uns).tab = _
              rw [b2, (puts_same d.uns d1).2.1, hd1]
            rw [e]
            exact hB7.hs
          · rw [show d.syncd.c0 = (d1.puts d.uns).c0 from ep.1.symm]
            exact hB7.q0
          · rw [show d.syncd.c1 = (d1.puts d.uns).c1 from ep.2.symm]
            exact hB7.q1
end

section
open TL
variable {w : World} {K : PySem.W.Frag} {mg : Str → Option Value} {base : Heap}
/-! ### the law's check -/
theorem take_soft (s : DS) (a g : Nat) : (s.take a g).soft = true := by
  show (s.uns ++ (piecesW a g (prt (tabC s.tab)) ++ [(a, 0, headT g (prt (tabC s.tab)).length)])).any (fun x => decide (x.1 = a) && decide (x.2.1 = 0)) = true
  rw [List.any_append, List.any_append, List.any_cons, decide_eq_true rfl, decide_eq_true rfl]
  simp
theorem OwnB.open {H : Hp} {g : OF} {s s' : DS} {e0 e1 : CT} {l l' : UL} {u : Addr} (h : OwnB H g s e0 e1 l) (a1 : s'.tab = s.tab) (a2 : s'.c0 = s.c0) (a3 : s'.c1 = s.c1) (hu : UnsAt H u l') (eu : l'.map (·.2) = s'.uns) (nu : u ∉ g.l) : OwnB H { g with op := u } s' e0 e1 l' := by
  obtain ⟨n1, n2, n3, n4, n5, n6, n7, n8, n9, n10, n11, n12, n13, n14, n15⟩ := OF.nds h.nd
  unfold OF.l at nu
  simp only [List.mem_cons, List.not_mem_nil, or_false, not_or] at nu
  obtain ⟨m1, m2, m3, m4, m5, m6⟩ := nu
  exact ⟨OF.nd_of ⟨n1, n2, n3, n4, Ne.symm m1, n6, n7, n8, Ne.symm m2, n10, n11, Ne.symm m3, n13, Ne.symm m4, Ne.symm m5⟩, a1 ▸ h.hs, h.hh, h.h0, h.h1, a2 ▸ h.q0, a3 ▸ h.q1, hu, eu⟩
def spCheckL : Sp := fun vs H Q _ => ∃ (g : OF) (s : DS) (b : Bool), vs = [.ref g.o, .bl b] ∧ OwnAt H g s ∧ CkOk s s.gen ∧ ∀ (g' : OF) (H' : Hp), g'.v = g.v → Fr g.v H H' → Nw g.l g'.l H → OwnAt H' g' (s.check (s.gen + 1) b) → Q .non H'
theorem ok_check (T : Tx K mg) : FnOk P w K mg base CX0 2 T.a_check T.fd_check P_check spCheckL := by
  refine T.F_check.ok sc_check (fun vs H Q E h => ?_) (fun cdv A outer s H vs Q E hr h => ?_)
  · obtain ⟨g, s, b, rfl, _⟩ := h
    rfl
  · obtain ⟨g, d, b, rfl, hO, hc, k⟩ := h
    have nd := sc_check.nd
    refine ⟨_, (kss_meet (ps_if (kpt_truth K (pe_dget (hu_of hr) (kv (i := 0) v_check_law_own) pe_str (fun _ _ => rfl))) (pss_one (ps_expr (pe_call (ok_sync T) (hr.mono (by first | decide | omega)) g_check_law_sync T.m_sync T.k_sync T.b_sync .nil pass0 (pa_cons (kv (i := 0) v_check_law_own) pa_nil)))) pss_nil)
      (pss_cons (ks_setC (i := 2) nd c_check_law_parts (pe_call (ok_cut T) (hr.mono (by first | decide | omega)) g_check_law_cut T.m_cut T.k_cut T.b_cut .nil pass0 (pa_cons (pe_call (ok_written T) (hr.mono (by first | decide | omega)) g_check_law_written T.m_written T.k_written T.b_written .nil pass0 (pa_cons (pe_dget (hu_of hr) (kv (i := 0) v_check_law_own) pe_str (fun _ _ => rfl)) pa_nil)) pa_nil)))
      (pss_cons (ps_asg (pe_tup (pa_cons (pe_op op_sub pe_int (pe_dget (hu_of hr) (kv (i := 0) v_check_law_own) pe_str (fun _ _ => rfl))) (pa_cons (pe_op kop_add (pe_dget (hu_of hr) (kv (i := 0) v_check_law_own) pe_str (fun _ _ => rfl)) pe_int) pa_nil))) (kpg_tup K 2 rfl (pgs_cons (kgC (i := 3) nd c_check_law_side) (pgs_cons (kgC (i := 4) nd c_check_law_gen) pgs_nil))))
      (pss_cons (ps_setLc (i := 5) (own := [("_law_k", 6)]) rfl nd rfl (locB_ok l_check_law_fresh) (sw_true rfl (locB_ok l_check_law_fresh) rfl (by decide +kernel)) (pi_range1 g_check_range T.n_range (pa_cons (kcB b_len (by decide) (by decide) (kc_len K) g_check_len T.n_len (pa_cons (kv (i := 2) v_check_law_parts) pa_nil)) pa_nil)) ok_cs_check_1 (fun _ _ _ _ _ => (kgL (i := 6) nd l_check_1_law_k)) (fun _ _ _ _ _ => pts_nil) (fun _ _ _ _ _ => (pe_tup (pa_cons (kv (i := 3) v_check_1_law_side) (pa_cons (pe_op kop_add (kv (i := 6) v_check_1_law_k) pe_int) (pa_cons (pe_joined (.cons pe_str (.cons (pe_fmt (kv (i := 4) v_check_1_law_gen)) (.cons pe_str (.cons (pe_fmt (pe_op kop_add (kv (i := 6) v_check_1_law_k) pe_int)) (.cons pe_str (.cons (pe_fmt (pe_ix (kix K) (kv (i := 2) v_check_1_law_parts) (kv (i := 6) v_check_1_law_k) (fun _ _ => rfl))) .nil))))))) pa_nil))))))
      (pss_cons (ps_asg (pe_op kop_add (pe_op kop_add (pe_dget (hu_of hr) (kv (i := 0) v_check_law_own) pe_str (fun _ _ => rfl)) (kv (i := 5) v_check_law_fresh)) (pe_lst (pa_cons (pe_tup (pa_cons (kv (i := 3) v_check_law_side) (pa_cons pe_int (pa_cons (pe_joined (.cons pe_str (.cons (pe_fmt (kv (i := 4) v_check_law_gen)) (.cons pe_str (.cons (pe_fmt (kcB b_len (by decide) (by decide) (kc_len K) g_check_len T.n_len (pa_cons (kv (i := 2) v_check_law_parts) pa_nil))) .nil))))) pa_nil)))) pa_nil))) (pg_sub (kv (i := 0) v_check_law_own) pe_str (set_dict (hu_of hr))))
      (pss_cons (ps_asg (kv (i := 3) v_check_law_side) (pg_sub (kv (i := 0) v_check_law_own) pe_str (set_dict (hu_of hr))))
      (pss_cons (ps_asg (kv (i := 4) v_check_law_gen) (pg_sub (kv (i := 0) v_check_law_own) pe_str (set_dict (hu_of hr))))
      (pss_cons (ps_asg (kcB b_len (by decide) (by decide) (kc_len K) g_check_len T.n_len (pa_cons (kv (i := 2) v_check_law_parts) pa_nil)) (pg_sub (kv (i := 0) v_check_law_own) pe_str (set_dict (hu_of hr))))
      (pss_cons (ps_asg pe_int (pg_sub (kv (i := 0) v_check_law_own) pe_str (set_dict (hu_of hr))))
      (pss_cons (ps_asg pe_bl (pg_sub (kv (i := 0) v_check_law_own) pe_str (set_dict (hu_of hr))))
      (pss_one (ps_if (kpt_truth K (kv (i := 1) v_check_law_hard)) (pss_one (ps_expr (pe_call (ok_sync T) (hr.mono (by first | decide | omega)) g_check_law_sync T.m_sync T.k_sync T.b_sync .nil pass0 (pa_cons (kv (i := 0) v_check_law_own) pa_nil)))) pss_nil)))))))))))), ?_⟩
    have ho := hO.ho
    refine k_meet (fun σ H' => σ = [some (.ref g.o), some (.bl b), none, none, none, none, none] ∧ ∃ g1 : OF, g1.v = g.v ∧ Fr g.v H H' ∧ Nw g.l g1.l H ∧ OwnAt H' g1 d.softd) ?_ ?_
    · walk_at "ss"
      refine k_tru ?_
      refine k_dget ?_
      walk_at "ss"
      refine ⟨g.o, _, rfl, DGet.kl ho (i := 6) (by decide +kernel) rfl, ?_⟩
      refine ⟨_, rfl, ?_⟩
      cases es : d.soft with
      | true =>
        walk_at "ss"
        refine ⟨g, d, rfl, hO, hc.ok, fun g' H' e fr nw h => ?_⟩
        refine ⟨rfl, g', e, fr, nw, ?_⟩
        unfold DS.softd
        rw [if_pos es]
        exact h
      | false =>
        walk_at "ss"
        refine ⟨rfl, g, rfl, Fr.refl _ _, Nw.refl _ _, ?_⟩
        unfold DS.softd
        rw [if_neg (by rw [es]; decide)]
        exact hO
    · rintro σ H1 ⟨rfl, g1, ew1, fr1, nw1, ho1, e0, e1, l, hB1⟩
      have eg1 := OF.o_v ew1
      obtain ⟨ea, et, efl, eg⟩ := softd_same d
      obtain ⟨d1, ed1⟩ : ∃ d1, d1 = d.softd := ⟨_, rfl⟩
      have edef := check_def d (d.gen + 1) b
      have hok1 := hc.ok1
      have hok2 := hc.ok2
      have hta := hc.ta
      have hg6 := hc.g6
      have har := hc.ar
      rw [← ed1] at ea et efl eg ho1 hB1 edef hok1 hok2
      rw [← et] at hta
      rw [← eg] at edef hok2 hg6
      rw [← ea] at edef hok2 har
      have hcs := hta.ch.cs
      rw [← eg] at k
      rw [← eg1]
      walk_at "ss"
      refine k_dget ?_
      walk_at "ss"
      refine ⟨g1.o, _, rfl, DGet.kl ho1 (i := 0) (by decide +kernel) rfl, ?_⟩
      walk_at "ss"
      refine ⟨g1.sh, d1.tab, rfl, hB1.hs, hta, fun z H2 hz s2 => ?_⟩
      have hzl := hz.len hcs
      have ep : cutZ z = prt (tabC d1.tab) := by unfold prt; rw [← hz.tx]
      walk_at "ss"
      refine ⟨z, rfl, by omega, fun L H3 nL s3 hL => ?_⟩
      rw [ep] at hL
      have pl := prt_len hcs
      have pz : ∀ y ∈ prt (tabC d1.tab), y.length ≤ 6400 := fun y hy => prt_z hcs hy
      obtain ⟨ps, eps⟩ : ∃ ps : List Str, ps = prt (tabC d1.tab) := ⟨_, rfl⟩
      obtain ⟨a, eaa⟩ : ∃ a, a = 1 - d1.area := ⟨_, rfl⟩
      obtain ⟨gg, egg⟩ : ∃ gg, gg = d1.gen + 1 := ⟨_, rfl⟩
      have etk : d1.take a gg = { d1 with uns := d1.uns ++ (piecesW a gg ps ++ [(a, 0, headT gg ps.length)]), area := a, gen := gg, pieces := ps.length, rows := 0 } := by rw [eps]; rfl
      have ha1 : a ≤ 1 := by omega
      have hgg : gg ≤ 1000000 := by omega
      rw [← eps] at hL pl pz
      rw [← egg] at edef k hok2
      rw [← eaa] at edef hok2
      have s13 := s2.trans s3
      have ho3 := s13 _ _ ho1
      have hB3 := hB1.up s13
      walk_at "ss"
      refine k_dget ?_
      walk_at "ss"
      refine ⟨g1.o, _, rfl, DGet.kl ho3 (i := 2) (by decide +kernel) rfl, ?_⟩
      walk_at "ss"
      refine k_dget ?_
      walk_at "ss"
      refine ⟨g1.o, _, rfl, DGet.kl ho3 (i := 3) (by decide +kernel) rfl, ?_⟩
      walk_at "ss"
      rw [show (1 : Int) - (d1.area : Nat) = (a : Nat) by omega, show ((d1.gen : Nat) : Int) + 1 = (gg : Nat) by omega]
      intro p np
      have s4 := same_new (o := .tup [V.int (a : Nat), V.int (gg : Nat)]) np
      have hp : upd H3 p (.tup [V.int (a : Nat), V.int (gg : Nat)]) p = some (.tup [V.int (a : Nat), V.int (gg : Nat)]) := upd_same
      have ho4 := s4 _ _ ho3
      have hB4 := hB3.up s4
      have hL4 := s4 _ _ hL
      have s14 := s13.trans s4
      generalize upd H3 p (.tup [V.int (a : Nat), V.int (gg : Nat)]) = H4 at s4 hp ho4 hB4 hL4 s14 ⊢
      walk_at "ss"
      rw [List.length_map]
      refine k_r1 (by constructor <;> omega) ?_
      intro D nD
      have nLD : L ≠ D := ne_of_none hL4 nD
      have hpw : ∀ {i : Nat} {zz : Str}, ps[i]? = some zz → (piecesW a gg ps).take (i + 1) = (piecesW a gg ps).take i ++ [(a, i + 1, pieceT gg (i + 1) zz)] := fun {i zz} h => by
        rw [List.take_add_one]
        congr 1
        unfold piecesW
        rw [List.getElem?_map, List.getElem?_zipIdx, h]
        simp
      have hpwl : (piecesW a gg ps).length = ps.length := zip_len _ _
      refine k_lcRange (n := ((ps.length : Nat) : Int).toNat) (fun i H' => Same H4 H' ∧ ∃ lf : UL, H' D = some (.lst (lf.map fun z => V.ref z.1)) ∧ (∀ z ∈ lf, WrAt H' z) ∧ lf.map (·.2) = (piecesW a gg ps).take i) ⟨same_new nD, [], upd_same, fun z hz => absurd hz List.not_mem_nil, rfl⟩ ?_ ?_
      · rintro i H' hi ⟨sm, lf, hD, hws, elf⟩
        rw [Int.toNat_natCast] at hi
        obtain ⟨zz, hzz⟩ : ∃ zz, ps[i]? = some zz := ⟨ps[i], List.getElem?_eq_getElem hi⟩
        have hzz6 := pz _ (List.mem_of_getElem? hzz)
        have hpl := pieceT_len (g := gg) (k := i + 1) (z := zz) hgg (by omega) hzz6
        have elen := congrArg List.length elf
        rw [List.length_map, List.length_take, hpwl] at elen
        have hL5 := sm _ _ hL4
        rw [Int.zero_add]
        walk_at "ss"
        refine ⟨rfl, ?_⟩
        walk_at "ss"
        unfold pieceT at hpl
        simp only [PySem.Str.length_append, len_empty] at hpl
        refine k_jsV (by simp only [PySem.Str.length_append, len_empty]; omega) ?_
        walk_at "ss"
        refine k_fmtI (by omega) ?_
        refine k_jsV (z := numT gg) (by simp only [PySem.Str.length_append, len_empty]; omega) ?_
        walk_at "ss"
        refine k_jsV (by simp only [PySem.Str.length_append, len_empty]; omega) ?_
        walk_at "ss"
        refine k_fmtI (i := ((i + 1 : Nat) : Int)) (by omega) ?_
        refine k_jsV (z := numT (i + 1)) (by simp only [PySem.Str.length_append, len_empty]; omega) ?_
        walk_at "ss"
        refine k_jsV (by simp only [PySem.Str.length_append, len_empty]; omega) ?_
        walk_at "ss"
        refine k_ixL (SqL.of hL5) (v := .str zz) (atI_nat (by rw [List.getElem?_map, hzz]; rfl)) ?_
        refine k_fmtS (by omega) ?_
        refine k_jsV (by simp only [PySem.Str.length_append, len_empty]; omega) ?_
        walk_at "ss"
        intro q nq
        have nqD : D ≠ q := ne_of_none hD nq
        have sq := same_new (o := .tup [V.int (a : Nat), V.int ((i + 1 : Nat) : Int), V.str (pieceT gg (i + 1) zz)]) nq
        refine ⟨_, sq _ _ hD, small_lt (by rw [List.length_map]; omega), same_put (sm.trans sq) nD, lf ++ [(q, (a, i + 1, pieceT gg (i + 1) zz))], ?_, fun z hz => ?_, ?_⟩
        · rw [upd_same, List.map_append]; rfl
        · rcases List.mem_append.mp hz with hz | hz
          · have h1 := sq _ _ (hws z hz)
            exact (upd_ne (ne_of h1 (sq _ _ hD) (by intro q; cases q))).trans h1
          · rw [List.mem_singleton.mp hz]
            exact (upd_ne (Ne.symm nqD)).trans upd_same
        · rw [List.map_append, elf, hpw hzz]
          rfl
      · rintro H5 ⟨sm, lf, hD, hws, elf⟩
        rw [Int.toNat_natCast, List.take_of_length_le (show (piecesW a gg ps).length ≤ ps.length from Nat.le_of_eq hpwl)] at elf
        have ho5 := sm _ _ ho4
        have hB5 := hB4.up sm
        have hL5 := sm _ _ hL4
        have s15 := s14.trans sm
        have lfl := congrArg List.length elf
        rw [List.length_map, hpwl] at lfl
        have hul := congrArg List.length hB5.eu
        rw [List.length_map] at hul
        have hhl := headT_len (g := gg) (n := ps.length) hgg (by omega)
        walk_at "ss"
        refine k_dget ?_
        walk_at "ss"
        refine ⟨g1.o, _, rfl, DGet.kl ho5 (i := 8) (by decide +kernel) rfl, ?_⟩
        walk_at "ss"
        refine k_addL hB5.hu.at_ hD (by rw [List.length_map, List.length_map]; have := hok1.u; omega) fun u1 nu1 => ?_
        have s6 := same_new (o := .lst ((l.map fun z => V.ref z.1) ++ (lf.map fun z => V.ref z.1))) nu1
        have hu1 : upd H5 u1 (.lst ((l.map fun z => V.ref z.1) ++ (lf.map fun z => V.ref z.1))) u1 = some (.lst ((l.map fun z => V.ref z.1) ++ (lf.map fun z => V.ref z.1))) := upd_same
        generalize upd H5 u1 (.lst ((l.map fun z => V.ref z.1) ++ (lf.map fun z => V.ref z.1))) = H6 at s6 hu1 ⊢
        have hL6 := s6 _ _ hL5
        walk_at "ss"
        unfold headT at hhl
        simp only [PySem.Str.length_append, len_empty] at hhl
        refine k_jsV (by simp only [PySem.Str.length_append, len_empty]; omega) ?_
        walk_at "ss"
        refine k_fmtI (by omega) ?_
        refine k_jsV (z := numT gg) (by simp only [PySem.Str.length_append, len_empty]; omega) ?_
        walk_at "ss"
        refine k_jsV (by simp only [PySem.Str.length_append, len_empty]; omega) ?_
        walk_at "ss"
        rw [List.length_map]
        refine k_fmtI (by omega) ?_
        refine k_jsV (z := numT ps.length) (by simp only [PySem.Str.length_append, len_empty]; omega) ?_
        walk_at "ss"
        intro th nth
        have s7 := same_new (o := .tup [V.int (a : Nat), V.int 0, V.str (headT gg ps.length)]) nth
        have hth : upd H6 th (.tup [V.int (a : Nat), V.int 0, V.str (headT gg ps.length)]) th = some (.tup [V.int (a : Nat), V.int 0, V.str (headT gg ps.length)]) := upd_same
        show tNil _ (upd H6 th (.tup [V.int (a : Nat), V.int 0, V.str (headT gg ps.length)])) _
        generalize upd H6 th (.tup [V.int (a : Nat), V.int 0, V.str (headT gg ps.length)]) = H7 at s7 hth ⊢
        walk_at "ss"
        intro q nq
        have s8 := same_new (o := .lst [V.ref th]) nq
        have hq : upd H7 q (.lst [V.ref th]) q = some (.lst [V.ref th]) := upd_same
        have hu8 := s8 _ _ (s7 _ _ hu1)
        generalize upd H7 q (.lst [V.ref th]) = H8 at s8 hq hu8 ⊢
        refine k_addL hu8 hq (by rw [List.length_append, List.length_map, List.length_map]; have := hok1.u; show _ + 1 ≤ _; omega) fun u nu => ?_
        obtain ⟨lall, elall⟩ : ∃ lall : UL, lall = l ++ (lf ++ [(th, (a, 0, headT gg ps.length))]) := ⟨_, rfl⟩
        have ell : (l.map fun z => V.ref z.1) ++ (lf.map fun z => V.ref z.1) ++ [V.ref th] = lall.map fun z => V.ref z.1 := by rw [elall, List.map_append, List.map_append, List.append_assoc]; rfl
        rw [ell]
        have s9 := same_new (o := .lst (lall.map fun z => V.ref z.1)) nu
        have hu9 : upd H8 u (.lst (lall.map fun z => V.ref z.1)) u = some (.lst (lall.map fun z => V.ref z.1)) := upd_same
        have s59 := ((s6.trans s7).trans s8).trans s9
        have huns : UnsAt (upd H8 u (.lst (lall.map fun z => V.ref z.1))) u lall := ⟨hu9, fun z hz => by
          rw [elall] at hz
          rcases List.mem_append.mp hz with hz | hz
          · exact s59 _ _ (hB5.hu.ws z hz)
          · rcases List.mem_append.mp hz with hz | hz
            · exact s59 _ _ (hws z hz)
            · rw [List.mem_singleton.mp hz]
              exact (s8.trans s9) _ _ hth⟩
        have ho9 := s59 _ _ ho5
        have hB9 := hB5.up s59
        have s19 := s15.trans s59
        have hL9 := s59 _ _ hL5
        have nuo : ∀ {x : Addr} {o : HO}, H8 x = some o → x ≠ u := fun h => ne_of_none h nu
        have s58 := (s6.trans s7).trans s8
        have nug : u ∉ g1.l := fun hm => by
          obtain ⟨o, h, _⟩ := OwnAt.live (H := H8) (g := g1) (s := d1) ⟨s58 _ _ ho5, e0, e1, l, hB5.up s58⟩ u hm
          exact nuo h rfl
        have nH1u : H1 u = none := by
          cases e : H1 u with
          | none => rfl
          | some o => exact absurd rfl (nuo ((s15.trans s58) _ _ e))
        generalize upd H8 u (.lst (lall.map fun z => V.ref z.1)) = H9 at s9 hu9 s59 huns ho9 hB9 s19 hL9 ⊢
        have euns : lall.map (·.2) = (d1.take a gg).uns := by
          rw [etk, elall, List.map_append, List.map_append, hB5.eu, elf]
          rfl
        have hB9' := hB9.open (s' := d1.take a gg) (u := u) rfl rfl rfl huns euns nug
        have nLo : L ≠ g1.o := fun e => by rw [e] at hL9; rw [hL9] at ho9; cases ho9
        walk_at "ss"
        refine k_klo ho9 (i := 8) (by decide +kernel) nO_nd (by show 8 < 10; decide) (by decide) fun H10 ho10 e10 => ?_
        walk_at "ss"
        refine k_klo ho10 (i := 2) (by decide +kernel) nO_nd (by show 2 < 10; decide) (by decide) fun H11 ho11 e11 => ?_
        walk_at "ss"
        refine k_klo ho11 (i := 3) (by decide +kernel) nO_nd (by show 3 < 10; decide) (by decide) fun H12 ho12 e12 => ?_
        have hL12 := (e12 L nLo).trans ((e11 L nLo).trans ((e10 L nLo).trans hL9))
        walk_at "ss"
        rw [List.length_map]
        refine k_klo ho12 (i := 4) (by decide +kernel) nO_nd (by show 4 < 10; decide) (by decide) fun H13 ho13 e13 => ?_
        walk_at "ss"
        refine k_klo ho13 (i := 5) (by decide +kernel) nO_nd (by show 5 < 10; decide) (by decide) fun H14 ho14 e14 => ?_
        walk_at "ss"
        refine k_klo ho14 (i := 6) (by decide +kernel) nO_nd (by show 6 < 10; decide) (by decide) fun H15 ho15 e15 => ?_
        have e915 : ∀ x, x ≠ g1.o → H15 x = H9 x := fun x ne => (e15 x ne).trans ((e14 x ne).trans ((e13 x ne).trans ((e12 x ne).trans ((e11 x ne).trans (e10 x ne)))))
        have fr915 : Fr [g1.o] H9 H15 := fun x o h ne => (e915 x (by simpa using ne)).trans h
        have nt : NoT H9 [g1.o] := fun x hx xs => by rw [List.mem_singleton.mp hx, ho9]; intro q; cases q
        have hB15 := hB9'.fr fr915 (fun x hx ne => by simpa using ne) nt
        have ets := take_soft d1 a gg
        obtain ⟨g2, eg2⟩ : ∃ g2 : OF, g2 = { g1 with op := u } := ⟨_, rfl⟩
        have hO15 : OwnAt H15 g2 (d1.take a gg) := by
          subst eg2
          refine ⟨?_, e0, e1, lall, hB15⟩
          show H15 g1.o = some (.dK (KLs nO (vOw _ _)))
          rw [ho15]
          unfold vOw
          rw [ets, etk]
          rfl
        have fr015 : Fr g.v H H15 := by
          refine (fr1.tr (Fr.of s19)).trans fr915 (fun x hx => .inl ?_)
          rw [List.mem_singleton.mp hx, eg1]
          simp [OF.v]
        have nw2 : Nw g.l g2.l H := fun x hx => by
          rw [eg2] at hx
          have hx2 : x = u ∨ x ∈ g1.l := by
            unfold OF.l at hx ⊢
            simp only [List.mem_cons, List.not_mem_nil, or_false] at hx ⊢
            rcases hx with h | h | h | h | h | h
            · exact .inr (.inl h)
            · exact .inr (.inr (.inl h))
            · exact .inr (.inr (.inr (.inl h)))
            · exact .inr (.inr (.inr (.inr (.inl h))))
            · exact .inr (.inr (.inr (.inr (.inr (.inl h)))))
            · exact .inl h
          rcases hx2 with rfl | hx2
          · by_cases hm : x ∈ g.l
            · exact .inl hm
            · refine .inr ?_
              cases e : H x with
              | none => rfl
              | some o => rw [(OF.frl fr1) _ _ e hm] at nH1u; cases nH1u
          · exact nw1 x hx2
        have eg2o : g2.o = g1.o := by rw [eg2]
        have ew2 : g2.v = g.v := by rw [eg2]; exact ew1
        walk_at "ss"
        refine k_tru ?_
        walk_at "ss"
        refine ⟨b, rfl, ?_⟩
        cases b with
        | false =>
          refine k_f ?_
          walk_at "ss"
          refine k g2 H15 ew2 fr015 nw2 ?_
          rw [edef, if_neg Bool.false_ne_true]
          exact hO15
        | true =>
          refine k_t ?_
          walk_at "ss"
          refine ⟨g2, d1.take a gg, by rw [eg2o]; rfl, hO15, hok2, fun g' H' e fr nw h => ?_⟩
          refine k g' H' (e.trans ew2) (fr015.tr (ew2 ▸ fr)) (nw2.trans nw (OF.frl fr015)) ?_
          rw [edef, if_pos rfl]
          exact h
end

section
open TL
variable {w : World} {K : PySem.W.Frag} {mg : Str → Option Value} {base : Heap}
/-! ### the law's write -/
theorem join_row (g s l : Nat) (z : Str) : Txt.join (" " : Str) [("row" : Str), numT g, numT s, numT l, z] = rowT g s l z := by
  show Builtin.Str.glued (" " : Str) [("row" : Str), numT g, numT s, numT l, z] = _
  apply str_cps
  unfold rowT Builtin.Str.glued
  simp only [List.drop_succ_cons, List.drop_zero, List.foldl_cons, List.foldl_nil, List.headD_cons, Array.toList_append, cps_app, numT_cps, cps_blank, cps_empty, show ("row " : Str).cps.toList = [114, 111, 119, 32] by decide +kernel, show ("row" : Str).cps.toList = [114, 111, 119] by decide +kernel, List.nil_append, List.cons_append, List.append_assoc]
theorem part_pos (k : Str) (o : Option Str) : 0 < (partT k o).length := by
  have l1 : ("!;" : Str).length = 2 := by decide +kernel
  have l3 : (";" : Str).length = 1 := by decide +kernel
  cases o with
  | none =>
    simp only [partT, PySem.Str.length_append, len_empty, l1]
    omega
  | some v =>
    simp only [partT, PySem.Str.length_append, len_empty, l3]
    omega
theorem TextOf.pos {cs : CsL} {z : Str} (h : TextOf cs z) (hz : cs.length ≠ 0) : 0 < z.length := by
  obtain ⟨ys, p, s, rfl⟩ := h
  have hl := p.length_eq
  rw [List.length_map] at hl
  cases ys with
  | nil => exact absurd hl.symm hz
  | cons y ys =>
    unfold textS
    rw [List.map_cons]
    have h1 := size_gluedFold Str.empty (ys.map fun k => partT k ((getC cs k).getD none)) (partT y ((getC cs y).getD none)).cps
    have h2 : 0 < (partT y ((getC cs y).getD none)).cps.size := part_pos _ _
    show 0 < (List.foldl (fun acc p => acc ++ Str.empty.cps ++ p.cps) (partT y ((getC cs y).getD none)).cps (ys.map fun k => partT k ((getC cs k).getD none))).size
    rw [h1]
    omega
theorem prt_pos {cs : CsL} {z : Str} (h : TextOf cs z) (hz : cs.length ≠ 0) : 0 < (prt cs).length := by
  have h1 := h.pos hz
  unfold prt cutZ cutN
  rw [← h.tx, List.length_map, List.length_range]
  omega
theorem prt_nil : prt [] = [] := by
  have h : TextOf [] Str.empty := ⟨[], List.Perm.refl _, rfl, rfl⟩
  unfold prt
  rw [← h.tx]
  rfl
theorem recd_nil (s : DS) : s.recd [] = s := by
  show DS.mk _ _ _ _ _ _ _ _ _ _ _ = s
  rw [prt_nil]
  cases s
  simp [rowsW, applyC]
noncomputable def DS.w1 (s : DS) (g : Nat) (cs : CsL) : DS := if cs.length = 0 then s else s.wck g cs
theorem write_w1 (s : DS) (g : Nat) (cs : CsL) : s.write g cs = (s.w1 g cs).recd cs := by
  unfold DS.write DS.w1
  by_cases h : cs.length = 0
  · rw [if_pos h, if_pos h, List.eq_nil_of_length_eq_zero h, recd_nil]
  · rw [if_neg h, if_neg h]
theorem soft_rows (s : DS) (ws : List Wr) (h : ∀ x ∈ ws, 0 < x.2.1) : ({ s with uns := s.uns ++ ws } : DS).soft = s.soft := by
  show (s.uns ++ ws).any _ = s.uns.any _
  rw [List.any_append]
  have : ws.any (fun x => decide (x.1 = s.area) && decide (x.2.1 = 0)) = false := by
    rw [List.any_eq_false]
    intro x hx
    have := h x hx
    rw [decide_eq_false (show ¬ x.2.1 = 0 by omega), Bool.and_false]
    decide
  show (_ || ws.any (fun x => decide (x.1 = s.area) && decide (x.2.1 = 0))) = _
  rw [this, Bool.or_false]
theorem rows_pos {a p r g : Nat} {ps : List Str} : ∀ x ∈ rowsW a p r g ps, 0 < x.2.1 := fun x hx => by
  obtain ⟨z, k, hz, hk, rfl⟩ := zip_mem hx
  show 0 < p + r + k + 1
  omega
theorem OwnB.setS {H : Hp} {g : OF} {s s' : DS} {e0 e1 : CT} {l : UL} (h : OwnB H g s e0 e1 l) (a2 : s'.c0 = s.c0) (a3 : s'.c1 = s.c1) (a4 : s'.uns = s.uns) : OwnB (upd H g.sh (.dK (kT s'.tab))) g s' e0 e1 l := by
  obtain ⟨n1, n2, n3, n4, n5, n6, n7, n8, n9, n10, n11, n12, n13, n14, n15⟩ := OF.nds h.nd
  have fr : Fr [g.sh] H (upd H g.sh (.dK (kT s'.tab))) := (Fr.refl _ _).put (.inl (by simp))
  exact ⟨h.nd, upd_same, fr _ _ h.hh (by simpa using Ne.symm n6), fr _ _ h.h0 (by simpa using Ne.symm n7), fr _ _ h.h1 (by simpa using Ne.symm n8), a2 ▸ h.q0, a3 ▸ h.q1, h.hu.fr fr (fun x hx xs => by rw [List.mem_singleton.mp hx, h.hs]; intro q; cases q) (by simpa using Ne.symm n9), a4 ▸ h.eu⟩
theorem OwnB.off {H : Hp} {g : OF} {s : DS} {e0 e1 : CT} {l : UL} {x : Addr} {o : HO} (h : OwnB H g s e0 e1 l) (hx : x ∉ g.l) (hk : ∀ xs, H x ≠ some (.tup xs)) : OwnB (upd H x o) g s e0 e1 l := by
  have fr : Fr [x] H (upd H x o) := (Fr.refl _ _).put (.inl (by simp))
  exact h.fr fr (fun y hy _ q => hx (by rw [← List.mem_singleton.mp q]; exact hy)) (fun y hy xs => by rw [List.mem_singleton.mp hy]; exact hk xs)
def spWriteL : Sp := fun vs H Q _ => ∃ (g : OF) (s : DS) (c : Addr) (cs : CsL), vs = [.ref g.o, .ref c] ∧ OwnAt H g s ∧ H c = some (.dK (kC cs)) ∧ c ∉ g.l ∧ ChOk cs ∧ s.uns.length ≤ 30000 ∧ s.tab.length ≤ 1000 ∧ (cs.length ≠ 0 → WrtOk s s.gen cs) ∧ ∀ (g' : OF) (H' : Hp) (n : Nat), g'.v = g.v → Fr g.v H H' → Nw g.l g'.l H → OwnAt H' g' (s.write (s.gen + 1) cs) → Q (.int (n : Nat)) H'
theorem ok_write (T : Tx K mg) : FnOk P w K mg base CX0 3 T.a_write T.fd_write P_write spWriteL := by
  refine T.F_write.ok sc_write (fun vs H Q E h => ?_) (fun cdv A outer s H vs Q E hr h => ?_)
  · obtain ⟨g, s, c, cs, rfl, _⟩ := h
    rfl
  · obtain ⟨g, d, c, cs, rfl, hO, hd, hcg, hch, hul, htl, hw, k⟩ := h
    have nd := sc_write.nd
    refine ⟨_, (pss_cons (ks_setL (i := 2) nd l_write_law_parts (pe_call (ok_cut T) (hr.mono (by first | decide | omega)) g_write_law_cut T.m_cut T.k_cut T.b_cut .nil pass0 (pa_cons (pe_call (ok_recorded T) (hr.mono (by first | decide | omega)) g_write_law_recorded T.m_recorded T.k_recorded T.b_recorded .nil pass0 (pa_cons (kv (i := 1) v_write_law_pairs_here) pa_nil)) pa_nil)))
      (kss_meet (ps_if (PW.pt (pw_and (pt_cmpR op_gt (pe_dget (hu_of hr) (kv (i := 0) v_write_law_own) pe_str (fun _ _ => rfl)) pe_int (nomark _)) (pw_and (kpt_truth K (kv (i := 2) v_write_law_parts)) (pw_and1 (pt_cmpR op_gt (pe_op kop_add (pe_dget (hu_of hr) (kv (i := 0) v_write_law_own) pe_str (fun _ _ => rfl)) (kcB b_len (by decide) (by decide) (kc_len K) g_write_len T.n_len (pa_cons (kv (i := 2) v_write_law_parts) pa_nil))) (pe_dget (hu_of hr) (kv (i := 0) v_write_law_own) pe_str (fun _ _ => rfl)) (nomark _)))))) (pss_one (ps_expr (pe_call (ok_check T) (hr.mono (by first | decide | omega)) g_write_law_check T.m_check T.k_check T.b_check .nil pass0 (pa_cons (kv (i := 0) v_write_law_own) (pa_cons pe_bl pa_nil))))) pss_nil)
      (pss_cons (ps_for PassesOwn.never rfl (pi_range1 g_write_range T.n_range (pa_cons (kcB b_len (by decide) (by decide) (kc_len K) g_write_len T.n_len (pa_cons (kv (i := 2) v_write_law_parts) pa_nil)) pa_nil)) (kgL (i := 3) nd l_write_law_k) (pss_cons (ks_setL (i := 4) nd l_write_law_serial (pe_op kop_add (pe_op kop_add (pe_dget (hu_of hr) (kv (i := 0) v_write_law_own) pe_str (fun _ _ => rfl)) (kv (i := 3) v_write_law_k)) pe_int))
      (pss_cons (ks_setL (i := 5) nd l_write_law_text (kpe_join K pe_str (pe_lst (pa_cons pe_str (pa_cons (kcT b_str (by decide) (by decide) kc_str g_write_str T.n_str (pa_cons (pe_dget (hu_of hr) (kv (i := 0) v_write_law_own) pe_str (fun _ _ => rfl)) pa_nil)) (pa_cons (kcT b_str (by decide) (by decide) kc_str g_write_str T.n_str (pa_cons (kv (i := 4) v_write_law_serial) pa_nil)) (pa_cons (kcT b_str (by decide) (by decide) kc_str g_write_str T.n_str (pa_cons (pe_op op_sub (pe_op op_sub (kcB b_len (by decide) (by decide) (kc_len K) g_write_len T.n_len (pa_cons (kv (i := 2) v_write_law_parts) pa_nil)) (kv (i := 3) v_write_law_k)) pe_int) pa_nil)) (pa_cons (pe_ix (kix K) (kv (i := 2) v_write_law_parts) (kv (i := 3) v_write_law_k) (fun _ _ => rfl)) pa_nil))))))))
      (pss_one (ps_asg (pe_op kop_add (pe_dget (hu_of hr) (kv (i := 0) v_write_law_own) pe_str (fun _ _ => rfl)) (pe_lst (pa_cons (pe_tup (pa_cons (pe_dget (hu_of hr) (kv (i := 0) v_write_law_own) pe_str (fun _ _ => rfl)) (pa_cons (pe_op kop_add (pe_dget (hu_of hr) (kv (i := 0) v_write_law_own) pe_str (fun _ _ => rfl)) (kv (i := 4) v_write_law_serial)) (pa_cons (kv (i := 5) v_write_law_text) pa_nil)))) pa_nil))) (pg_sub (kv (i := 0) v_write_law_own) pe_str (set_dict (hu_of hr))))))))
      (pss_cons (ps_asg (pe_op kop_add (pe_dget (hu_of hr) (kv (i := 0) v_write_law_own) pe_str (fun _ _ => rfl)) (kcB b_len (by decide) (by decide) (kc_len K) g_write_len T.n_len (pa_cons (kv (i := 2) v_write_law_parts) pa_nil))) (pg_sub (kv (i := 0) v_write_law_own) pe_str (set_dict (hu_of hr))))
      (pss_cons (ks_setL (i := 6) nd l_write_law_shelf_here (pe_dget (hu_of hr) (kv (i := 0) v_write_law_own) pe_str (fun _ _ => rfl)))
      (pss_cons (ps_lock (ps_for PassesOwn.never rfl (pi_keys (kv (i := 1) v_write_law_pairs_here)) (kgL (i := 7) nd l_write_law_key_here) (pss_one (ps_if (pt_cmpR op_isN (pe_dget (hu_of hr) (kv (i := 1) v_write_law_pairs_here) (kv (i := 7) v_write_law_key_here) (fun _ _ => rfl)) pe_non (nomark _)) (pss_one (ps_expr (pe_dpop2 (kv (i := 6) v_write_law_shelf_here) (kv (i := 7) v_write_law_key_here) pe_non ⟨rfl, rfl, rfl, rfl⟩))) (pss_one (ps_asg (pe_dget (hu_of hr) (kv (i := 1) v_write_law_pairs_here) (kv (i := 7) v_write_law_key_here) (fun _ _ => rfl)) (pg_sub (kv (i := 6) v_write_law_shelf_here) (kv (i := 7) v_write_law_key_here) (set_dict (hu_of hr)))))))))
      (pss_one (ps_ret (kcB b_len (by decide) (by decide) (kc_len K) g_write_len T.n_len (pa_cons (kv (i := 2) v_write_law_parts) pa_nil)))))))))), ?_⟩
    have hcs := hch.cs
    rw [write_w1] at k
    walk_at "ss"
    refine ⟨c, cs, rfl, hd, hcs, fun z H1 hz s1 => ?_⟩
    have hzl := hz.len hcs
    have ep : cutZ z = prt cs := by unfold prt; rw [← hz.tx]
    walk_at "ss"
    refine ⟨z, rfl, by omega, fun L H2 nL s2 hL => ?_⟩
    rw [ep] at hL
    have pl := prt_len hcs
    have pz : ∀ y ∈ prt cs, y.length ≤ 6400 := fun y hy => prt_z hcs hy
    have ppos := prt_pos hz
    obtain ⟨ps, eps⟩ : ∃ ps : List Str, ps = prt cs := ⟨_, rfl⟩
    obtain ⟨d1, ed1⟩ : ∃ d1 : DS, d1 = d.w1 (d.gen + 1) cs := ⟨_, rfl⟩
    have erec : d1.recd cs = { d1 with uns := d1.uns ++ rowsW d1.area d1.pieces d1.rows d1.gen ps, rows := d1.rows + ps.length, tab := applyC cs d1.tab } := by rw [eps]; rfl
    have hzero : cs.length = 0 → ps = [] := fun h => by rw [eps, List.eq_nil_of_length_eq_zero h]; exact prt_nil
    rw [← ed1] at k
    rw [erec] at k
    have s12 := s1.trans s2
    rw [← eps] at hL pl pz ppos
    have hO2 := hO.up s12
    have nLo : ∀ {x : Addr} {o : HO}, H x = some o → x ≠ L := fun h => ne_of_none (s1 _ _ h) nL
    have hLg : L ∉ g.l := fun hm => by
      obtain ⟨o, h, _⟩ := hO.live L hm
      exact nLo h rfl
    have ho2 := hO2.ho
    refine k_gName ?_
    dsimp only
    refine k_meet (fun σ H3 => σ = [some (.ref g.o), some (.ref c), some (.ref L), none, none, none, none, none] ∧ ∃ g1 : OF, g1.v = g.v ∧ Fr g.v H H3 ∧ Nw g.l g1.l H ∧ L ∉ g1.l ∧ H3 L = some (.lst (ps.map V.str)) ∧ OwnAt H3 g1 d1) ?_ ?_
    · have stay : d1 = d → (fun (σ : L2.St) (H3 : Hp) => σ = [some (V.ref g.o), some (V.ref c), some (V.ref L), none, none, none, none, none] ∧ ∃ g1 : OF, g1.v = g.v ∧ Fr g.v H H3 ∧ Nw g.l g1.l H ∧ L ∉ g1.l ∧ H3 L = some (.lst (ps.map V.str)) ∧ OwnAt H3 g1 d1) [some (V.ref g.o), some (V.ref c), some (V.ref L), none, none, none, none, none] H2 := fun h => ⟨rfl, g, rfl, Fr.of s12, Nw.refl _ _, hLg, hL, by rw [h]; exact hO2⟩
      have d1no : d.fullB ps.length = false → d1 = d := fun h => by
        rw [ed1]
        unfold DS.w1 DS.wck
        rw [← eps]
        split
        · rfl
        · rw [if_neg (by rw [h]; decide)]
      walk_at "ss"
      refine k_dget ?_
      walk_at "ss"
      refine ⟨g.o, _, rfl, DGet.kl ho2 (i := 5) (by decide +kernel) rfl, ?_⟩
      walk_at "ss"
      refine k_d (fun h1 => ?_) (fun h1 => ?_)
      · walk_at "ss"
        refine k_tru ?_
        walk_at "ss"
        refine ⟨_, .inl ⟨_, SqL.of hL, rfl⟩, ?_⟩
        cases hps : ps with
        | nil =>
          refine k_f ?_
          walk_at "ss"
          rw [← hps]
          have hz0 : cs.length = 0 := by
            by_cases e : cs.length = 0
            · exact e
            · have := ppos e
              rw [hps] at this
              cases this
          exact stay (by rw [ed1]; unfold DS.w1; rw [if_pos hz0])
        | cons y ys =>
          refine k_t ?_
          walk_at "ss"
          rw [← hps]
          have hnz : cs.length ≠ 0 := fun e => by rw [hzero e] at hps; cases hps
          refine k_dget ?_
          walk_at "ss"
          refine ⟨g.o, _, rfl, DGet.kl ho2 (i := 5) (by decide +kernel) rfl, ?_⟩
          walk_at "ss"
          rw [List.length_map]
          refine k_dget ?_
          walk_at "ss"
          refine ⟨g.o, _, rfl, DGet.kl ho2 (i := 1) (by decide +kernel) rfl, ?_⟩
          walk_at "ss"
          refine k_d (fun h2 => ?_) (fun h2 => ?_)
          · walk_at "ss"
            have hfull : d.fullB ps.length = true := by
              unfold DS.fullB
              rw [decide_eq_true (show 0 < d.rows by omega), decide_eq_true (show d.most < ((d.rows + ps.length : Nat) : Int) by omega)]
              rfl
            refine ⟨g, d, true, rfl, hO2, (hw hnz).ck, fun g' H' e fr nw h => ?_⟩
            refine ⟨rfl, g', e, (Fr.of s12).trans fr (fun x hx => .inl hx), nw.back s12, fun hm => ?_, fr _ _ hL (OF.nw hLg), ?_⟩
            · rcases nw _ hm with q | q
              · exact hLg q
              · rw [hL] at q; cases q
            · rw [ed1]
              unfold DS.w1 DS.wck
              rw [if_neg hnz, ← eps, if_pos hfull]
              exact h
          · walk_at "ss"
            refine stay (d1no ?_)
            unfold DS.fullB
            rw [decide_eq_false (show ¬ d.most < ((d.rows + ps.length : Nat) : Int) by omega), Bool.and_false]
      · walk_at "ss"
        refine stay (d1no ?_)
        unfold DS.fullB
        rw [decide_eq_false (show ¬ 0 < d.rows by omega), Bool.false_and]
    · rintro σ H3 ⟨rfl, g1, ew1, fr3, nw3, hLg1, hL3, hO3⟩
      have eg1 := OF.o_v ew1
      have hcg1 : c ∉ g1.l := fun hm => by
        rcases nw3 _ hm with q | q
        · exact hcg q
        · rw [hd] at q; cases q
      have hd3 := fr3 _ _ hd (OF.nw hcg)
      rw [← eg1]
      have bnd : cs.length ≠ 0 → d1.pieces ≤ 1000 ∧ d1.rows ≤ 1000 ∧ d1.gen ≤ 1000000 ∧ d1.uns.length + ps.length ≤ 30000 ∧ d1.tab.length ≤ 1000 := fun h => by
        have e : d1 = d.wck (d.gen + 1) cs := by rw [ed1]; unfold DS.w1; rw [if_neg h]
        have hw := hw h
        have ho := hw.ok.u
        refine ⟨e ▸ hw.p, e ▸ hw.r, e ▸ hw.g, ?_, e ▸ hw.tb⟩
        rw [← e, erec] at ho
        have hrl : (rowsW d1.area d1.pieces d1.rows d1.gen ps).length = ps.length := zip_len _ _
        simp only [List.length_append, hrl] at ho
        exact ho
      walk_at "ss"
      rw [List.length_map]
      refine k_r1 (by constructor <;> omega) ?_
      have hrl : (rowsW d1.area d1.pieces d1.rows d1.gen ps).length = ps.length := zip_len _ _
      refine k_forRange (n := ((ps.length : Nat) : Int).toNat) (fun i σ H' => (∃ u3 u4 u5, σ = [some (.ref g1.o), some (.ref c), some (.ref L), u3, u4, u5, none, none]) ∧ H' L = some (.lst (ps.map V.str)) ∧ ∃ g2 : OF, g2.v = g1.v ∧ g2.sh = g1.sh ∧ Fr g1.v H3 H' ∧ Nw g1.l g2.l H3 ∧ OwnAt H' g2 { d1 with uns := d1.uns ++ (rowsW d1.area d1.pieces d1.rows d1.gen ps).take i }) ⟨⟨none, none, none, rfl⟩, hL3, g1, rfl, rfl, Fr.refl _ _, Nw.refl _ _, by simpa using hO3⟩ ?_ ?_
      · rintro i σ H' hi ⟨⟨u3, u4, u5, rfl⟩, hL4, g2, ew2, esh, fr4, nw4, hO4⟩
        have eg2 := OF.o_v ew2
        rw [Int.toNat_natCast] at hi
        obtain ⟨zz, hzz⟩ : ∃ zz, ps[i]? = some zz := ⟨ps[i], List.getElem?_eq_getElem hi⟩
        have hzz6 := pz _ (List.mem_of_getElem? hzz)
        have hnz : cs.length ≠ 0 := fun e => by rw [hzero e] at hi; cases hi
        obtain ⟨bp, br, bg, bu, bt⟩ := bnd hnz
        have hpl := rowT_len (g := d1.gen) (s := d1.rows + i + 1) (l := ps.length - i - 1) (z := zz) bg (by omega) (by omega) hzz6
        have htk1 : (rowsW d1.area d1.pieces d1.rows d1.gen ps).take (i + 1) = (rowsW d1.area d1.pieces d1.rows d1.gen ps).take i ++ [(d1.area, d1.pieces + d1.rows + i + 1, rowT d1.gen (d1.rows + i + 1) (ps.length - i - 1) zz)] := by
          rw [List.take_add_one]
          congr 1
          unfold rowsW
          rw [List.getElem?_map, List.getElem?_zipIdx, hzz]
          simp
        have htkp : ∀ x ∈ (rowsW d1.area d1.pieces d1.rows d1.gen ps).take i, 0 < x.2.1 := fun x hx => rows_pos x (List.mem_of_mem_take hx)
        have htkp1 : ∀ x ∈ (rowsW d1.area d1.pieces d1.rows d1.gen ps).take (i + 1), 0 < x.2.1 := fun x hx => rows_pos x (List.mem_of_mem_take hx)
        obtain ⟨ho4, e0, e1, l4, hB4⟩ := hO4
        have ho4 : H' g1.o = some (.dK (KLs nO [.ref g1.sh, .int d1.most, .int (d1.area : Nat), .int (d1.gen : Nat), .int (d1.pieces : Nat), .int (d1.rows : Nat), .bl d1.soft, .ref g2.hd, .ref g2.op, .int (d1.syncs : Nat)])) := by
          rw [eg2] at ho4
          unfold vOw at ho4
          rw [soft_rows d1 _ htkp, esh] at ho4
          exact ho4
        have elen := congrArg List.length hB4.eu
        rw [List.length_map, List.length_append, List.length_take, hrl] at elen
        rw [Int.zero_add]
        walk_at "ss"
        refine k_dget ?_
        walk_at "ss"
        refine ⟨g1.o, _, rfl, DGet.kl ho4 (i := 5) (by decide +kernel) rfl, ?_⟩
        walk_at "ss"
        refine k_dget ?_
        walk_at "ss"
        refine ⟨g1.o, _, rfl, DGet.kl ho4 (i := 3) (by decide +kernel) rfl, ?_⟩
        walk_at "ss"
        refine k_str1 (by omega) ?_
        walk_at "ss"
        refine k_str1 (i := ((d1.rows + i + 1 : Nat) : Int)) (by omega) ?_
        walk_at "ss"
        rw [List.length_map, show ((ps.length : Nat) : Int) - (i : Nat) - 1 = ((ps.length - i - 1 : Nat) : Int) by omega]
        refine k_str1 (by omega) ?_
        walk_at "ss"
        refine k_ixL (SqL.of hL4) (v := .str zz) (atI_nat (by rw [List.getElem?_map, hzz]; rfl)) ?_
        walk_at "ss"
        intro j nj
        have s5 := same_new (o := .lst [V.str ("row" : Str), V.str (numT d1.gen), V.str (numT (d1.rows + i + 1)), V.str (numT (ps.length - i - 1)), V.str zz]) nj
        have hj : upd H' j (.lst [V.str ("row" : Str), V.str (numT d1.gen), V.str (numT (d1.rows + i + 1)), V.str (numT (ps.length - i - 1)), V.str zz]) j = some (.lst ([("row" : Str), numT d1.gen, numT (d1.rows + i + 1), numT (ps.length - i - 1), zz].map V.str)) := upd_same
        show rJoin K (V.str (" " : Str)) (V.ref j) (upd H' j (.lst [V.str ("row" : Str), V.str (numT d1.gen), V.str (numT (d1.rows + i + 1)), V.str (numT (ps.length - i - 1)), V.str zz])) _
        generalize upd H' j (.lst [V.str ("row" : Str), V.str (numT d1.gen), V.str (numT (d1.rows + i + 1)), V.str (numT (ps.length - i - 1)), V.str zz]) = H5 at s5 hj ⊢
        have q1 := numT_len (n := d1.gen) (by omega)
        have q2 := numT_len (n := d1.rows + i + 1) (by omega)
        have q3 := numT_len (n := ps.length - i - 1) (by omega)
        refine k_joinL (SqL.of hj) ?_ fun out eout => ?_
        · simp only [List.map_cons, List.map_nil, List.sum_cons, List.sum_nil, List.length_cons, List.length_nil, show ("row" : Str).length = 3 by decide +kernel, show (" " : Str).length = 1 by decide +kernel]
          omega
        rw [join_row] at eout
        subst eout
        have ho5 := s5 _ _ ho4
        have hB5 := hB4.up s5
        have hL5 := s5 _ _ hL4
        walk_at "ss"
        refine k_dget ?_
        walk_at "ss"
        refine ⟨g1.o, _, rfl, DGet.kl ho5 (i := 8) (by decide +kernel) rfl, ?_⟩
        walk_at "ss"
        refine k_dget ?_
        walk_at "ss"
        refine ⟨g1.o, _, rfl, DGet.kl ho5 (i := 2) (by decide +kernel) rfl, ?_⟩
        walk_at "ss"
        refine k_dget ?_
        walk_at "ss"
        refine ⟨g1.o, _, rfl, DGet.kl ho5 (i := 4) (by decide +kernel) rfl, ?_⟩
        walk_at "ss"
        intro th nth
        obtain ⟨xw, exw⟩ : ∃ xw : Wr, xw = (d1.area, d1.pieces + d1.rows + i + 1, rowT d1.gen (d1.rows + i + 1) (ps.length - i - 1) zz) := ⟨_, rfl⟩
        have eidx : ((d1.pieces : Nat) : Int) + (((d1.rows : Nat) : Int) + (i : Nat) + 1) = ((d1.pieces + d1.rows + i + 1 : Nat) : Int) := by omega
        rw [eidx]
        have s6 := same_new (o := .tup [V.int (d1.area : Nat), V.int ((d1.pieces + d1.rows + i + 1 : Nat) : Int), V.str (rowT d1.gen (d1.rows + i + 1) (ps.length - i - 1) zz)]) nth
        have hth : WrAt (upd H5 th (.tup [V.int (d1.area : Nat), V.int ((d1.pieces + d1.rows + i + 1 : Nat) : Int), V.str (rowT d1.gen (d1.rows + i + 1) (ps.length - i - 1) zz)])) (th, xw) := by rw [exw]; exact upd_same
        generalize upd H5 th (.tup [V.int (d1.area : Nat), V.int ((d1.pieces + d1.rows + i + 1 : Nat) : Int), V.str (rowT d1.gen (d1.rows + i + 1) (ps.length - i - 1) zz)]) = H6 at s6 hth ⊢
        walk_at "ss"
        intro q nq
        have s7 := same_new (o := .lst [V.ref th]) nq
        have hq : upd H6 q (.lst [V.ref th]) q = some (.lst [V.ref th]) := upd_same
        generalize upd H6 q (.lst [V.ref th]) = H7 at s7 hq ⊢
        have s57 := (s5.trans s6).trans s7
        have hu7 := s57 _ _ hB4.hu.at_
        refine k_addL hu7 hq (by rw [List.length_map]; show _ + 1 ≤ _; omega) fun u nu => ?_
        have ell : (l4.map fun z => V.ref z.1) ++ [V.ref th] = (l4 ++ [(th, xw)]).map fun z => V.ref z.1 := by rw [List.map_append]; rfl
        rw [ell]
        have s8 := same_new (o := .lst ((l4 ++ [(th, xw)]).map fun z => V.ref z.1)) nu
        have hu8 : upd H7 u (.lst ((l4 ++ [(th, xw)]).map fun z => V.ref z.1)) u = some (.lst ((l4 ++ [(th, xw)]).map fun z => V.ref z.1)) := upd_same
        have s58 := s57.trans s8
        have huns : UnsAt (upd H7 u (.lst ((l4 ++ [(th, xw)]).map fun z => V.ref z.1))) u (l4 ++ [(th, xw)]) := ⟨hu8, fun z hz => by
          rcases List.mem_append.mp hz with hz | hz
          · exact s58 _ _ (hB4.hu.ws z hz)
          · rw [List.mem_singleton.mp hz]
            exact (s7.trans s8) _ _ hth⟩
        have ho8 := s58 _ _ ho4
        have hB8 := hB4.up s58
        have hL8 := s58 _ _ hL4
        have nuo : ∀ {x : Addr} {o : HO}, H7 x = some o → x ≠ u := fun h => ne_of_none h nu
        have nug : u ∉ g2.l := fun hm => by
          unfold OF.l at hm
          simp only [List.mem_cons, List.not_mem_nil, or_false] at hm
          rcases hm with e | e | e | e | e | e
          · exact nuo (s57 _ _ ho4) (by rw [e, eg2])
          · exact nuo (s57 _ _ hB4.hs) e.symm
          · exact nuo (s57 _ _ hB4.hh) e.symm
          · exact nuo (s57 _ _ hB4.h0) e.symm
          · exact nuo (s57 _ _ hB4.h1) e.symm
          · exact nuo (s57 _ _ hB4.hu.at_) e.symm
        have nHu : H' u = none := by
          cases e : H' u with
          | none => rfl
          | some o => exact absurd rfl (nuo (s57 _ _ e))
        generalize upd H7 u (.lst ((l4 ++ [(th, xw)]).map fun z => V.ref z.1)) = H8 at s8 hu8 s58 huns ho8 hB8 hL8 ⊢
        have hB8' := hB8.open (s' := { d1 with uns := d1.uns ++ (rowsW d1.area d1.pieces d1.rows d1.gen ps).take (i + 1) }) (u := u) rfl rfl rfl huns (by
          rw [List.map_append, hB8.eu, htk1, ← exw]
          show (d1.uns ++ _) ++ [xw] = d1.uns ++ (_ ++ [xw])
          rw [List.append_assoc]) nug
        have nLo1 : L ≠ g1.o := fun e => hLg1 (by rw [e]; simp [OF.l])
        walk_at "ss"
        refine k_klo ho8 (i := 8) (by decide +kernel) nO_nd (by show 8 < 10; decide) (by decide) fun H9 ho9 e9 => ?_
        have fr89 : Fr [g1.o] H8 H9 := fun x o h ne => (e9 x (by simpa using ne)).trans h
        have nt : NoT H8 [g1.o] := fun x hx xs => by rw [List.mem_singleton.mp hx, ho8]; intro q; cases q
        have hB9 := hB8'.fr fr89 (fun x hx ne => by rw [List.mem_singleton, ← eg2]; exact ne) nt
        refine ⟨⟨_, _, _, rfl⟩, (e9 L nLo1).trans hL8, { g2 with op := u }, ew2, esh, (fr4.same s58).trans fr89 (fun x hx => .inl (by rw [List.mem_singleton.mp hx]; simp [OF.v])), fun x hx => ?_, ⟨?_, e0, e1, _, hB9⟩⟩
        · have hx2 : x = u ∨ x ∈ g2.l := by
            unfold OF.l at hx ⊢
            simp only [List.mem_cons, List.not_mem_nil, or_false] at hx ⊢
            rcases hx with h | h | h | h | h | h
            · exact .inr (.inl h)
            · exact .inr (.inr (.inl h))
            · exact .inr (.inr (.inr (.inl h)))
            · exact .inr (.inr (.inr (.inr (.inl h))))
            · exact .inr (.inr (.inr (.inr (.inr (.inl h)))))
            · exact .inl h
          rcases hx2 with rfl | hx2
          · by_cases hm : x ∈ g1.l
            · exact .inl hm
            · refine .inr ?_
              cases e : H3 x with
              | none => rfl
              | some o => rw [(OF.frl fr4) _ _ e hm] at nHu; cases nHu
          · exact nw4 x hx2
        · show H9 g2.o = _
          rw [eg2, ho9]
          unfold vOw
          rw [soft_rows d1 _ htkp1]
          show _ = some (HO.dK (KLs nO [.ref g2.sh, _, _, _, _, _, _, _, _, _]))
          rw [esh]
          rfl
      · rintro σ H4 ⟨⟨u3, u4, u5, rfl⟩, hL4, g2, ew2, esh, fr4, nw4, hO4⟩
        have eg2 := OF.o_v ew2
        rw [Int.toNat_natCast, List.take_of_length_le (Nat.le_of_eq hrl)] at hO4
        obtain ⟨ho4, e0, e1, l4, hB4⟩ := hO4
        have ho4 : H4 g1.o = some (.dK (KLs nO [.ref g1.sh, .int d1.most, .int (d1.area : Nat), .int (d1.gen : Nat), .int (d1.pieces : Nat), .int (d1.rows : Nat), .bl d1.soft, .ref g2.hd, .ref g2.op, .int (d1.syncs : Nat)])) := by
          rw [eg2] at ho4
          unfold vOw at ho4
          rw [soft_rows d1 _ rows_pos, esh] at ho4
          exact ho4
        have hcg2 : c ∉ g2.l := fun hm => by
          rcases nw4 _ hm with q | q
          · exact hcg1 q
          · rw [hd3] at q; cases q
        have hLg2 : L ∉ g2.l := fun hm => by
          rcases nw4 _ hm with q | q
          · exact hLg1 q
          · rw [hL3] at q; cases q
        have hd4 := fr4 _ _ hd3 (OF.nw hcg1)
        have nco : c ≠ g1.o := fun e => hcg1 (by rw [e]; simp [OF.l])
        have nLo1 : L ≠ g1.o := fun e => hLg1 (by rw [e]; simp [OF.l])
        have ncL : c ≠ L := nLo hd
        walk_at "ss"
        refine k_dget ?_
        walk_at "ss"
        refine ⟨g1.o, _, rfl, DGet.kl ho4 (i := 5) (by decide +kernel) rfl, ?_⟩
        walk_at "ss"
        rw [List.length_map]
        refine k_klo ho4 (i := 5) (by decide +kernel) nO_nd (by show 5 < 10; decide) (by decide) fun H5 ho5 e5 => ?_
        have fr45 : Fr [g1.o] H4 H5 := fun x o h ne => (e5 x (by simpa using ne)).trans h
        have nt : NoT H4 [g1.o] := fun x hx xs => by rw [List.mem_singleton.mp hx, ho4]; intro q; cases q
        have hB5 := hB4.fr fr45 (fun x hx ne => by rw [List.mem_singleton, ← eg2]; exact ne) nt
        have hd5 := (e5 c nco).trans hd4
        have hL5 := (e5 L nLo1).trans hL4
        have fr35 : Fr g1.v H3 H5 := fr4.trans fr45 (fun x hx => .inl (by rw [List.mem_singleton.mp hx]; simp [OF.v]))
        walk_at "ss"
        refine k_dget ?_
        walk_at "ss"
        refine ⟨g1.o, _, rfl, DGet.kl ho5 (i := 0) (by decide +kernel) rfl, ?_⟩
        refine k_gName ?_
        dsimp only
        walk_at "ss"
        obtain ⟨d2, ed2⟩ : ∃ d2 : DS, d2 = { d1 with uns := d1.uns ++ rowsW d1.area d1.pieces d1.rows d1.gen ps, rows := d1.rows + ps.length } := ⟨_, rfl⟩
        have hB5 := hB5.cong (s' := d2) (by rw [ed2]) (by rw [ed2]) (by rw [ed2]) (by rw [ed2])
        refine k_lock hd5 True.intro fun od => ?_
        have hB6 := hB5.off (o := .frz od (.dK (kC cs))) hcg2 (fun xs => by rw [hd5]; intro q; cases q)
        have hc6 : upd H5 c (.frz od (.dK (kC cs))) c = some (.frz od (.dK (kC cs))) := upd_same
        have ho6 : upd H5 c (.frz od (.dK (kC cs))) g1.o = _ := (upd_ne (Ne.symm nco)).trans ho5
        have hL6 : upd H5 c (.frz od (.dK (kC cs))) L = _ := (upd_ne (Ne.symm ncL)).trans hL5
        obtain ⟨H6, eH6⟩ : ∃ H6, H6 = upd H5 c (.frz od (.dK (kC cs))) := ⟨_, rfl⟩
        rw [← eH6] at hB6 hc6 ho6 hL6 ⊢
        refine k_for ?_
        refine k_keys ?_
        walk_at "ss"
        refine ⟨c, od, rfl, .inl ⟨kC cs, hc6, ?_⟩⟩
        have nshc : c ≠ g1.sh := fun e => hcg1 (by rw [e]; simp [OF.l])
        have nsho : g1.sh ≠ g1.o := by
          have := (OF.nds hB4.nd).1
          rw [eg2, esh] at this
          exact Ne.symm this
        have nshL : L ≠ g1.sh := fun e => hLg1 (by rw [e]; simp [OF.l])
        refine k_forIt (walk_keys (d := c) (o := od) (kvs := kC cs)) (fun i σ H' => (∃ u3 u4 u5 u7, σ = [some (.ref g1.o), some (.ref c), some (.ref L), u3, u4, u5, some (.ref g1.sh), u7]) ∧ H' c = some (.frz od (.dK (kC cs))) ∧ (∀ x, x ≠ g1.sh → H' x = H6 x) ∧ ∃ d3 : DS, d3 = { d2 with tab := applyC (cs.take i) d1.tab } ∧ OwnB H' g2 d3 e0 e1 l4) ⟨⟨_, _, _, _, rfl⟩, hc6, fun _ _ => rfl, d2, by rw [ed2]; rfl, hB6⟩ (fun i σ H' _ h => h.2.1) ?_ ?_
        · rintro i x σ H' H7 hi ⟨⟨u3, u4, u5, u7, rfl⟩, hc7, fr7, d3, ed3, hB7⟩ ⟨rfl, key, vv, hx, rfl⟩
          obtain ⟨z1, hz1, rfl, rfl⟩ : ∃ z1, cs[i]? = some z1 ∧ key = .inr z1.1 ∧ vv = vO z1.2 := by
            unfold kC at hx
            rw [List.getElem?_map] at hx
            cases hh : cs[i]? with
            | none => rw [hh] at hx; cases hx
            | some z1 => rw [hh] at hx; cases hx; exact ⟨z1, rfl, rfl, rfl⟩
          have hz1m := List.mem_of_getElem? hz1
          have hi2 : i < cs.length := (List.getElem?_eq_some_iff.mp hz1).1
          have gd : DGet H7 c (.str z1.1) (some (vO z1.2)) := by
            refine .inl ⟨kC cs, .inr z1.1, .inr ⟨od, hc7⟩, rfl, ?_⟩
            rw [val_kC, getC_G, getG_nd hch.nd hz1m]
            rfl
          have et3 : d3.tab = applyC (cs.take i) d1.tab := by rw [ed3]
          have htk : cs.take (i + 1) = cs.take i ++ [z1] := by rw [List.take_add_one, hz1]; rfl
          have fin : ∀ (t2 : Tab) (H9 : Hp), t2 = applyC (cs.take (i + 1)) d1.tab → H9 = upd H7 g1.sh (.dK (kT t2)) → (∃ u3' u4' u5' u7', [some (V.ref g1.o), some (V.ref c), some (V.ref L), u3, u4, u5, some (V.ref g1.sh), some (V.str z1.1)] = [some (V.ref g1.o), some (V.ref c), some (V.ref L), u3', u4', u5', some (V.ref g1.sh), u7']) ∧ H9 c = some (.frz od (.dK (kC cs))) ∧ (∀ x, x ≠ g1.sh → H9 x = H6 x) ∧ ∃ d3 : DS, d3 = { d2 with tab := applyC (cs.take (i + 1)) d1.tab } ∧ OwnB H9 g2 d3 e0 e1 l4 := fun t2 H9 e2 e9 => by
            subst e9
            refine ⟨⟨_, _, _, _, rfl⟩, (upd_ne nshc).trans hc7, fun x ne => (upd_ne ne).trans (fr7 x ne), { d2 with tab := t2 }, by rw [e2], ?_⟩
            rw [← esh]
            exact hB7.setS (s' := { d2 with tab := t2 }) (by rw [ed3]) (by rw [ed3]) (by rw [ed3])
          have hsh7 := hB7.hs
          rw [esh] at hsh7
          walk_at "ss"
          refine k_dget ?_
          walk_at "ss"
          refine ⟨c, _, rfl, gd, ?_⟩
          refine ⟨rfl, ?_⟩
          refine ⟨_, rfl, ?_⟩
          cases ez : z1.2 with
          | none =>
            refine k_dt rfl ?_
            walk_at "ss"
            refine k_dpop2 ?_
            walk_at "ss"
            refine ⟨g1.sh, rfl, .inl ⟨_, .inl hsh7⟩, ?_⟩
            walk_at "ss"
            refine ⟨kT d3.tab, .inr z1.1, hsh7, rfl, fun v hv => ?_, fun hv => ?_⟩
            · rw [kT_drop, et3]
              refine fin _ _ ?_ rfl
              rw [htk, applyC_snoc, ez]
            · refine fin (applyC (cs.take i) d1.tab) _ ?_ ?_
              · rw [htk, applyC_snoc, ez]
                rw [kT_val, Option.map_eq_none_iff, et3] at hv
                exact (dropG_none hv).symm
              · rw [← et3]
                funext x
                unfold upd
                by_cases e : x = g1.sh
                · rw [if_pos e, e]; exact hsh7
                · rw [if_neg e]
          | some v =>
            refine k_df (fun e => by cases e) ?_
            walk_at "ss"
            refine k_dget ?_
            walk_at "ss"
            rw [ez] at gd
            refine ⟨c, _, rfl, gd, ?_⟩
            walk_at "ss"
            have htl : (kT d3.tab).length < sizeLine := small_lt (by
              unfold kT
              rw [List.length_map, et3]
              have h1 := applyC_len (cs.take i) d1.tab
              have h2 := hcs.len
              have h3 := (bnd (by omega)).2.2.2.2
              rw [List.length_take] at h1
              omega)
            refine k_setD (DPut.k (k := .inr z1.1) hsh7 htl) ?_
            refine fin (applyC (cs.take (i + 1)) d1.tab) _ rfl ?_
            rw [htk, applyC_snoc, ez, ← et3]
            show upd H7 g1.sh (.dK (putK (kT d3.tab) (.inr z1.1) (.str v))) = _
            rw [kT_set]
        · rintro σ H7 ⟨⟨u3, u4, u5, u7, rfl⟩, hc7, fr7, d3, ed3, hB7⟩
          rw [show (kC cs).length = cs.length from List.length_map .., List.take_length] at ed3
          refine ⟨hc7, ?_⟩
          have hL7 : upd H7 c (.dK (kC cs)) L = some (.lst (ps.map V.str)) := by rw [upd_ne (Ne.symm ncL), fr7 L nshL]; exact hL6
          walk_at "ss"
          have e3 : d3 = { d1 with uns := d1.uns ++ rowsW d1.area d1.pieces d1.rows d1.gen ps, rows := d1.rows + ps.length, tab := applyC cs d1.tab } := by rw [ed3, ed2]
          rw [← e3] at k
          have fr57 : Fr g1.v H5 (upd H7 c (.dK (kC cs))) := by
            have h : Fr g1.v (upd H5 c (.frz od (.dK (kC cs)))) H7 := fun x o h ne => by
              rw [← eH6] at h
              exact (fr7 x (fun e => ne (by rw [e]; simp [OF.v]))).trans h
            exact h.unlock hd5
          refine k g2 _ _ (ew2.trans ew1) ((fr3.tr (ew1 ▸ fr35)).tr (ew1 ▸ fr57)) (nw3.trans nw4 (OF.frl fr3)) ⟨?_, e0, e1, l4, hB7.off hcg2 (fun xs => by rw [hc7]; intro q; cases q)⟩
          rw [eg2, upd_ne (Ne.symm nco), fr7 _ (Ne.symm nsho), ho6]
          have es : d3.soft = d1.soft := by rw [e3]; exact soft_rows d1 _ rows_pos
          unfold vOw
          rw [es, esh, e3]
          rfl
end

/-! ### the bag -/
/-- what stands in a law's bag, the list l behind it -/
abbrev bagL (l : Addr) (i r s c : Int) : HO := .lst [.ref l, .int i, .int r, .int s, .int c]
structure Bag (K : PySem.W.Frag) (G0 G : Hp) (b : Addr) (β : HO) : Prop where
  nb : G b = none
  sm : Same G0 G
  ex : ∃ (l : Addr) (ns : List Int) (i r s c : Int), β = bagL l i r s c ∧ SqL K G0 l (ns.map V.int) ∧ 0 ≤ i ∧ 0 ≤ r ∧ 0 ≤ s ∧ s < 2147483647
theorem Bag.up0 {K : PySem.W.Frag} {G0 G G' : Hp} {b : Addr} {β : HO} (h : Bag K G0 G b β) (e : Same G0 G') (n : G' b = none) : Bag K G0 G' b β := ⟨n, e, h.ex⟩
theorem Bag.up {K : PySem.W.Frag} {G0 G G' : Hp} {b : Addr} {β : HO} (h : Bag K G0 G b β) (e : Same G G') (n : G' b = none) : Bag K G0 G' b β := h.up0 (h.sm.trans e) n
def spDraw (K : PySem.W.Frag) : Sp := fun vs H Q _ => ∃ (G0 G : Hp) (b : Addr) (β : HO) (n : Int), vs = [.ref b, .int n] ∧ H = upd G b β ∧ Bag K G0 G b β ∧ 0 < n ∧ n < 2 ^ 30 ∧
  ∀ d β', 0 ≤ d → d < n → Bag K G0 G b β' → Q (.int d) (upd G b β')
theorem mod_bd {x m : Int} (h : 0 < m) : 0 ≤ x % m ∧ x % m < m := ⟨Int.emod_nonneg _ (by omega), Int.emod_lt_of_pos _ h⟩
theorem ix_ints {ns : List Int} {i : Int} (h0 : 0 ≤ i) (h1 : i < ((ns.map V.int).length : Nat)) : ∃ z, atI (ns.map V.int) i = some (.int z) := by
  rw [List.length_map] at h1
  obtain ⟨j, rfl⟩ := Int.eq_ofNat_of_zero_le h0
  have hj : j < ns.length := by omega
  exact ⟨ns[j], atI_nat (by rw [List.getElem?_map, List.getElem?_eq_getElem hj]; rfl)⟩
theorem at_mem {α : Type} {xs : List α} {d : Int} (h0 : 0 ≤ d) (h1 : d < (xs.length : Nat)) : ∃ v, atI xs d = some v ∧ v ∈ xs := by
  obtain ⟨j, rfl⟩ := Int.eq_ofNat_of_zero_le h0
  have hj : j < xs.length := by omega
  exact ⟨xs[j], atI_nat (List.getElem?_eq_getElem hj), List.getElem_mem hj⟩
/-- one of some things by a draw -/
def spOf (K : PySem.W.Frag) : Sp := fun vs H Q _ => ∃ (G0 G : Hp) (b : Addr) (β : HO) (x : V), vs = [.ref b, x] ∧ H = upd G b β ∧ Bag K G0 G b β ∧
  match x with
  | .ref p => ∃ xs, SqL K G p xs ∧ 0 < xs.length ∧ xs.length < 2 ^ 30 ∧ ∀ v β', v ∈ xs → Bag K G0 G b β' → Q v (upd G b β')
  | .str z => 0 < z.length ∧ z.length ≤ 1000000 ∧ ∀ c β', c ∈ z.cps.toList → Bag K G0 G b β' → Q (.str ⟨#[c]⟩) (upd G b β')
  | _ => False
theorem k_draw {K : PySem.W.Frag} {G0 G : Hp} {b : Addr} {β : HO} {n : Int} {Q : VK} {E : XK} (hb : Bag K G0 G b β) (h0 : 0 < n) (h1 : n < 2 ^ 30) (k : ∀ d β', 0 ≤ d → d < n → Bag K G0 G b β' → Q (.int d) (upd G b β')) : spDraw K [.ref b, .int n] (upd G b β) Q E :=
  ⟨G0, G, b, β, n, rfl, rfl, hb, h0, h1, k⟩
theorem k_of {K : PySem.W.Frag} {G0 G : Hp} {b p : Addr} {β : HO} {xs : List V} {Q : VK} {E : XK} (hb : Bag K G0 G b β) (hx : SqL K G p xs) (h0 : 0 < xs.length) (h1 : xs.length < 2 ^ 30) (k : ∀ v β', v ∈ xs → Bag K G0 G b β' → Q v (upd G b β')) : spOf K [.ref b, .ref p] (upd G b β) Q E :=
  ⟨G0, G, b, β, .ref p, rfl, rfl, hb, xs, hx, h0, h1, k⟩
section
variable {w : World} {K : PySem.W.Frag} {mg : Str → Option Value} {base : Heap}
theorem ok_draw (T : Tx K mg) : FnOk P w K mg base CX0 1 T.a_draw T.fd_draw P_draw (spDraw K) := by
  refine T.F_draw.ok sc_draw (fun vs H Q E h => ?_) (fun cdv A outer s H vs Q E hr h => ?_)
  · obtain ⟨G0, G, b, β, n, rfl, _⟩ := h
    rfl
  · obtain ⟨G0, G, b, β, n, rfl, rfl, ⟨nb, sm0, l, ns, i, r, sd, c, rfl, hl, hi, hr0, hs0, hs1⟩, hn0, hn1, k⟩ := h
    have nd := sc_draw.nd
    refine ⟨_, (pss_cons (ps_asg (pe_op kop_add (pe_ix (kix K) (kv (i := 0) v_draw_law_bag_here) pe_int (fun _ _ => rfl)) pe_int) (pg_sub (kv (i := 0) v_draw_law_bag_here) pe_int set_list))
      (kss_meet (ps_if (PW.pt (pw_and (pt_cmpR op_eq (pe_ix (kix K) (kv (i := 0) v_draw_law_bag_here) pe_int (fun _ _ => rfl)) pe_int (nomark _)) (pw_and1 (pt_cmpR op_lt (pe_ix (kix K) (kv (i := 0) v_draw_law_bag_here) pe_int (fun _ _ => rfl)) (kcB b_len (by decide) (by decide) (kc_len K) g_draw_len T.n_len (pa_cons (pe_ix (kix K) (kv (i := 0) v_draw_law_bag_here) pe_int (fun _ _ => rfl)) pa_nil)) (nomark _))))) (pss_cons (ks_setL (i := 2) nd l_draw_law_item (pe_ix (kix K) (pe_ix (kix K) (kv (i := 0) v_draw_law_bag_here) pe_int (fun _ _ => rfl)) (pe_ix (kix K) (kv (i := 0) v_draw_law_bag_here) pe_int (fun _ _ => rfl)) (fun _ _ => rfl)))
      (pss_cons (ps_asg (pe_op kop_add (pe_ix (kix K) (kv (i := 0) v_draw_law_bag_here) pe_int (fun _ _ => rfl)) pe_int) (pg_sub (kv (i := 0) v_draw_law_bag_here) pe_int set_list))
      (pss_one (ps_if (pt_cmpR op_ge (kv (i := 2) v_draw_law_item) (pe_op op_pow pe_int pe_int) (nomark _)) (pss_one (ps_asg (kv (i := 2) v_draw_law_item) (pg_sub (kv (i := 0) v_draw_law_bag_here) pe_int set_list))) (pss_one (ps_asg (pe_op op_mod (kcT b_int (by decide) (by decide) kc_int g_draw_int T.n_int (pa_cons (pe_op kop_add (pe_op kop_add (pe_op op_mul (pe_ix (kix K) (kv (i := 0) v_draw_law_bag_here) pe_int (fun _ _ => rfl)) pe_int) (pe_op op_mul (pe_op op_mod (kcT b_int (by decide) (by decide) kc_int g_draw_int T.n_int (pa_cons (kv (i := 2) v_draw_law_item) pa_nil)) pe_int) pe_int)) pe_int) pa_nil)) pe_int) (pg_sub (kv (i := 0) v_draw_law_bag_here) pe_int set_list))))))) pss_nil)
      (pss_cons (ps_if (pt_cmpR op_gt (pe_ix (kix K) (kv (i := 0) v_draw_law_bag_here) pe_int (fun _ _ => rfl)) pe_int (nomark _)) (pss_cons (ks_setL (i := 3) nd l_draw_law_digit (pe_op op_mod (kcT b_int (by decide) (by decide) kc_int g_draw_int T.n_int (pa_cons (pe_ix (kix K) (kv (i := 0) v_draw_law_bag_here) pe_int (fun _ _ => rfl)) pa_nil)) (kv (i := 1) v_draw_law_limit)))
      (pss_cons (ps_asg (pe_op op_fdiv (pe_ix (kix K) (kv (i := 0) v_draw_law_bag_here) pe_int (fun _ _ => rfl)) (kv (i := 1) v_draw_law_limit)) (pg_sub (kv (i := 0) v_draw_law_bag_here) pe_int set_list))
      (pss_one (ps_ret (kv (i := 3) v_draw_law_digit))))) pss_nil)
      (pss_cons (ps_asg (pe_op op_mod (kcT b_int (by decide) (by decide) kc_int g_draw_int T.n_int (pa_cons (pe_op kop_add (pe_op kop_add (pe_op op_pow (pe_ix (kix K) (kv (i := 0) v_draw_law_bag_here) pe_int (fun _ _ => rfl)) pe_int) (pe_op op_mul (pe_ix (kix K) (kv (i := 0) v_draw_law_bag_here) pe_int (fun _ _ => rfl)) pe_int)) pe_int) pa_nil)) pe_int) (pg_sub (kv (i := 0) v_draw_law_bag_here) pe_int set_list))
      (pss_one (ps_ret (pe_op op_mod (kcT b_int (by decide) (by decide) kc_int g_draw_int T.n_int (pa_cons (pe_op kop_add (pe_op op_fdiv (pe_ix (kix K) (kv (i := 0) v_draw_law_bag_here) pe_int (fun _ _ => rfl)) pe_int) (pe_op op_mul (pe_op op_mod (kcT b_int (by decide) (by decide) kc_int g_draw_int T.n_int (pa_cons (pe_ix (kix K) (kv (i := 0) v_draw_law_bag_here) pe_int (fun _ _ => rfl)) pa_nil)) pe_int) pe_int)) pa_nil)) (kv (i := 1) v_draw_law_limit)))))))), ?_⟩
    walk_at "ss"
    refine k_meet (fun σ H => ∃ i r s v, σ = [some (.ref b), some (.int n), v, none] ∧ H = upd G b (bagL l i r s (c + 1)) ∧ 0 ≤ i ∧ 0 ≤ r ∧ 0 ≤ s ∧ s < 2147483647) ?_ ?_
    · have hl' : SqL K (upd G b (bagL l i r sd (c + 1))) l (ns.map V.int) := (up_same nb).seq (sm0.seq hl)
      walk_at "ss"
      refine k_d (fun h0 => ?_) (fun h0 => ?_)
      · walk_at "ss"
        refine k_d (fun h1 => ?_) (fun h1 => ?_)
        · obtain ⟨z, hz⟩ := ix_ints hi h1
          walk_at "ss"
          refine k_ixL hl' hz ?_
          walk_at "ss"
          refine k_d (fun h2 => ?_) (fun h2 => ?_)
          · walk_at "ss"
            have e18 : (10 : Int) ^ Int.toNat 18 = 1000000000000000000 := by decide
            rw [e18] at h2
            exact ⟨i + 1, z, sd, _, rfl, rfl, by omega, by omega, hs0, hs1⟩
          · walk_at "ss"
            exact ⟨i + 1, r, _, _, rfl, rfl, by omega, by omega, (mod_bd (by decide)).1, Int.lt_trans (mod_bd (by decide)).2 (by decide)⟩
        · walk_at "ss"
          exact ⟨i, r, sd, _, rfl, rfl, hi, hr0, hs0, hs1⟩
      · walk_at "ss"
        exact ⟨i, r, sd, _, rfl, rfl, hi, hr0, hs0, hs1⟩
    · rintro σ H ⟨i, r, sd, v, rfl, rfl, hi, hr0, hs0, hs1⟩
      walk_at "ss"
      refine k_d (fun h0 => ?_) (fun h0 => ?_)
      · walk_at "ss"
        have q := mod_bd (x := r) hn0
        exact k _ _ q.1 q.2 ⟨nb, sm0, l, ns, _, _, _, _, rfl, hl, hi, Int.ediv_nonneg hr0 (by omega), hs0, hs1⟩
      · walk_at "ss"
        exact k _ _ (mod_bd hn0).1 (mod_bd hn0).2 ⟨nb, sm0, l, ns, _, _, _, _, rfl, hl, hi, hr0, (mod_bd (by decide)).1, Int.lt_trans (mod_bd (by decide)).2 (by decide)⟩
theorem ok_of (T : Tx K mg) : FnOk P w K mg base CX0 2 T.a_of T.fd_of P_of (spOf K) := by
  refine T.F_of.ok sc_of (fun vs H Q E h => ?_) (fun cdv A outer s H vs Q E hr h => ?_)
  · obtain ⟨G0, G, b, β, x, rfl, _⟩ := h
    rfl
  · obtain ⟨G0, G, b, β, x, rfl, rfl, hb, h⟩ := h
    have nd := sc_of.nd
    refine ⟨_, (pss_one (ps_ret (pe_ix (kix K) (kv (i := 1) v_of_law_things) (pe_call (ok_draw T) (hr.mono (by first | decide | omega)) g_of_law_draw T.m_draw T.k_draw T.b_draw .nil pass0 (pa_cons (kv (i := 0) v_of_law_bag_here) (pa_cons (kcB b_len (by decide) (by decide) (kc_len K) g_of_len T.n_len (pa_cons (kv (i := 1) v_of_law_things) pa_nil)) pa_nil))) (fun _ _ => rfl)))), ?_⟩
    cases x with
    | ref p =>
      obtain ⟨xs, hx, hl0, hl1, k⟩ := h
      have hx' : ∀ β', SqL K (upd G b β') p xs := fun β' => (up_same hb.nb).seq hx
      have hx1 := hx' β
      walk_at "ss"
      refine k_draw hb (by omega) (by omega) fun d β' h0 h1 hb' => ?_
      obtain ⟨v, hv, hm⟩ := at_mem h0 h1
      refine k_ixL (hx' _) hv ?_
      exact k v β' hm hb'
    | str z =>
      obtain ⟨hl0, hl1, k⟩ := h
      walk_at "ss"
      refine k_lenS (small_size hl1) ?_
      walk_at "ss"
      refine k_draw hb (by omega) (by omega) fun d β' h0 h1 hb' => ?_
      obtain ⟨c, hc, hm⟩ := at_mem (xs := z.cps.toList) h0 (by rw [Array.length_toList]; exact h1)
      refine k_ixS (small_size hl1) hc ?_
      exact k c β' hm hb'
    | _ => exact h.elim
/-- the bag of a script -/
def spBag (K : PySem.W.Frag) : Sp := fun vs H Q _ => ∃ (a : Addr) (ns : List Int), vs = [.ref a] ∧ SqL K H a (ns.map V.int) ∧ ∀ b G β, Same H G → Bag K G G b β → Q (.ref b) (upd G b β)
theorem ok_bag (T : Tx K mg) : FnOk P w K mg base CX0 1 T.a_bag T.fd_bag P_bag (spBag K) := by
  refine T.F_bag.ok sc_bag (fun vs H Q E h => ?_) (fun cdv A outer s H vs Q E hr h => ?_)
  · obtain ⟨a, ns, rfl, _⟩ := h
    rfl
  · obtain ⟨a, ns, rfl, hl, k⟩ := h
    have nd := sc_bag.nd
    refine ⟨_, (pss_cons (ks_setL (i := 1) nd l_bag_law_seed pe_int)
      (pss_cons (ps_for PassesOwn.never rfl (kpi_list K (pe_slice (ksl_list K) (kv (i := 0) v_bag_law_script) po_none (po_some pe_int))) (kgL (i := 2) nd l_bag_law_item) (pss_one (ks_setL (i := 1) nd l_bag_law_seed (pe_op op_mod (kcT b_int (by decide) (by decide) kc_int g_bag_int T.n_int (pa_cons (pe_op kop_add (pe_op kop_add (pe_op op_mul (kv (i := 1) v_bag_law_seed) pe_int) (pe_op op_mod (kcT b_int (by decide) (by decide) kc_int g_bag_int T.n_int (pa_cons (kv (i := 2) v_bag_law_item) pa_nil)) pe_int)) pe_int) pa_nil)) pe_int))))
      (pss_one (ps_ret (pe_lst (pa_cons (kcT b_list (by decide) (by decide) (kc_list K) g_bag_list T.n_list (pa_cons (pe_slice (ksl_list K) (kv (i := 0) v_bag_law_script) po_none (po_some pe_int)) pa_nil)) (pa_cons pe_int (pa_cons pe_int (pa_cons (kv (i := 1) v_bag_law_seed) (pa_cons pe_int pa_nil)))))))))), ?_⟩
    walk_at "ss"
    refine k_slL hl ?_
    intro p np
    obtain ⟨ms, hms⟩ := cut_ints (ns := ns) (lo := none) (hi := some 63)
    rw [hms]
    have e1 := same_new (o := .lst (ms.map V.int)) np
    refine k_iL (SqL.of upd_same) ?_
    refine k_forList (ms.map V.int) (fun i σ H' => ∃ sd v, σ = [some (.ref a), some (.int sd), v] ∧ H' = upd H p (.lst (ms.map V.int)) ∧ 0 ≤ sd ∧ sd < 2147483647) ⟨_, _, rfl, rfl, by decide, by decide⟩ ?_ ?_ ?_
    · rintro i σ H' _ ⟨sd, v, rfl, rfl, _⟩
      exact SqL.of upd_same
    · rintro i x σ H' hx ⟨sd, v, rfl, rfl, h0, h1⟩
      obtain ⟨z, rfl⟩ : ∃ z, x = V.int z := by
        rw [List.getElem?_map] at hx
        cases e : ms[i]? with
        | none => rw [e] at hx; cases hx
        | some u => rw [e] at hx; exact ⟨u, (Option.some.inj hx).symm⟩
      walk_at "ss"
      exact ⟨_, _, rfl, rfl, (mod_bd (by decide)).1, Int.lt_trans (mod_bd (by decide)).2 (by decide)⟩
    · rintro σ H' ⟨sd, v, rfl, rfl, h0, h1⟩
      walk_at "ss"
      refine k_slL (e1.seq hl) ?_
      rw [hms]
      intro q nq
      have e2 := same_new (o := .lst (ms.map V.int)) nq
      walk_at "ss"
      refine k_listL (SqL.of upd_same) ?_
      intro l nl
      have e3 := same_new (o := .lst (ms.map V.int)) nl
      walk_at "ss"
      intro b nb
      exact k b _ _ ((e1.trans e2).trans e3) ⟨nb, Same.refl _, l, ms, 0, 0, sd, 0, rfl, SqL.of upd_same, by decide, by decide, h0, h1⟩
end

section
variable {w : World} {K : PySem.W.Frag} {mg : Str → Option Value} {base : Heap}
/-! ### the draws -/
theorem g_none2 {G0 G G1 : Hp} {b t : Addr} {β : HO} (hb : Bag K G0 G b β) (sm : Same G G1) (n : G1 t = none) : G0 t = none := g_none (hb.sm.trans sm) n
theorem k_ofS {G0 G : Hp} {b : Addr} {β : HO} {z : Str} {Q : VK} {E : XK} (hb : Bag K G0 G b β) (h0 : 0 < z.length) (h1 : z.length ≤ 1000000) (k : ∀ c β', c ∈ z.cps.toList → Bag K G0 G b β' → Q (.str ⟨#[c]⟩) (upd G b β')) : spOf K [.ref b, .str z] (upd G b β) Q E :=
  ⟨G0, G, b, β, .str z, rfl, rfl, hb, h0, h1, k⟩
def one (c : Nat) : Str := ⟨#[c]⟩
theorem join_one : ∀ cs : List Nat, (Txt.join Str.empty (cs.map one)).cps.toList = cs
  | [] => rfl
  | [c] => rfl
  | c :: d :: r => by
    have ih := join_one (d :: r)
    show (Builtin.Str.glued Str.empty _).cps.toList = _
    rw [StrLaws.glued_eq_join]
    have ih : (Builtin.Str.glued Str.empty ((d :: r).map one)).cps.toList = d :: r := ih
    rw [StrLaws.glued_eq_join] at ih
    show (one c ++ Str.empty ++ Str.join Str.empty ((d :: r).map one)).cps.toList = _
    rw [PySem.Str.cps_append, Array.toList_append, ih]
    rfl
theorem one_sum (cs : List Nat) : ((cs.map one).map (·.length)).sum = cs.length := by
  induction cs with
  | nil => rfl
  | cons c cs ih =>
    simp only [List.map_cons, List.sum_cons, List.length_cons]
    have : (one c).length = 1 := rfl
    omega
def spKey (K : PySem.W.Frag) : Sp := fun vs H Q _ => ∃ (G0 G : Hp) (b : Addr) (β : HO), vs = [.ref b] ∧ H = upd G b β ∧ Bag K G0 G b β ∧ ∀ (z : Str) (G' : Hp) (β' : HO), Same G G' → Bag K G0 G' b β' → z ∈ keys9 → Q (.str z) (upd G' b β')
theorem ok_key (T : Tx K mg) : FnOk P w K mg base CX0 3 T.a_key T.fd_key P_key (spKey K) := by
  refine T.F_key.ok sc_key (fun vs H Q E h => ?_) (fun cdv A outer s H vs Q E hr h => ?_)
  · obtain ⟨G0, G, b, β, rfl, _⟩ := h
    rfl
  · obtain ⟨G0, G, b, β, rfl, rfl, hb, k⟩ := h
    have nd := sc_key.nd
    refine ⟨_, (pss_one (ps_ret (pe_call (ok_of T) (hr.mono (by first | decide | omega)) g_key_law_of T.m_of T.k_of T.b_of .nil pass0 (pa_cons (kv (i := 0) v_key_law_bag_here) (pa_cons (pe_lst (pa_cons pe_str (pa_cons pe_str (pa_cons pe_str (pa_cons pe_str (pa_cons pe_str (pa_cons pe_str (pa_cons pe_str (pa_cons pe_str (pa_cons pe_str pa_nil)))))))))) pa_nil))))), ?_⟩
    walk_at "ss"
    intro l nt_l
    rw [upd_swap (up_none nt_l).2]
    generalize eG_l : upd _ l _ = G1
    obtain ⟨nb1, sm1, hl, nt_l, nG_l⟩ := new_facts hb.nb nt_l eG_l
    clear eG_l
    have hb1 := hb.up sm1 nb1
    walk_at "ss"
    refine k_of hb1 (SqL.of hl) (by simp) (by simp) fun v β2 hv hb2 => ?_
    obtain ⟨z, rfl, hz⟩ : ∃ z, v = V.str z ∧ z ∈ keys9 := by
      simp only [List.mem_cons, List.not_mem_nil, or_false] at hv
      rcases hv with rfl | rfl | rfl | rfl | rfl | rfl | rfl | rfl | rfl <;> exact ⟨_, rfl, by decide +kernel⟩
    exact k z G1 β2 sm1 hb2 hz
def spLong (K : PySem.W.Frag) : Sp := fun vs H Q _ => ∃ (G0 G : Hp) (b : Addr) (β : HO) (n : Int), vs = [.ref b, .int n] ∧ H = upd G b β ∧ Bag K G0 G b β ∧ 0 ≤ n ∧ n ≤ 210 ∧ ∀ (z : Str) (G' : Hp) (β' : HO), Same G G' → Bag K G0 G' b β' → z.length ≤ 300 → Q (.str z) (upd G' b β')
theorem ok_long (T : Tx K mg) : FnOk P w K mg base CX0 3 T.a_long T.fd_long P_long (spLong K) := by
  refine T.F_long.ok sc_long (fun vs H Q E h => ?_) (fun cdv A outer s H vs Q E hr h => ?_)
  · obtain ⟨G0, G, b, β, n, rfl, _⟩ := h
    rfl
  · obtain ⟨G0, G, b, β, n, rfl, rfl, hb, hn0, hn1, k⟩ := h
    have nd := sc_long.nd
    refine ⟨_, (pss_cons (ks_setL (i := 2) nd l_long_law_chunk (kpe_join K pe_str (pe_lc (own := [("_law_k", 3)]) rfl nd (pi_range1 g_long_range T.n_range (pa_cons pe_int pa_nil)) ok_cs_long_1 (fun _ _ _ _ _ => (kgL (i := 3) nd l_long_1_law_k)) (fun _ _ _ _ _ => pts_nil) (fun _ _ _ _ _ => (pe_call (ok_of T) (hr.mono (by first | decide | omega)) g_long_1_law_of T.m_of T.k_of T.b_of .nil pass0 (pa_cons (kv (i := 0) v_long_1_law_bag_here) (pa_cons pe_str pa_nil)))))))
      (pss_one (ps_ret (pe_slice sl_str (pe_op op_mulS (kv (i := 2) v_long_law_chunk) (pe_op kop_add (pe_op op_fdiv (kv (i := 1) v_long_law_size) pe_int) pe_int)) po_none (po_some (kv (i := 1) v_long_law_size)))))), ?_⟩
    walk_at "ss"
    refine k_r1 ⟨by decide, by decide⟩ ?_
    intro D nD
    obtain ⟨nD1, nDb⟩ := up_none nD
    refine k_lcRange (n := 8) (fun i H' => ∃ (cs : List Nat) (G' : Hp) (β' : HO), H' = upd G' b β' ∧ Bag K G0 G' b β' ∧ Same G G' ∧ G' D = some (.lst ((cs.map one).map V.str)) ∧ cs.length = i)
      ⟨[], _, β, upd_swap nDb, hb.up (same_new nD1) (by rw [upd_ne (Ne.symm nDb)]; exact hb.nb), same_new nD1, upd_same, rfl⟩ ?_ ?_
    · rintro i H' hi ⟨cs, G2, β4, rfl, hb4, sm2, hD, hlen⟩
      refine k_gName ?_
      refine ⟨rfl, ?_⟩
      walk_at "ss"
      refine k_ofS hb4 (by decide +kernel) (by decide +kernel) fun c β5 hc hb5 => ?_
      refine ⟨_, up_get hb5.nb hD, small_lt (by rw [List.length_map, List.length_map]; omega), cs ++ [c], upd G2 D (.lst (((cs ++ [c]).map one).map V.str)), β5, ?_, hb5.up0 (same_put hb5.sm (g_none hb.sm nD1)) (by rw [upd_ne (Ne.symm nDb)]; exact hb5.nb), same_put sm2 nD1, upd_same, by simp [hlen]⟩
      rw [List.map_append, List.map_append]
      exact upd_swap nDb
    · rintro H' ⟨cs, G2, β4, rfl, hb4, sm2, hD, hlen⟩
      walk_at "ss"
      refine k_joinL (SqL.of (up_get hb4.nb hD)) (by rw [one_sum]; show _ + _ * 0 ≤ _; omega) fun out eout => ?_
      have hlo : out.length = 8 := by
        have e : out.length = out.cps.toList.length := by rw [Array.length_toList]; rfl
        rw [e, eout, show (Str.ofString "") = Str.empty from rfl, join_one, hlen]
      have hdiv : n / 8 + 1 = ((n / 8 + 1).toNat : Int) := by omega
      have hd1 : (n / 8 + 1).toNat ≤ 27 := by omega
      walk_at "ss"
      refine ⟨out, (n / 8 + 1).toNat, rfl, by rw [← hdiv], by omega, by omega, by omega, by omega, ?_⟩
      have hrl := repS_len out (n / 8 + 1).toNat
      rw [hlo] at hrl
      walk_at "ss"
      refine k_slS (small_size (by omega)) ?_
      exact k _ G2 β4 sm2 hb4 (Nat.le_trans (cutS_length _ _ _) (by omega))
def spValue (K : PySem.W.Frag) : Sp := fun vs H Q _ => ∃ (G0 G : Hp) (b : Addr) (β : HO) (y : Str), vs = [.ref b, .str y] ∧ H = upd G b β ∧ Bag K G0 G b β ∧ y ∈ keys9 ∧ ∀ (z : Str) (G' : Hp) (β' : HO), Same G G' → Bag K G0 G' b β' → z.length ≤ 300 → Q (.str z) (upd G' b β')
theorem k_long {G0 G : Hp} {b : Addr} {β : HO} {n : Int} {Q : VK} {E : XK} (hb : Bag K G0 G b β) (h0 : 0 ≤ n) (h1 : n ≤ 210) (k : ∀ (z : Str) (G' : Hp) (β' : HO), Same G G' → Bag K G0 G' b β' → z.length ≤ 300 → Q (.str z) (upd G' b β')) : spLong K [.ref b, .int n] (upd G b β) Q E := ⟨G0, G, b, β, n, rfl, rfl, hb, h0, h1, k⟩
theorem key9_len2 : ∀ k ∈ keys9, k.length ≤ 9 := by decide +kernel
theorem ok_value (T : Tx K mg) : FnOk P w K mg base CX0 4 T.a_value T.fd_value P_value (spValue K) := by
  refine T.F_value.ok sc_value (fun vs H Q E h => ?_) (fun cdv A outer s H vs Q E hr h => ?_)
  · obtain ⟨G0, G, b, β, y, rfl, _⟩ := h
    rfl
  · obtain ⟨G0, G, b, β, y, rfl, rfl, hb, hy, k⟩ := h
    have nd := sc_value.nd
    have hyl := key9_len2 y hy
    refine ⟨_, (pss_cons (ks_setL (i := 2) nd l_value_law_pick (pe_call (ok_draw T) (hr.mono (by first | decide | omega)) g_value_law_draw T.m_draw T.k_draw T.b_draw .nil pass0 (pa_cons (kv (i := 0) v_value_law_bag_here) (pa_cons pe_int pa_nil))))
      (pss_cons (ps_if (pt_cmpR op_eq (kv (i := 2) v_value_law_pick) pe_int (nomark _)) (pss_one (ps_ret (pe_call (ok_long T) (hr.mono (by first | decide | omega)) g_value_law_long T.m_long T.k_long T.b_long .nil pass0 (pa_cons (kv (i := 0) v_value_law_bag_here) (pa_cons (pe_op kop_add (pe_op op_sub (pe_op op_sub (pe_op op_mul pe_int (pe_call (ok_of T) (hr.mono (by first | decide | omega)) g_value_law_of T.m_of T.k_of T.b_of .nil pass0 (pa_cons (kv (i := 0) v_value_law_bag_here) (pa_cons (pe_lst (pa_cons pe_int (pa_cons pe_int (pa_cons pe_int pa_nil)))) pa_nil)))) (kcB b_len (by decide) (by decide) (kc_len K) g_value_len T.n_len (pa_cons (kv (i := 1) v_value_law_key_here) pa_nil))) pe_int) (pe_call (ok_draw T) (hr.mono (by first | decide | omega)) g_value_law_draw T.m_draw T.k_draw T.b_draw .nil pass0 (pa_cons (kv (i := 0) v_value_law_bag_here) (pa_cons pe_int pa_nil)))) pa_nil))))) pss_nil)
      (pss_cons (ps_if (pt_cmpR op_eq (kv (i := 2) v_value_law_pick) pe_int (nomark _)) (pss_one (ps_ret (pe_call (ok_long T) (hr.mono (by first | decide | omega)) g_value_law_long T.m_long T.k_long T.b_long .nil pass0 (pa_cons (kv (i := 0) v_value_law_bag_here) (pa_cons (pe_call (ok_of T) (hr.mono (by first | decide | omega)) g_value_law_of T.m_of T.k_of T.b_of .nil pass0 (pa_cons (kv (i := 0) v_value_law_bag_here) (pa_cons (pe_lst (pa_cons pe_int (pa_cons pe_int (pa_cons pe_int (pa_cons pe_int (pa_cons pe_int pa_nil)))))) pa_nil))) pa_nil))))) pss_nil)
      (pss_one (ps_ret (pe_call (ok_long T) (hr.mono (by first | decide | omega)) g_value_law_long T.m_long T.k_long T.b_long .nil pass0 (pa_cons (kv (i := 0) v_value_law_bag_here) (pa_cons (pe_call (ok_of T) (hr.mono (by first | decide | omega)) g_value_law_of T.m_of T.k_of T.b_of .nil pass0 (pa_cons (kv (i := 0) v_value_law_bag_here) (pa_cons (pe_lst (pa_cons pe_int (pa_cons pe_int (pa_cons pe_int (pa_cons pe_int (pa_cons pe_int (pa_cons pe_int (pa_cons pe_int pa_nil)))))))) pa_nil))) pa_nil)))))))), ?_⟩
    walk_at "ss"
    refine k_draw hb (by decide) (by decide) fun pick β1 e0 e1 hb1 => ?_
    walk_at "ss"
    refine k_d (fun _ => ?_) (fun _ => ?_)
    · walk_at "ss"
      intro l nt_l
      rw [upd_swap (up_none nt_l).2]
      generalize eG_l : upd _ l _ = G1
      obtain ⟨nb1, sm1, hl, nt_l, nG_l⟩ := new_facts hb1.nb nt_l eG_l
      clear eG_l
      have hb2 := hb1.up sm1 nb1
      walk_at "ss"
      refine k_of hb2 (SqL.of hl) (by simp) (by simp) fun v β3 hv hb3 => ?_
      obtain ⟨m, rfl, hm0, hm1⟩ : ∃ m : Int, v = V.int m ∧ 1 ≤ m ∧ m ≤ 3 := by
        simp only [List.mem_cons, List.not_mem_nil, or_false] at hv
        rcases hv with rfl | rfl | rfl <;> exact ⟨_, rfl, by decide, by decide⟩
      walk_at "ss"
      refine k_lenS (small_size (by omega)) ?_
      walk_at "ss"
      refine k_draw hb3 (by decide) (by decide) fun q β4 q0 q1 hb4 => ?_
      walk_at "ss"
      exact k_long hb4 (by omega) (by omega) fun z G2 β5 s2 hb5 hz => k z G2 β5 (sm1.trans s2) hb5 hz
    walk_at "ss"
    refine k_d (fun _ => ?_) (fun _ => ?_)
    · walk_at "ss"
      intro l nt_l
      rw [upd_swap (up_none nt_l).2]
      generalize eG_l : upd _ l _ = G1
      obtain ⟨nb1, sm1, hl, nt_l, nG_l⟩ := new_facts hb1.nb nt_l eG_l
      clear eG_l
      have hb2 := hb1.up sm1 nb1
      walk_at "ss"
      refine k_of hb2 (SqL.of hl) (by simp) (by simp) fun v β3 hv hb3 => ?_
      obtain ⟨m, rfl, hm0, hm1⟩ : ∃ m : Int, v = V.int m ∧ 0 ≤ m ∧ m ≤ 210 := by
        simp only [List.mem_cons, List.not_mem_nil, or_false] at hv
        rcases hv with rfl | rfl | rfl | rfl | rfl <;> exact ⟨_, rfl, by decide, by decide⟩
      walk_at "ss"
      exact k_long hb3 hm0 hm1 fun z G2 β5 s2 hb5 hz => k z G2 β5 (sm1.trans s2) hb5 hz
    · walk_at "ss"
      intro l nt_l
      rw [upd_swap (up_none nt_l).2]
      generalize eG_l : upd _ l _ = G1
      obtain ⟨nb1, sm1, hl, nt_l, nG_l⟩ := new_facts hb1.nb nt_l eG_l
      clear eG_l
      have hb2 := hb1.up sm1 nb1
      walk_at "ss"
      refine k_of hb2 (SqL.of hl) (by simp) (by simp) fun v β3 hv hb3 => ?_
      obtain ⟨m, rfl, hm0, hm1⟩ : ∃ m : Int, v = V.int m ∧ 0 ≤ m ∧ m ≤ 210 := by
        simp only [List.mem_cons, List.not_mem_nil, or_false] at hv
        rcases hv with rfl | rfl | rfl | rfl | rfl | rfl | rfl <;> exact ⟨_, rfl, by decide, by decide⟩
      walk_at "ss"
      exact k_long hb3 hm0 hm1 fun z G2 β5 s2 hb5 hz => k z G2 β5 (sm1.trans s2) hb5 hz
def spMost (K : PySem.W.Frag) : Sp := fun vs H Q _ => ∃ (G0 G : Hp) (b : Addr) (β : HO), vs = [.ref b] ∧ H = upd G b β ∧ Bag K G0 G b β ∧ ∀ (m : Int) (G' : Hp) (β' : HO), Same G G' → Bag K G0 G' b β' → 1 ≤ m → m ≤ 64 → Q (.int m) (upd G' b β')
theorem ok_most (T : Tx K mg) : FnOk P w K mg base CX0 3 T.a_most T.fd_most P_most (spMost K) := by
  refine T.F_most.ok sc_most (fun vs H Q E h => ?_) (fun cdv A outer s H vs Q E hr h => ?_)
  · obtain ⟨G0, G, b, β, rfl, _⟩ := h
    rfl
  · obtain ⟨G0, G, b, β, rfl, rfl, hb, k⟩ := h
    have nd := sc_most.nd
    refine ⟨_, (pss_one (ps_ret (pe_call (ok_of T) (hr.mono (by first | decide | omega)) g_most_law_of T.m_of T.k_of T.b_of .nil pass0 (pa_cons (kv (i := 0) v_most_law_bag_here) (pa_cons (pe_lst (pa_cons pe_int (pa_cons pe_int (pa_cons pe_int (pa_cons pe_int (pa_cons pe_int (pa_cons pe_int (pa_cons pe_int (pa_cons pe_int pa_nil))))))))) pa_nil))))), ?_⟩
    walk_at "ss"
    intro l nt_l
    rw [upd_swap (up_none nt_l).2]
    generalize eG_l : upd _ l _ = G1
    obtain ⟨nb1, sm1, hl, nt_l, nG_l⟩ := new_facts hb.nb nt_l eG_l
    clear eG_l
    have hb1 := hb.up sm1 nb1
    walk_at "ss"
    refine k_of hb1 (SqL.of hl) (by simp) (by simp) fun v β2 hv hb2 => ?_
    obtain ⟨m, rfl, hm0, hm1⟩ : ∃ m : Int, v = V.int m ∧ 1 ≤ m ∧ m ≤ 64 := by
      simp only [List.mem_cons, List.not_mem_nil, or_false] at hv
      rcases hv with rfl | rfl | rfl | rfl | rfl | rfl | rfl | rfl <;> exact ⟨_, rfl, by decide, by decide⟩
    exact k m G1 β2 sm1 hb2 hm0 hm1
theorem k_key {G0 G : Hp} {b : Addr} {β : HO} {Q : VK} {E : XK} (hb : Bag K G0 G b β) (k : ∀ (z : Str) (G' : Hp) (β' : HO), Same G G' → Bag K G0 G' b β' → z ∈ keys9 → Q (.str z) (upd G' b β')) : spKey K [.ref b] (upd G b β) Q E := ⟨G0, G, b, β, rfl, rfl, hb, k⟩
theorem k_value {G0 G : Hp} {b : Addr} {β : HO} {y : Str} {Q : VK} {E : XK} (hb : Bag K G0 G b β) (hy : y ∈ keys9) (k : ∀ (z : Str) (G' : Hp) (β' : HO), Same G G' → Bag K G0 G' b β' → z.length ≤ 300 → Q (.str z) (upd G' b β')) : spValue K [.ref b, .str y] (upd G b β) Q E := ⟨G0, G, b, β, y, rfl, rfl, hb, hy, k⟩
theorem k_din {σ : L2.St} {H : Hp} {Q : VK} {ty td : TE} (h : ty σ H fun y H1 => td σ H1 fun x H2 => ∃ a o, x = .ref a ∧ DGet H2 a y o ∧ Q (.bl o.isSome) H2) : tDIn ty td σ H Q := h
theorem TabOk.nil : TabOk [] := ⟨List.nodup_nil, fun z hz => by cases hz⟩
theorem TabOk.set {t : Tab} {k v : Str} (h : TabOk t) (hk : k ∈ keys9) (hv : v.length ≤ 300) : TabOk (setG t k v) := ⟨setG_nd h.nd, fun z hz => by
  rcases setG_mem hz with hz | ⟨e1, e2⟩
  · exact h.k z hz
  · rw [e1, e2]; exact ⟨hk, hv⟩⟩
theorem ChOk.nil : ChOk [] := ⟨List.nodup_nil, fun z hz => by cases hz⟩
theorem ChOk.set {t : CsL} {k : Str} {o : Option Str} (h : ChOk t) (hk : k ∈ keys9) (hv : ∀ v, o = some v → v.length ≤ 300) : ChOk (setG t k o) := ⟨setG_nd h.nd, fun z hz => by
  rcases setG_mem hz with hz | ⟨e1, e2⟩
  · exact h.k z hz
  · rw [e1, e2]; exact ⟨hk, hv⟩⟩
theorem kC_set (t : CsL) (k : Str) (o : Option Str) : putK (kC t) (.inr k) (vO o) = kC (setG t k o) := put_kG (fk := Sum.inr) (fv := vO) (fun _ _ => Sum.inr.inj) t k o
def spShelf (K : PySem.W.Frag) : Sp := fun vs H Q _ => ∃ (G0 G : Hp) (b : Addr) (β : HO), vs = [.ref b] ∧ H = upd G b β ∧ Bag K G0 G b β ∧ ∀ (D : Addr) (t : Tab) (G' : Hp) (β' : HO), Same G G' → Bag K G0 G' b β' → G D = none → G' D = some (.dK (kT t)) → TabOk t → Q (.ref D) (upd G' b β')
theorem ok_shelf (T : Tx K mg) : FnOk P w K mg base CX0 5 T.a_shelf T.fd_shelf P_shelf (spShelf K) := by
  refine T.F_shelf.ok sc_shelf (fun vs H Q E h => ?_) (fun cdv A outer s H vs Q E hr h => ?_)
  · obtain ⟨G0, G, b, β, rfl, _⟩ := h
    rfl
  · obtain ⟨G0, G, b, β, rfl, rfl, hb, k⟩ := h
    have nd := sc_shelf.nd
    refine ⟨_, (pss_cons (ks_setL (i := 1) nd l_shelf_law_some pe_dnewK)
      (pss_cons (ps_for PassesOwn.never rfl (pi_range1 g_shelf_range T.n_range (pa_cons (pe_call (ok_of T) (hr.mono (by first | decide | omega)) g_shelf_law_of T.m_of T.k_of T.b_of .nil pass0 (pa_cons (kv (i := 0) v_shelf_law_bag_here) (pa_cons (pe_lst (pa_cons pe_int (pa_cons pe_int (pa_cons pe_int (pa_cons pe_int (pa_cons pe_int pa_nil)))))) pa_nil))) pa_nil)) (kgL (i := 2) nd l_shelf_law_k) (pss_cons (ks_setL (i := 3) nd l_shelf_law_key_here (pe_call (ok_key T) (hr.mono (by first | decide | omega)) g_shelf_law_key T.m_key T.k_key T.b_key .nil pass0 (pa_cons (kv (i := 0) v_shelf_law_bag_here) pa_nil)))
      (pss_one (ps_asg (pe_call (ok_value T) (hr.mono (by first | decide | omega)) g_shelf_law_value T.m_value T.k_value T.b_value .nil pass0 (pa_cons (kv (i := 0) v_shelf_law_bag_here) (pa_cons (kv (i := 3) v_shelf_law_key_here) pa_nil))) (pg_sub (kv (i := 1) v_shelf_law_some) (kv (i := 3) v_shelf_law_key_here) (set_dict (hu_of hr)))))))
      (pss_one (ps_ret (kv (i := 1) v_shelf_law_some))))), ?_⟩
    walk_at "ss"
    refine k_dnew ?_
    intro D nt_D
    rw [upd_swap (up_none nt_D).2]
    generalize eG_D : upd _ D _ = G1
    obtain ⟨nb1, sm1, hD, nt_D, nG_D⟩ := new_facts hb.nb nt_D eG_D
    clear eG_D
    walk_at "ss"
    intro l nt_l
    rw [upd_swap (up_none nt_l).2]
    generalize eG_l : upd _ l _ = G2
    obtain ⟨nb2, sm2, hl, nt_l, nG_l⟩ := new_facts nb1 nt_l eG_l
    clear eG_l
    have hb2 := hb.up (sm1.trans sm2) nb2
    walk_at "ss"
    refine k_of hb2 (SqL.of hl) (by simp) (by simp) fun v β2 hv hb3 => ?_
    obtain ⟨n, rfl, hm1⟩ : ∃ m : Nat, v = V.int (m : Nat) ∧ m ≤ 4 := by
      simp only [List.mem_cons, List.not_mem_nil, or_false] at hv
      rcases hv with rfl | rfl | rfl | rfl | rfl
      · exact ⟨0, rfl, by decide⟩
      · exact ⟨1, rfl, by decide⟩
      · exact ⟨2, rfl, by decide⟩
      · exact ⟨3, rfl, by decide⟩
      · exact ⟨4, rfl, by decide⟩
    walk_at "ss"
    refine k_r1 ⟨by omega, by omega⟩ ?_
    refine k_forRange (n := ((n : Nat) : Int).toNat) (fun i σ H' => ∃ (t : Tab) (G' : Hp) (β' : HO) (u1 u2 : Option V), σ = [some (.ref b), some (.ref D), u1, u2] ∧ H' = upd G' b β' ∧ Bag K G0 G' b β' ∧ Same G G' ∧ G' D = some (.dK (kT t)) ∧ TabOk t)
      ⟨[], G2, β2, _, _, rfl, rfl, hb3, sm1.trans sm2, sm2 _ _ hD, TabOk.nil⟩ ?_ ?_
    · rintro i σ H' hi ⟨t, G3, β3, u1, u2, rfl, rfl, hb4, sm3, hD3, ht⟩
      walk_at "ss"
      refine k_key hb4 fun y G4 β4 sm4 hb5 hy => ?_
      walk_at "ss"
      refine k_value hb5 hy fun z G5 β5 sm5 hb6 hz => ?_
      have hD5 := sm5 _ _ (sm4 _ _ hD3)
      walk_at "ss"
      refine k_setD (DPut.k (k := .inr y) (up_get hb6.nb hD5) (small_lt (by unfold kT; rw [List.length_map]; have := ht.len; omega))) ?_
      rw [kT_set, upd_swap nt_D]
      exact ⟨_, _, β5, _, _, rfl, rfl, hb6.up0 (same_put hb6.sm (g_none hb.sm nG_D)) (by rw [upd_ne (Ne.symm nt_D)]; exact hb6.nb), same_put ((sm3.trans sm4).trans sm5) nG_D, upd_same, ht.set hy hz⟩
    · rintro σ H' ⟨t, G3, β3, u1, u2, rfl, rfl, hb4, sm3, hD3, ht⟩
      walk_at "ss"
      exact k D t G3 β3 sm3 hb4 nG_D hD3 ht
def spChanges (K : PySem.W.Frag) : Sp := fun vs H Q _ => ∃ (G0 G : Hp) (b sh : Addr) (β : HO) (t : Tab), vs = [.ref b, .ref sh] ∧ H = upd G b β ∧ Bag K G0 G b β ∧ G sh = some (.dK (kT t)) ∧ TabOk t ∧
  ∀ (D : Addr) (cs : CsL) (G' : Hp) (β' : HO), Same G G' → Bag K G0 G' b β' → G D = none → G' D = some (.dK (kC cs)) → ChOk cs → Q (.ref D) (upd G' b β')
theorem ok_changes (T : Tx K mg) : FnOk P w K mg base CX0 5 T.a_changes T.fd_changes P_changes (spChanges K) := by
  refine T.F_changes.ok sc_changes (fun vs H Q E h => ?_) (fun cdv A outer s H vs Q E hr h => ?_)
  · obtain ⟨G0, G, b, sh, β, t, rfl, _⟩ := h
    rfl
  · obtain ⟨G0, G, b, sh, β, t, rfl, rfl, hb, hsh, ht, k⟩ := h
    have nd := sc_changes.nd
    refine ⟨_, (pss_cons (ks_setL (i := 2) nd l_changes_law_some pe_dnewK)
      (pss_cons (ps_for PassesOwn.never rfl (pi_range1 g_changes_range T.n_range (pa_cons (pe_call (ok_of T) (hr.mono (by first | decide | omega)) g_changes_law_of T.m_of T.k_of T.b_of .nil pass0 (pa_cons (kv (i := 0) v_changes_law_bag_here) (pa_cons (pe_lst (pa_cons pe_int (pa_cons pe_int (pa_cons pe_int (pa_cons pe_int (pa_cons pe_int (pa_cons pe_int (pa_cons pe_int pa_nil)))))))) pa_nil))) pa_nil)) (kgL (i := 3) nd l_changes_law_k) (pss_cons (ks_setL (i := 4) nd l_changes_law_key_here (pe_call (ok_key T) (hr.mono (by first | decide | omega)) g_changes_law_key T.m_key T.k_key T.b_key .nil pass0 (pa_cons (kv (i := 0) v_changes_law_bag_here) pa_nil)))
      (pss_cons (ks_setL (i := 5) nd l_changes_law_pick (pe_call (ok_draw T) (hr.mono (by first | decide | omega)) g_changes_law_draw T.m_draw T.k_draw T.b_draw .nil pass0 (pa_cons (kv (i := 0) v_changes_law_bag_here) (pa_cons pe_int pa_nil))))
      (pss_cons (ps_asg (pe_ifExp (pt_cmpR op_lt (kv (i := 5) v_changes_law_pick) pe_int (nomark _)) pe_non (pe_call (ok_value T) (hr.mono (by first | decide | omega)) g_changes_law_value T.m_value T.k_value T.b_value .nil pass0 (pa_cons (kv (i := 0) v_changes_law_bag_here) (pa_cons (kv (i := 4) v_changes_law_key_here) pa_nil)))) (pg_sub (kv (i := 2) v_changes_law_some) (kv (i := 4) v_changes_law_key_here) (set_dict (hu_of hr))))
      (pss_one (ps_if (PW.pt (pw_and (pt_cmpR op_eq (kv (i := 5) v_changes_law_pick) pe_int (nomark _)) (pw_and1 (pt_cmp (pc_din (hu_of hr) (kv (i := 4) v_changes_law_key_here) (kv (i := 1) v_changes_law_shelf_here)))))) (pss_one (ps_asg (pe_dget (hu_of hr) (kv (i := 1) v_changes_law_shelf_here) (kv (i := 4) v_changes_law_key_here) (fun _ _ => rfl)) (pg_sub (kv (i := 2) v_changes_law_some) (kv (i := 4) v_changes_law_key_here) (set_dict (hu_of hr))))) pss_nil))))))
      (pss_one (ps_ret (kv (i := 2) v_changes_law_some))))), ?_⟩
    walk_at "ss"
    refine k_dnew ?_
    intro D nt_D
    rw [upd_swap (up_none nt_D).2]
    generalize eG_D : upd _ D _ = G1
    obtain ⟨nb1, sm1, hD, nt_D, nG_D⟩ := new_facts hb.nb nt_D eG_D
    clear eG_D
    walk_at "ss"
    intro l nt_l
    rw [upd_swap (up_none nt_l).2]
    generalize eG_l : upd _ l _ = G2
    obtain ⟨nb2, sm2, hl, nt_l, nG_l⟩ := new_facts nb1 nt_l eG_l
    clear eG_l
    have hb2 := hb.up (sm1.trans sm2) nb2
    walk_at "ss"
    refine k_of hb2 (SqL.of hl) (by simp) (by simp) fun v β2 hv hb3 => ?_
    obtain ⟨n, rfl, hm1⟩ : ∃ m : Nat, v = V.int (m : Nat) ∧ m ≤ 4 := by
      simp only [List.mem_cons, List.not_mem_nil, or_false] at hv
      rcases hv with rfl | rfl | rfl | rfl | rfl | rfl | rfl
      · exact ⟨1, rfl, by decide⟩
      · exact ⟨1, rfl, by decide⟩
      · exact ⟨2, rfl, by decide⟩
      · exact ⟨3, rfl, by decide⟩
      · exact ⟨1, rfl, by decide⟩
      · exact ⟨2, rfl, by decide⟩
      · exact ⟨0, rfl, by decide⟩
    walk_at "ss"
    refine k_r1 ⟨by omega, by omega⟩ ?_
    refine k_forRange (n := ((n : Nat) : Int).toNat) (fun i σ H' => ∃ (cs : CsL) (G' : Hp) (β' : HO) (u1 u2 u3 : Option V), σ = [some (.ref b), some (.ref sh), some (.ref D), u1, u2, u3] ∧ H' = upd G' b β' ∧ Bag K G0 G' b β' ∧ Same G G' ∧ G' D = some (.dK (kC cs)) ∧ ChOk cs)
      ⟨[], G2, β2, _, _, _, rfl, rfl, hb3, sm1.trans sm2, sm2 _ _ hD, ChOk.nil⟩ ?_ ?_
    · rintro i σ H' hi ⟨cs, G3, β3, u1, u2, u3, rfl, rfl, hb4, sm3, hD3, hcs⟩
      walk_at "ss"
      refine k_key hb4 fun y G4 β4 sm4 hb5 hy => ?_
      walk_at "ss"
      refine k_draw hb5 (by decide) (by decide) fun pick β6 e0 e1 hb6 => ?_
      refine k_gName ?_
      dsimp only
      refine k_seq ?_
      refine k_asg ?_
      refine k_via (fun v H' => ∃ (o : Option Str) (G7 : Hp) (β7 : HO), v = vO o ∧ H' = upd G7 b β7 ∧ Same G4 G7 ∧ Bag K G0 G7 b β7 ∧ ∀ x, o = some x → x.length ≤ 300) (fun Q0 hq => ?_) ?_
      · walk_at "ss"
        by_cases hp : pick < 2
        · rw [if_pos (decide_eq_true hp)]
          exact hq _ _ ⟨none, G4, β6, rfl, rfl, Same.refl _, hb6, fun x h => by cases h⟩
        · rw [if_neg (by rw [decide_eq_false hp]; decide)]
          walk_at "ss"
          exact k_value hb6 hy fun z G7 β7 s7 hb7 hz => hq _ _ ⟨some z, G7, β7, rfl, rfl, s7, hb7, fun x h => by cases h; exact hz⟩
      · rintro _ _ ⟨o, G7, β7, rfl, rfl, s7, hb7, ho⟩
        have hD7 := s7 _ _ (sm4 _ _ hD3)
        have hsh7 := s7 _ _ (sm4 _ _ (sm3 _ _ hsh))
        walk_at "ss"
        refine k_setD (DPut.k (k := .inr y) (up_get hb7.nb hD7) (small_lt (by unfold kC; rw [List.length_map]; have := hcs.cs.len; omega))) ?_
        rw [kC_set, upd_swap nt_D]
        have hcs8 := hcs.set hy ho
        have hb8 := hb7.up0 (same_put (o := .dK (kC (setG cs y o))) hb7.sm (g_none hb.sm nG_D)) (by rw [upd_ne (Ne.symm nt_D)]; exact hb7.nb)
        have s8 := same_put (o := .dK (kC (setG cs y o))) ((sm3.trans sm4).trans s7) nG_D
        have hsh8 : upd G7 D (.dK (kC (setG cs y o))) sh = some (.dK (kT t)) := (upd_ne fun e => by rw [e, nG_D] at hsh; cases hsh).trans hsh7
        have hD8 : upd G7 D (.dK (kC (setG cs y o))) D = some (.dK (kC (setG cs y o))) := upd_same
        generalize upd G7 D (.dK (kC (setG cs y o))) = G8 at hb8 s8 hsh8 hD8 ⊢
        generalize setG cs y o = cs8 at hcs8 hD8
        walk_at "ss"
        have gsh := DGet.k (k := Sum.inr y) (up_get (β := β7) hb8.nb hsh8)
        rw [kT_val] at gsh
        by_cases hp : pick = 2
        · rw [if_pos (decide_eq_true hp)]
          walk_at "ss"
          refine k_din ?_
          walk_at "ss"
          refine ⟨sh, _, rfl, gsh, ?_⟩
          cases hv : getG t y with
          | none =>
            walk_at "ss"
            exact ⟨cs8, G8, β7, _, _, _, rfl, rfl, hb8, s8, hD8, hcs8⟩
          | some v =>
            rw [hv] at gsh
            walk_at "ss"
            rw [if_pos (show (Option.map V.str (some v)).isSome = true from rfl)]
            walk_at "ss"
            refine k_dget ?_
            walk_at "ss"
            refine ⟨sh, _, rfl, gsh, ?_⟩
            walk_at "ss"
            refine k_setD (DPut.k (k := .inr y) (up_get hb8.nb hD8) (small_lt (by unfold kC; rw [List.length_map]; have := hcs8.cs.len; omega))) ?_
            rw [show V.str v = vO (some v) from rfl, kC_set, upd_swap nt_D]
            exact ⟨_, _, β7, _, _, _, rfl, rfl, hb8.up0 (same_put hb8.sm (g_none hb.sm nG_D)) (by rw [upd_ne (Ne.symm nt_D)]; exact hb8.nb), same_put s8 nG_D, upd_same, hcs8.set hy fun x h => by cases h; exact (ht.k _ (getG_mem hv)).2⟩
        · rw [if_neg (by rw [decide_eq_false hp]; decide)]
          walk_at "ss"
          exact ⟨cs8, G8, β7, _, _, _, rfl, rfl, hb8, s8, hD8, hcs8⟩
    · rintro σ H' ⟨cs, G3, β3, u1, u2, u3, rfl, rfl, hb4, sm3, hD3, hcs⟩
      walk_at "ss"
      exact k D cs G3 β3 sm3 hb4 nG_D hD3 hcs
end

section
open TL
variable {w : World} {K : PySem.W.Frag} {mg : Str → Option Value} {base : Heap}
/-! ### the law's areas; pairs -/
theorem k_dget1 {td ty : TE} {σ : L2.St} {H : Hp} {Q : VK} (h : td σ H fun x H1 => ∃ a, x = .ref a ∧ IsD H1 a ∧ ty σ H1 fun y H2 => ∃ o, DGet H2 a y o ∧ Q (o.getD .non) H2) : tDGet1 td ty σ H Q := h
theorem s_none {H H' : Hp} {x : Addr} (s : Same H H') (n : H' x = none) : H x = none := by
  cases e : H x with
  | none => rfl
  | some o => rw [s _ _ e] at n; cases n
def intE (e : CT) : List Int := (-1 : Int) :: e.map fun z => ((z.1 : Nat) : Int)
theorem cells_max {e : CT} {c : List (Option Str)} (h : CellsOf e c) {M : Int} (hm : M ∈ intE e) (hx : ∀ y, y ∈ intE e → y ≤ M) : M + 1 = ((c.length : Nat) : Int) := by
  have hlo : (c.length : Int) ≤ M + 1 := by
    rcases h.last with rfl | ⟨z, hz⟩
    · have := hx (-1) List.mem_cons_self
      simp only [List.length_nil]
      omega
    · have hg : getG e (c.length - 1) = some z := by rw [h.g, hz]; rfl
      have hk := hx ((c.length - 1 : Nat) : Int) (List.mem_cons_of_mem _ (List.mem_map.mpr ⟨_, getG_mem hg, rfl⟩))
      omega
  rcases List.mem_cons.mp hm with rfl | hm
  · omega
  · obtain ⟨z, hz, rfl⟩ := List.mem_map.mp hm
    have hg := getG_nd h.nd hz
    rw [h.g] at hg
    have : z.1 < c.length := by
      by_cases hl : z.1 < c.length
      · exact hl
      · rw [List.getElem?_eq_none (by omega)] at hg
        cases hg
    omega
theorem cells_val {e : CT} {c : List (Option Str)} (h : CellsOf e c) {i : Nat} {o : Option Str} (ho : c[i]? = some o) : ((valV (kN e) (.inl (i : Nat))).getD .non) = vO o := by
  rw [kN_val, h.g, ho]
  cases o <;> rfl
def spAreasL : Sp := fun vs H Q _ => ∃ (g : OF) (s : DS), vs = [.ref g.o] ∧ OwnAt H g s ∧ s.c0.length ≤ 30000 ∧ s.c1.length ≤ 30000 ∧ ∀ (L p q : Addr) (H' : Hp), H L = none → H p = none → H q = none → L ≠ p → L ≠ q → p ≠ q → Same H H' → H' L = some (.lst [.ref p, .ref q]) → H' p = some (.lst (s.c0.map vO)) → H' q = some (.lst (s.c1.map vO)) → Q (.ref L) H'
theorem ok_areas (T : Tx K mg) : FnOk P w K mg base CX0 1 T.a_areas T.fd_areas P_areas spAreasL := by
  refine T.F_areas.ok sc_areas (fun vs H Q E h => ?_) (fun cdv A outer s H vs Q E hr h => ?_)
  · obtain ⟨g, s, rfl, _⟩ := h
    rfl
  · obtain ⟨g, d, rfl, ⟨ho, e0, e1, l, hB⟩, hc0, hc1, k⟩ := h
    have nd := sc_areas.nd
    refine ⟨_, (pss_cons (ks_setL (i := 1) nd l_areas_law_some (pe_lst pa_nil))
      (pss_cons (ps_for PassesOwn.never rfl (kpi_list K (pe_dget (hu_of hr) (kv (i := 0) v_areas_law_own) pe_str (fun _ _ => rfl))) (kgC (i := 2) nd c_areas_law_cells) (pss_one (ps_expr (pe_bm PySem.F.plainAttrs_list PySem.F.slot_list_append PySem.F.type_list_append mt_append (kv (i := 1) v_areas_law_some) (pa_cons (pe_lc (own := [("_law_k", 3)]) rfl nd (pi_range1 g_areas_range T.n_range (pa_cons (pe_op kop_add (kcB b_max (by decide) (by decide) (kc_maxL K rfl) g_areas_max T.n_max (pa_cons (pe_op kop_add (pe_lst (pa_cons (pe_un un_neg pe_int) pa_nil)) (kcT b_list (by decide) (by decide) (call_list_dK rfl) g_areas_list T.n_list (pa_cons (kv (i := 2) v_areas_law_cells) pa_nil))) pa_nil)) pe_int) pa_nil)) ok_cs_areas_1 (fun _ _ _ _ _ => (kgL (i := 3) nd l_areas_1_law_k)) (fun _ _ _ _ _ => pts_nil) (fun _ _ _ _ _ => (pe_dget1 (hu_of hr) (kv (i := 2) v_areas_1_law_cells) (kv (i := 3) v_areas_1_law_k) ⟨rfl, rfl, rfl, rfl⟩))) pa_nil)))))
      (pss_one (ps_ret (kv (i := 1) v_areas_law_some))))), ?_⟩
    walk_at "ss"
    intro S nS
    have s1 := same_new (o := .lst []) nS
    have hS : upd H S (.lst []) S = some (.lst []) := upd_same
    have ho1 := s1 _ _ ho
    have hB1 := hB.up s1
    generalize upd H S (.lst []) = H1 at s1 hS ho1 hB1 ⊢
    walk_at "ss"
    refine k_dget ?_
    walk_at "ss"
    refine ⟨g.o, _, rfl, DGet.kl ho1 (i := 7) (by decide +kernel) rfl, ?_⟩
    refine k_iL (SqL.of hB1.hh) ?_
    obtain ⟨cc, ecc⟩ : ∃ cc : Nat → List (Option Str), cc = fun j => if j = 0 then d.c0 else d.c1 := ⟨_, rfl⟩
    refine k_forList [V.ref g.k0, V.ref g.k1] (fun i σ H' => (∃ u, σ = [some (.ref g.o), some (.ref S), u, none]) ∧ Same H H' ∧ ∃ ps : List Addr, H' S = some (.lst (ps.map V.ref)) ∧ ps.length = i ∧ ps.Nodup ∧ ∀ j p, ps[j]? = some p → H p = none ∧ p ≠ S ∧ H' p = some (.lst ((cc j).map vO))) ⟨⟨_, rfl⟩, s1, [], hS, rfl, List.nodup_nil, fun j p h => (by cases h)⟩ (fun i σ H' _ h => SqL.of (h.2.1 _ _ hB.hh)) ?_ ?_
    · rintro i x σ H' hx ⟨⟨u, rfl⟩, sm, ps, hD, hpl, hpn, hps⟩
      obtain ⟨kk, e, rfl, hk, hce, hcl⟩ : ∃ kk e, x = .ref kk ∧ H' kk = some (.dK (kN e)) ∧ CellsOf e (cc i) ∧ (cc i).length ≤ 30000 := by
        match i, hx with
        | 0, hx =>
          cases hx
          exact ⟨_, _, rfl, sm _ _ hB.h0, by rw [ecc]; exact hB.q0, by rw [ecc]; exact hc0⟩
        | 1, hx =>
          cases hx
          exact ⟨_, _, rfl, sm _ _ hB.h1, by rw [ecc]; exact hB.q1, by rw [ecc]; exact hc1⟩
        | i + 2, hx => cases hx
      have hel : (kN e).length ≤ 30000 := Nat.le_trans (kN_len hce) hcl
      walk_at "ss"
      refine k_bm ?_
      walk_at "ss"
      refine ⟨.inl ⟨rfl, _, SqL.of hD⟩, ?_⟩
      walk_at "ss"
      intro A nA
      have sA := same_new (o := .lst [V.int (-1)]) nA
      have hA : upd H' A (.lst [V.int (-1)]) A = some (.lst [V.int (-1)]) := upd_same
      have hkA := sA _ _ hk
      generalize upd H' A (.lst [V.int (-1)]) = H2 at sA hA hkA ⊢
      walk_at "ss"
      refine ⟨kk, kN e, rfl, hkA, fun B nB => ?_⟩
      generalize eB : upd H2 B _ = H3
      have sB := upd_sm eB nB
      have hB3 := upd_at eB
      clear eB
      refine k_addL (sB _ _ hA) hB3 (by simp only [List.length_map, List.length_cons, List.length_nil]; omega) fun C nC => ?_
      generalize eC : upd H3 C _ = H4
      have sC := upd_sm eC nC
      have hC := upd_at eC
      clear eC
      have s4 : Same H' H4 := (sA.trans sB).trans sC
      have hk4 := s4 _ _ hk
      walk_at "ss"
      refine ⟨C, intE e, rfl, SqL.of (by rw [hC]; unfold intE kN kG; simp only [List.map_map, List.map_cons, List.singleton_append]; rfl), by simp [intE], fun M hm hmx => ?_⟩
      have hM := cells_max hce hm hmx
      walk_at "ss"
      rw [hM]
      refine k_r1 ⟨by omega, by omega⟩ ?_
      intro D nD
      obtain ⟨c, ec⟩ : ∃ c, c = cc i := ⟨_, rfl⟩
      rw [← ec] at hce hcl hM ⊢
      refine k_lcRange (n := ((c.length : Nat) : Int).toNat) (fun j H6 => Same H4 H6 ∧ H6 D = some (.lst ((c.take j).map vO))) ⟨same_new nD, upd_same⟩ ?_ ?_
      · rintro j H6 hj ⟨sj, hDj⟩
        rw [Int.toNat_natCast] at hj
        have ho : c[j]? = some c[j] := List.getElem?_eq_getElem hj
        refine k_gName ?_
        refine ⟨rfl, ?_⟩
        walk_at "ss"
        refine k_dget1 ?_
        walk_at "ss"
        refine ⟨kk, rfl, .inl ⟨_, .inl (sj _ _ hk4)⟩, ?_⟩
        walk_at "ss"
        rw [Int.zero_add]
        refine ⟨_, DGet.k (k := .inl (j : Nat)) (sj _ _ hk4), ?_⟩
        rw [cells_val hce ho]
        refine ⟨_, hDj, small_lt (by rw [List.length_map, List.length_take]; omega), same_put sj nD, ?_⟩
        rw [upd_same, List.take_add_one, ho, List.map_append]
        rfl
      · rintro H6 ⟨sj, hDj⟩
        rw [Int.toNat_natCast, List.take_length] at hDj
        have hS6 := sj _ _ (s4 _ _ hD)
        have nDS : D ≠ S := fun e => by
          have := s4 _ _ hD
          rw [← e, nD] at this
          cases this
        walk_at "ss"
        refine k_app hS6 (by rw [List.length_map, hpl]; have := (List.getElem?_eq_some_iff.mp hx).1; simp only [List.length_cons, List.length_nil] at this; omega) ?_
        have s6 : Same H H6 := (sm.trans s4).trans sj
        refine ⟨⟨_, rfl⟩, same_put s6 nS, ps ++ [D], by rw [upd_same, List.map_append]; rfl, by rw [List.length_append, hpl]; rfl, ?_, fun j p hj => ?_⟩
        · rw [List.nodup_append]
          refine ⟨hpn, List.pairwise_singleton _ _, fun x hx y hy e => ?_⟩
          rw [List.mem_singleton.mp hy] at e
          obtain ⟨j, hj⟩ := List.mem_iff_getElem?.mp hx
          have := s4 _ _ (hps j x hj).2.2
          rw [e, nD] at this
          cases this
        · by_cases hjl : j < ps.length
          · rw [List.getElem?_append_left hjl] at hj
            obtain ⟨a1, a2, a3⟩ := hps j p hj
            exact ⟨a1, a2, (upd_ne a2).trans (sj _ _ (s4 _ _ a3))⟩
          · rw [List.getElem?_append_right (by omega)] at hj
            have : j - ps.length = 0 := by
              by_cases e : j - ps.length = 0
              · exact e
              · rw [List.getElem?_eq_none (by simp only [List.length_singleton]; omega)] at hj
                cases hj
            rw [this] at hj
            cases hj
            have ej : j = i := by omega
            rw [ej, ← ec]
            exact ⟨s_none (sm.trans s4) nD, nDS, (upd_ne nDS).trans hDj⟩
    · rintro σ H' ⟨⟨u, rfl⟩, sm, ps, hD, hpl, hpn, hps⟩
      match ps, hpl with
      | [p, q], _ =>
        obtain ⟨np, npS, hp⟩ := hps 0 p rfl
        obtain ⟨nq, nqS, hq⟩ := hps 1 q rfl
        rw [ecc] at hp hq
        walk_at "ss"
        exact k S p q H' nS np nq (Ne.symm npS) (Ne.symm nqS) (by simpa using hpn) sm hD hp hq
def PairsAt (H : Hp) (L : Addr) (ps : List (Addr × Str × Option Str)) : Prop := H L = some (.lst (ps.map fun z => V.ref z.1)) ∧ ∀ z ∈ ps, H z.1 = some (.tup [.str z.2.1, vO z.2.2])
theorem PairsAt.up {H H' : Hp} {L : Addr} {ps : List (Addr × Str × Option Str)} (h : PairsAt H L ps) (s : Same H H') : PairsAt H' L ps := ⟨s _ _ h.1, fun z hz => s _ _ (h.2 z hz)⟩
theorem kC_val (cs : CsL) (k : Str) : valV (kC cs) (.inr k) = (getG cs k).map vO := val_kC k cs
def spPairs : Sp := fun vs H Q _ => ∃ (d : Addr) (cs : CsL), vs = [.ref d] ∧ H d = some (.dK (kC cs)) ∧ (cs.map (·.1)).Nodup ∧ cs.length ≤ 60 ∧ ∀ (L : Addr) (ps : List (Addr × Str × Option Str)) (H' : Hp), H L = none → Same H H' → SrtOf cs (ps.map (·.2)) → PairsAt H' L ps → Q (.ref L) H'
theorem ok_pairs (T : Tx K mg) : FnOk P w K mg base CX0 1 T.a_pairs T.fd_pairs P_pairs spPairs := by
  refine T.F_pairs.ok sc_pairs (fun vs H Q E h => ?_) (fun cdv A outer s H vs Q E hr h => ?_)
  · obtain ⟨d, cs, rfl, _⟩ := h
    rfl
  · obtain ⟨d, cs, rfl, hd, hnd, hl, k⟩ := h
    have nd := sc_pairs.nd
    refine ⟨_, (pss_one (ps_ret (pe_lc (own := [("_law_key_here", 1)]) rfl nd (kpi_list K (kcB b_sorted (by decide) (by decide) (call_sortedD rfl) g_pairs_sorted T.n_sorted (pa_cons (kv (i := 0) v_pairs_law_shelf_here) pa_nil))) ok_cs_pairs_1 (fun _ _ _ _ _ => (kgL (i := 1) nd l_pairs_1_law_key_here)) (fun _ _ _ _ _ => pts_nil) (fun _ _ _ _ _ => (pe_tup (pa_cons (kv (i := 1) v_pairs_1_law_key_here) (pa_cons (pe_dget (hu_of hr) (kv (i := 0) v_pairs_1_law_shelf_here) (kv (i := 1) v_pairs_1_law_key_here) (fun _ _ => rfl)) pa_nil))))))), ?_⟩
    walk_at "ss"
    refine ⟨d, kC cs, cs.map (·.1), rfl, .inl hd, by simp [kC], by rw [List.length_map]; omega, fun ys q hp hs nq => ?_⟩
    generalize eL : upd H q _ = H1
    have s1 := upd_sm eL nq
    have hq := upd_at eL
    clear eL
    have ynd : ys.Nodup := hp.nodup_iff.mpr hnd
    have yl : ys.length ≤ 60 := by have := hp.length_eq; rw [List.length_map] at this; omega
    refine k_iL (SqL.of hq) ?_
    intro D nD
    refine k_lcList (ys.map V.str) (fun i H' => Same H1 H' ∧ ∃ ps : List (Addr × Str × Option Str), PairsAt H' D ps ∧ ps.map (·.2) = sortF cs (ys.take i) ∧ ps.length ≤ i) ⟨same_new nD, [], ⟨upd_same, fun z hz => (by cases hz)⟩, rfl, Nat.le_refl _⟩ (fun i H' _ h => SqL.of (h.1 _ _ hq)) ?_ ?_
    · rintro i x H' hx ⟨sm, ps, ⟨hD, hps⟩, eps, hpl⟩
      rw [List.getElem?_map] at hx
      obtain ⟨y, hy, rfl⟩ := Option.map_eq_some_iff.mp hx
      have hil := (List.getElem?_eq_some_iff.mp hy).1
      obtain ⟨v, hv⟩ := getG_key (hp.mem_iff.mp (List.mem_of_getElem? hy))
      have gd := DGet.k (k := Sum.inr y) (sm _ _ (s1 _ _ hd))
      rw [kC_val, hv] at gd
      walk_at "ss"
      refine ⟨rfl, ?_⟩
      walk_at "ss"
      refine k_dget ?_
      walk_at "ss"
      refine ⟨d, _, rfl, gd, ?_⟩
      walk_at "ss"
      intro p np
      have npD : p ≠ D := fun e => by rw [e, hD] at np; cases np
      have sp := same_new (o := .tup [.str y, vO v]) np
      refine ⟨_, (upd_ne (Ne.symm npD)).trans hD, small_lt (by rw [List.length_map]; omega), same_put (sm.trans sp) nD, ps ++ [(p, y, v)], ⟨by rw [upd_same, List.map_append]; rfl, fun z hz => ?_⟩, ?_, by rw [List.length_append, List.length_singleton]; omega⟩
      · rcases List.mem_append.mp hz with hz | hz
        · have h0 := hps z hz
          have ne : z.1 ≠ D := fun e => by rw [e, hD] at h0; cases h0
          exact (upd_ne ne).trans (sp _ _ h0)
        · rw [List.mem_singleton.mp hz]
          exact (upd_ne npD).trans upd_same
      · rw [List.map_append, eps, List.take_add_one, hy, Option.toList_some, sortF_snoc hv]
        rfl
    · rintro H' ⟨sm, ps, hP, eps, hpl⟩
      rw [List.length_map, List.take_length] at eps
      exact k D ps H' (s_none s1 nD) (s1.trans sm) ⟨ys, hp, hs, eps⟩ hP
end

section
variable {w : World} {K : PySem.W.Frag} {mg : Str → Option Value} {base : Heap}
/-! ### like, through and through -/
inductive Sc : V → Prop where
  | int (i : Int) : Sc (.int i)
  | str (s : Str) : Sc (.str s)
  | bl (b : Bool) : Sc (.bl b)
  | non : Sc .non
def Eqd (H : Hp) : Nat → V → V → Prop
  | 0, x, y => x = y ∧ Sc x
  | d + 1, x, y => (x = y ∧ Sc x) ∨ (∃ a ks, x = .ref a ∧ y = .ref a ∧ H a = some (.dK ks) ∧ OkD ks) ∨ ∃ a b xs ys, x = .ref a ∧ y = .ref b ∧ ((H a = some (.lst xs) ∧ H b = some (.lst ys)) ∨ (H a = some (.tup xs) ∧ H b = some (.tup ys))) ∧ xs.length = ys.length ∧ xs.length ≤ 30000 ∧
      ∀ (i : Nat) u v, xs[i]? = some u → ys[i]? = some v → Eqd H d u v
theorem Eqd.up {H H' : Hp} (e : Same H H') : ∀ {d : Nat} {x y : V}, Eqd H d x y → Eqd H' d x y
  | 0, _, _, h => h
  | d + 1, _, _, .inl h => .inl h
  | d + 1, _, _, .inr (.inl ⟨a, ks, e1, e2, h, k⟩) => .inr (.inl ⟨a, ks, e1, e2, e _ _ h, k⟩)
  | d + 1, _, _, .inr (.inr ⟨a, b, xs, ys, e1, e2, h, hl, hl2, k⟩) => .inr (.inr ⟨a, b, xs, ys, e1, e2, h.imp (fun h => ⟨e _ _ h.1, e _ _ h.2⟩) (fun h => ⟨e _ _ h.1, e _ _ h.2⟩), hl, hl2, fun i u v hu hv => (k i u v hu hv).up e⟩)
theorem Eqd.sc {H : Hp} {x : V} (h : Sc x) : ∀ d, Eqd H d x x
  | 0 => ⟨rfl, h⟩
  | _ + 1 => .inl ⟨rfl, h⟩
theorem ScB.s {v : V} (h : ScB v) : Sc v := by
  cases h with
  | int i => exact .int i
  | str z h => exact .str z
  | bl b => exact .bl b
  | non => exact .non
theorem Gd.eqd {F : Addr → Prop} {H : Hp} : ∀ {d : Nat} {v : V}, Gd F H d v → Eqd H d v v
  | 0, _, h => ⟨rfl, h.s⟩
  | d + 1, _, .inl h => .inl ⟨rfl, h.s⟩
  | d + 1, _, .inr (.inl ⟨a, xs, e1, _, h, hl, k⟩) => .inr (.inr ⟨a, a, xs, xs, e1, e1, h.imp (fun h => ⟨h, h⟩) (fun h => ⟨h, h⟩), rfl, Nat.le_trans hl (by decide), fun i u v hu hv => by
      rw [hu] at hv
      cases hv
      exact (k u (List.mem_of_getElem? hu)).eqd⟩)
  | d + 1, _, .inr (.inr ⟨a, ks, e1, _, h, k⟩) => .inr (.inl ⟨a, ks, e1, e1, h, k⟩)
theorem Eqd.succ {H : Hp} : ∀ {d : Nat} {x y : V}, Eqd H d x y → Eqd H (d + 1) x y
  | 0, _, _, h => .inl h
  | d + 1, _, _, .inl h => .inl h
  | d + 1, _, _, .inr (.inl h) => .inr (.inl h)
  | d + 1, _, _, .inr (.inr ⟨a, b, xs, ys, e1, e2, h, hl, hl2, k⟩) => .inr (.inr ⟨a, b, xs, ys, e1, e2, h, hl, hl2, fun i u v hu hv => (k i u v hu hv).succ⟩)
theorem eqR_same {K : PySem.W.Frag} {H : Hp} {a : Addr} {ks : List (Key × V)} (h : H a = some (.dK ks)) (k : OkD ks) : EqR K H (EqV K H 1) (.ref a) (.ref a) := by
  refine .inr ⟨a, a, ks, ks, rfl, rfl, h, h, rfl, fun p hp => ?_⟩
  rcases k with rfl | ⟨k, v, rfl, hv⟩
  · cases hp
  · rw [List.mem_singleton] at hp
    subst hp
    refine ⟨v, by simp [valV], ?_⟩
    rcases hv with hv | ⟨b, rfl⟩
    · exact .inl ⟨rfl, hv⟩
    · exact .inr (.inl ⟨b, rfl, rfl⟩)
/-- ==: of plain values, and of dicts -/
def rEqX (K : PySem.W.Frag) : R2 := fun x y H Q => rEq x y H Q ∨ rEqV K x y H Q
theorem kop_eqX {X : Cx} (K : PySem.W.Frag) (hu : X.A.units + 64 < cLine) (hK : X.K = K := by rfl) : OpR X (compareOp .Eq) (rEqX K) := by
  subst hK
  intro pins s σ H x y v u Q I rx ry h
  exact h.elim (op_eq pins s σ H x y v u Q I rx ry) (op_eqV hu pins s σ H x y v u Q I rx ry)
theorem isoI {K : PySem.W.Frag} {H : Hp} {v : V} {tp : String} {b : Bool} {Q : VK} (ty : TyX K H v (.type tp)) {T1 : String} (h1 : kitB tp T1 = some b) (k : Q (.bl b) H) : rIsi K [v, .ty T1] H Q := k_isi ty h1 k
theorem isoT {K : PySem.W.Frag} {H : Hp} {v : V} {tp : String} {p : Addr} {Q : VK} (ty : TyX K H v (.type tp)) (h : H p = some (.tup [.ty "list", .ty "tuple"])) (h1 : kitB tp "list" = some false) (h2 : kitB tp "tuple" = some false) (k : Q (.bl false) H) : rIsiT K [v, .ref p] H Q := k_isiT h ty h1 h2 k
def spLike : Nat → Sp
  | 0 => fun _ _ _ _ => False
  | d + 1 => fun vs H Q _ => ∃ x y, vs = [x, y] ∧ Eqd H d x y ∧ ∀ H', Same H H' → Q (.bl true) H'
theorem ok_like0 (T : Tx K mg) (d : Nat) (ih : FnOk P w K mg base CX0 (d + 1) T.a_like T.fd_like P_like (spLike d)) : FnOk P w K mg base CX0 (d + 2) T.a_like T.fd_like P_like (spLike (d + 1)) := by
  refine T.F_like.ok sc_like (fun vs H Q E h => ?_) (fun cdv A outer s H vs Q E hr h => ?_)
  · obtain ⟨x, y, rfl, _⟩ := h
    rfl
  · obtain ⟨x, y, rfl, h⟩ := h
    have nd := sc_like.nd
    refine ⟨_, (pss_cons (ps_if (pt_val (kcB b_isinstance (by decide) (by decide) (kc_isiT K) g_like_isinstance T.n_isinstance (pa_cons (kv (i := 1) v_like_law_due) (pa_cons (pe_tup (pa_cons (kty_list g_like_list T.n_list) (pa_cons (kty_tuple g_like_tuple T.n_tuple) pa_nil))) pa_nil)))) (pss_cons (ps_if (PW.pt (pw_or (pt_cmpR op_ne (kcB b_isinstance (by decide) (by decide) (kc_isi K) g_like_isinstance T.n_isinstance (pa_cons (kv (i := 0) v_like_law_told) (pa_cons (kty_list g_like_list T.n_list) pa_nil))) (kcB b_isinstance (by decide) (by decide) (kc_isi K) g_like_isinstance T.n_isinstance (pa_cons (kv (i := 1) v_like_law_due) (pa_cons (kty_list g_like_list T.n_list) pa_nil))) (nomark _)) (pw_or1 (pt_cmpR op_ne (kcB b_isinstance (by decide) (by decide) (kc_isi K) g_like_isinstance T.n_isinstance (pa_cons (kv (i := 0) v_like_law_told) (pa_cons (kty_tuple g_like_tuple T.n_tuple) pa_nil))) (kcB b_isinstance (by decide) (by decide) (kc_isi K) g_like_isinstance T.n_isinstance (pa_cons (kv (i := 1) v_like_law_due) (pa_cons (kty_tuple g_like_tuple T.n_tuple) pa_nil))) (nomark _))))) (pss_one (ps_ret pe_bl)) pss_nil)
      (pss_one (ps_ret (pe_and (pe_cmpR op_eq (kcB b_len (by decide) (by decide) (kc_len K) g_like_len T.n_len (pa_cons (kv (i := 0) v_like_law_told) pa_nil)) (kcB b_len (by decide) (by decide) (kc_len K) g_like_len T.n_len (pa_cons (kv (i := 1) v_like_law_due) pa_nil)) (nomark _)) (pe_one (kcB b_all (by decide) (by decide) (cr_all rfl) g_like_all T.n_all (pa_cons (pe_lc (own := [("_law_a", 2), ("_law_b", 3)]) rfl nd (RZ.pi_zipA g_like_zip T.n_zip (pa_cons (kv (i := 0) v_like_law_told) (pa_cons (kv (i := 1) v_like_law_due) pa_nil))) ok_cs_like_1 (fun _ _ _ _ _ => (kpg_tup K 2 rfl (pgs_cons (kgL (i := 2) nd l_like_1_law_a) (pgs_cons (kgL (i := 3) nd l_like_1_law_b) pgs_nil)))) (fun _ _ _ _ _ => pts_nil) (fun _ _ _ _ _ => (pe_call ih (hr.mono (by first | decide | omega)) g_like_1_law_like T.m_like T.k_like T.b_like .nil pass0 (pa_cons (kv (i := 2) v_like_1_law_a) (pa_cons (kv (i := 3) v_like_1_law_b) pa_nil))))) pa_nil))))))) pss_nil)
      (pss_cons (ps_if (PW.pt (pw_or (pt_cmpR op_isN (kv (i := 1) v_like_law_due) pe_non (nomark _)) (pw_or1 (pt_cmpR op_isN (kv (i := 0) v_like_law_told) pe_non (nomark _))))) (pss_one (ps_ret (pe_and (pe_cmpR op_isN (kv (i := 1) v_like_law_due) pe_non (nomark _)) (pe_one (pe_cmpR op_isN (kv (i := 0) v_like_law_told) pe_non (nomark _)))))) pss_nil)
      (pss_cons (ps_if (PW.pt (pw_or (pt_val (kcB b_isinstance (by decide) (by decide) (kc_isiT K) g_like_isinstance T.n_isinstance (pa_cons (kv (i := 0) v_like_law_told) (pa_cons (pe_tup (pa_cons (kty_list g_like_list T.n_list) (pa_cons (kty_tuple g_like_tuple T.n_tuple) pa_nil))) pa_nil)))) (pw_or1 (pt_cmpR op_ne (kcB b_isinstance (by decide) (by decide) (kc_isi K) g_like_isinstance T.n_isinstance (pa_cons (kv (i := 0) v_like_law_told) (pa_cons (kty_bool g_like_bool T.n_bool) pa_nil))) (kcB b_isinstance (by decide) (by decide) (kc_isi K) g_like_isinstance T.n_isinstance (pa_cons (kv (i := 1) v_like_law_due) (pa_cons (kty_bool g_like_bool T.n_bool) pa_nil))) (nomark _))))) (pss_one (ps_ret pe_bl)) pss_nil)
      (pss_cons (ps_if (PW.pt (pw_or (pt_cmpR op_ne (kcB b_isinstance (by decide) (by decide) (kc_isi K) g_like_isinstance T.n_isinstance (pa_cons (kv (i := 0) v_like_law_told) (pa_cons (kty_str g_like_str T.n_str) pa_nil))) (kcB b_isinstance (by decide) (by decide) (kc_isi K) g_like_isinstance T.n_isinstance (pa_cons (kv (i := 1) v_like_law_due) (pa_cons (kty_str g_like_str T.n_str) pa_nil))) (nomark _)) (pw_or1 (pt_cmpR op_ne (kcB b_isinstance (by decide) (by decide) (kc_isi K) g_like_isinstance T.n_isinstance (pa_cons (kv (i := 0) v_like_law_told) (pa_cons (kty_int g_like_int T.n_int) pa_nil))) (kcB b_isinstance (by decide) (by decide) (kc_isi K) g_like_isinstance T.n_isinstance (pa_cons (kv (i := 1) v_like_law_due) (pa_cons (kty_int g_like_int T.n_int) pa_nil))) (nomark _))))) (pss_one (ps_ret pe_bl)) pss_nil)
      (pss_cons (ps_if (pt_cmpR op_ne (kcB b_isinstance (by decide) (by decide) (kc_isi K) g_like_isinstance T.n_isinstance (pa_cons (kv (i := 0) v_like_law_told) (pa_cons (kty_dict g_like_dict T.n_dict) pa_nil))) (kcB b_isinstance (by decide) (by decide) (kc_isi K) g_like_isinstance T.n_isinstance (pa_cons (kv (i := 1) v_like_law_due) (pa_cons (kty_dict g_like_dict T.n_dict) pa_nil))) (nomark _)) (pss_one (ps_ret pe_bl)) pss_nil)
      (pss_one (ps_ret (kcT b_bool (by decide) (by decide) kc_bool g_like_bool T.n_bool (pa_cons (pe_cmpR (kop_eqX K hr.units) (kv (i := 0) v_like_law_told) (kv (i := 1) v_like_law_due) (nomark _)) pa_nil))))))))), ?_⟩
    have nn : ∀ z : Int, ¬ V.int z = V.non := fun z e => by cases e
    have ns : ∀ z : Str, ¬ V.str z = V.non := fun z e => by cases e
    have nb : ∀ z : Bool, ¬ V.bl z = V.non := fun z e => by cases e
    obtain ⟨hE, k⟩ := h
    have nr : ∀ z : Addr, ¬ V.ref z = V.non := fun z e => by cases e
    have key : (x = y ∧ Sc x) ∨ (∃ a ks, x = .ref a ∧ y = .ref a ∧ H a = some (.dK ks) ∧ OkD ks) ∨ ∃ (m : Nat) (a b : Addr) (xs ys : List V), d = m + 1 ∧ x = .ref a ∧ y = .ref b ∧ ((H a = some (.lst xs) ∧ H b = some (.lst ys)) ∨ (H a = some (.tup xs) ∧ H b = some (.tup ys))) ∧ xs.length = ys.length ∧ xs.length ≤ 30000 ∧
        ∀ (i : Nat) u v, xs[i]? = some u → ys[i]? = some v → Eqd H m u v := by
      cases d with
      | zero => exact .inl hE
      | succ m =>
        rcases hE with h | h | ⟨a, b, xs, ys, e1, e2, h, hl, hl2, kk⟩
        · exact .inl h
        · exact .inr (.inl h)
        · exact .inr (.inr ⟨m, a, b, xs, ys, rfl, e1, e2, h, hl, hl2, kk⟩)
    clear hE
    rcases key with ⟨rfl, hx⟩ | ⟨a, ks, rfl, rfl, hd, hk⟩ | ⟨m, a, b, xs, ys, rfl, rfl, rfl, hh, hlen, hl, hs⟩
    · walk_at "ss"
      intro p1 n1
      cases hx with
      | int i =>
        walk_at "ss"
        refine ⟨rfl, ?_⟩
        walk_at "ss"
        refine k_df (fun e => by cases e) ?_
        walk_at "ss"
        refine ⟨rfl, ?_⟩
        walk_at "ss"
        refine k_df (fun e => by cases e) ?_
        walk_at "ss"
        intro p2 n2
        walk_at "ss"
        refine k_ne rfl ?_
        walk_at "ss"
        refine k_nt rfl ?_
        walk_at "ss"
        refine k_ne rfl ?_
        walk_at "ss"
        refine k_nt rfl ?_
        walk_at "ss"
        refine k_ne rfl ?_
        walk_at "ss"
        refine k_nt rfl ?_
        walk_at "ss"
        refine k_ne rfl ?_
        walk_at "ss"
        refine k_nt rfl ?_
        walk_at "ss"
        first
          | (refine .inl (k_eq rfl ?_)
             rw [decide_eq_true rfl]
             exact k _ ((same_new n1).trans (same_new n2)))
      | str i =>
        walk_at "ss"
        refine ⟨rfl, ?_⟩
        walk_at "ss"
        refine k_df (fun e => by cases e) ?_
        walk_at "ss"
        refine ⟨rfl, ?_⟩
        walk_at "ss"
        refine k_df (fun e => by cases e) ?_
        walk_at "ss"
        intro p2 n2
        walk_at "ss"
        refine k_ne rfl ?_
        walk_at "ss"
        refine k_nt rfl ?_
        walk_at "ss"
        refine k_ne rfl ?_
        walk_at "ss"
        refine k_nt rfl ?_
        walk_at "ss"
        refine k_ne rfl ?_
        walk_at "ss"
        refine k_nt rfl ?_
        walk_at "ss"
        refine k_ne rfl ?_
        walk_at "ss"
        refine k_nt rfl ?_
        walk_at "ss"
        first
          | (refine .inl (k_eq rfl ?_)
             rw [decide_eq_true rfl]
             exact k _ ((same_new n1).trans (same_new n2)))
      | bl i =>
        walk_at "ss"
        refine ⟨rfl, ?_⟩
        walk_at "ss"
        refine k_df (fun e => by cases e) ?_
        walk_at "ss"
        refine ⟨rfl, ?_⟩
        walk_at "ss"
        refine k_df (fun e => by cases e) ?_
        walk_at "ss"
        intro p2 n2
        walk_at "ss"
        refine k_ne rfl ?_
        walk_at "ss"
        refine k_nt rfl ?_
        walk_at "ss"
        refine k_ne rfl ?_
        walk_at "ss"
        refine k_nt rfl ?_
        walk_at "ss"
        refine k_ne rfl ?_
        walk_at "ss"
        refine k_nt rfl ?_
        walk_at "ss"
        refine k_ne rfl ?_
        walk_at "ss"
        refine k_nt rfl ?_
        walk_at "ss"
        first
          | (refine .inl (k_eq rfl ?_)
             rw [decide_eq_true rfl]
             exact k _ ((same_new n1).trans (same_new n2)))
      | non =>
        walk_at "ss"
        refine ⟨rfl, ?_⟩
        walk_at "ss"
        refine k_dt rfl ?_
        walk_at "ss"
        refine ⟨rfl, ?_⟩
        walk_at "ss"
        refine k_dt rfl ?_
        walk_at "ss"
        refine ⟨rfl, ?_⟩
        rw [decide_eq_true rfl]
        exact k _ (same_new n1)
    · walk_at "ss"
      intro p1 n1
      have s1 := same_new (o := .tup [V.ty "list", V.ty "tuple"]) n1
      have hd1 := s1 _ _ hd
      walk_at "ss"
      try refine isoT (TyX.base (.dK hd1)) upd_same kb_dict_list kb_dict_tuple ?_
      walk_at "ss"
      refine ⟨rfl, ?_⟩
      walk_at "ss"
      refine k_df (nr _) ?_
      walk_at "ss"
      refine ⟨rfl, ?_⟩
      walk_at "ss"
      refine k_df (nr _) ?_
      walk_at "ss"
      intro p2 n2
      have hd2 := same_new (o := .tup [V.ty "list", V.ty "tuple"]) n2 _ _ hd1
      walk_at "ss"
      try refine isoT (TyX.base (.dK hd2)) upd_same kb_dict_list kb_dict_tuple ?_
      walk_at "ss"
      refine k_ne rfl ?_
      walk_at "ss"
      refine k_nt rfl ?_
      walk_at "ss"
      refine k_ne rfl ?_
      walk_at "ss"
      refine k_nt rfl ?_
      walk_at "ss"
      refine k_ne rfl ?_
      walk_at "ss"
      refine k_nt rfl ?_
      walk_at "ss"
      refine k_ne rfl ?_
      walk_at "ss"
      refine k_nt rfl ?_
      walk_at "ss"
      refine .inr ⟨1, by decide, eqR_same hd2 hk, ?_⟩
      walk_at "ss"
      exact k _ ((same_new n1).trans (same_new n2))
    · rcases hh with ⟨ha, hb⟩ | ⟨ha, hb⟩
      · walk_at "ss"
        intro p np
        generalize e1 : upd H p _ = H1
        have s1 := upd_sm e1 np
        have hp := upd_at e1
        clear e1
        have ha1 := s1 _ _ ha
        have hb1 := s1 _ _ hb
        walk_at "ss"
        refine k_ne rfl ?_
        walk_at "ss"
        refine k_nt rfl ?_
        walk_at "ss"
        refine k_ne rfl ?_
        walk_at "ss"
        refine k_nt rfl ?_
        walk_at "ss"
        refine k_dt (by omega) ?_
        walk_at "ss"
        refine k_iZipA ?_
        walk_at "ss"
        refine ⟨a, b, xs, ys, rfl, zL ⟨SqL.of ha1, SqL.of hb1, ?_⟩⟩
        intro D nD
        refine k_lcIt (n := xs.length) (walk_zipL (xs := xs) (ys := ys) (by omega)) (fun i H' => ∃ bs : List Bool, H' D = some (.lst (bs.map V.bl)) ∧ bs.length = i ∧ (∀ z ∈ bs, z = true) ∧ Same H1 H') ⟨[], upd_same, rfl, fun z hz => (by cases hz), same_new nD⟩ ?_ ?_ ?_
        · rintro i H' _ ⟨bs, _, _, _, sm⟩
          exact ⟨SqL.of (sm _ _ ha1), SqL.of (sm _ _ hb1)⟩
        · rintro i x H' H'' hi ⟨bs, hD, hlen, hall, sm⟩ ⟨tp, y1, y2, rfl, nt, rfl, ey1, ey2⟩
          have hyt : (upd H' tp (.tup [y1, y2])) tp = some (.tup [y1, y2]) := upd_same
          walk_at "ss"
          refine ⟨rfl, ?_⟩
          walk_at "ss"
          refine ⟨y1, y2, rfl, (hs i y1 y2 ey1 ey2).up ((s1.trans sm).trans (same_new nt)), fun H3 s3 => ?_⟩
          have hD3 := s3 _ _ (same_new nt _ _ hD)
          refine ⟨_, hD3, small_lt (by rw [List.length_map]; omega), bs ++ [true], by rw [upd_same, List.map_append]; rfl, by simp [hlen], ?_, same_put ((sm.trans (same_new nt)).trans s3) nD⟩
          intro z hz
          rcases List.mem_append.mp hz with hz | hz
          · exact hall z hz
          · exact List.mem_singleton.mp hz
        · rintro H' ⟨bs, hD, hlen, hall, sm⟩
          walk_at "ss"
          refine ⟨D, bs, rfl, SqL.of hD, ?_⟩
          have : bs.all id = true := List.all_eq_true.mpr fun z hz => hall z hz
          rw [this]
          exact k _ (s1.trans sm)
      · walk_at "ss"
        intro p np
        generalize e1 : upd H p _ = H1
        have s1 := upd_sm e1 np
        have hp := upd_at e1
        clear e1
        have ha1 := s1 _ _ ha
        have hb1 := s1 _ _ hb
        walk_at "ss"
        refine k_ne rfl ?_
        walk_at "ss"
        refine k_nt rfl ?_
        walk_at "ss"
        refine k_ne rfl ?_
        walk_at "ss"
        refine k_nt rfl ?_
        walk_at "ss"
        refine k_dt (by omega) ?_
        walk_at "ss"
        refine k_iZipA ?_
        walk_at "ss"
        refine ⟨a, b, xs, ys, rfl, zT ⟨SqT.of ha1, SqT.of hb1, ?_⟩⟩
        intro D nD
        refine k_lcIt (n := xs.length) (walk_zipT (xs := xs) (ys := ys) (by omega)) (fun i H' => ∃ bs : List Bool, H' D = some (.lst (bs.map V.bl)) ∧ bs.length = i ∧ (∀ z ∈ bs, z = true) ∧ Same H1 H') ⟨[], upd_same, rfl, fun z hz => (by cases hz), same_new nD⟩ ?_ ?_ ?_
        · rintro i H' _ ⟨bs, _, _, _, sm⟩
          exact ⟨SqT.of (sm _ _ ha1), SqT.of (sm _ _ hb1)⟩
        · rintro i x H' H'' hi ⟨bs, hD, hlen, hall, sm⟩ ⟨tp, y1, y2, rfl, nt, rfl, ey1, ey2⟩
          have hyt : (upd H' tp (.tup [y1, y2])) tp = some (.tup [y1, y2]) := upd_same
          walk_at "ss"
          refine ⟨rfl, ?_⟩
          walk_at "ss"
          refine ⟨y1, y2, rfl, (hs i y1 y2 ey1 ey2).up ((s1.trans sm).trans (same_new nt)), fun H3 s3 => ?_⟩
          have hD3 := s3 _ _ (same_new nt _ _ hD)
          refine ⟨_, hD3, small_lt (by rw [List.length_map]; omega), bs ++ [true], by rw [upd_same, List.map_append]; rfl, by simp [hlen], ?_, same_put ((sm.trans (same_new nt)).trans s3) nD⟩
          intro z hz
          rcases List.mem_append.mp hz with hz | hz
          · exact hall z hz
          · exact List.mem_singleton.mp hz
        · rintro H' ⟨bs, hD, hlen, hall, sm⟩
          walk_at "ss"
          refine ⟨D, bs, rfl, SqL.of hD, ?_⟩
          have : bs.all id = true := List.all_eq_true.mpr fun z hz => hall z hz
          rw [this]
          exact k _ (s1.trans sm)
theorem okr_like (T : Tx K mg) : ∀ d, FnOk P w K mg base CX0 (d + 1) T.a_like T.fd_like P_like (spLike d)
  | 0 => ⟨fun _ _ _ _ h => h.elim, fun _ _ _ _ _ _ _ _ _ _ _ _ _ h => h.elim⟩
  | d + 1 => ok_like0 T d (okr_like T d)
theorem ok_like (T : Tx K mg) : FnOk P w K mg base CX0 5 T.a_like T.fd_like P_like (spLike 4) := okr_like T 4
end

section
open TL
variable {w : World} {K : PySem.W.Frag} {mg : Str → Option Value} {base : Heap}
/-! ### whether a disk is as its own one -/
theorem eqd_seq {H : Hp} {a b : Addr} {xs : List V} {d : Nat} (h : (H a = some (.lst xs) ∧ H b = some (.lst xs)) ∨ (H a = some (.tup xs) ∧ H b = some (.tup xs))) (hl : xs.length ≤ 30000) (g : ∀ x ∈ xs, Eqd H d x x) : Eqd H (d + 1) (.ref a) (.ref b) :=
  .inr (.inr ⟨a, b, xs, xs, rfl, rfl, h, rfl, hl, fun i u v hu hv => by
    rw [hu] at hv
    cases hv
    exact g u (List.mem_of_getElem? hu)⟩)
theorem sc_vO (o : Option Str) : Sc (vO o) := by
  cases o with
  | none => exact .non
  | some z => exact .str z
theorem eqd_map {α : Type} {H : Hp} {a b : Addr} {ps qs : List (Addr × α)} {f : α → List V} (ha : H a = some (.lst (ps.map fun z => V.ref z.1))) (hb : H b = some (.lst (qs.map fun z => V.ref z.1))) (h1 : ∀ z ∈ ps, H z.1 = some (.tup (f z.2))) (h2 : ∀ z ∈ qs, H z.1 = some (.tup (f z.2))) (e : ps.map (·.2) = qs.map (·.2)) (hl : ps.length ≤ 30000)
    (hs : ∀ x, (f x).length ≤ 30000 ∧ ∀ v ∈ f x, Sc v) : Eqd H 2 (.ref a) (.ref b) := by
  have el : ps.length = qs.length := by simpa using congrArg List.length e
  refine .inr (.inr ⟨a, b, _, _, rfl, rfl, .inl ⟨ha, hb⟩, by rw [List.length_map, List.length_map, el], by rw [List.length_map]; exact hl, fun i u v hu hv => ?_⟩)
  rw [List.getElem?_map] at hu hv
  obtain ⟨z, hz, rfl⟩ := Option.map_eq_some_iff.mp hu
  obtain ⟨y, hy, rfl⟩ := Option.map_eq_some_iff.mp hv
  have e2 : z.2 = y.2 := by
    have : (ps.map (·.2))[i]? = (qs.map (·.2))[i]? := by rw [e]
    rw [List.getElem?_map, List.getElem?_map, hz, hy] at this
    exact Option.some.inj this
  have g1 := h1 z (List.mem_of_getElem? hz)
  have g2 := h2 y (List.mem_of_getElem? hy)
  rw [← e2] at g2
  exact eqd_seq (.inr ⟨g1, g2⟩) (hs z.2).1 fun x hx => Eqd.sc ((hs z.2).2 x hx) 0
theorem sortF_keys {α : Type} {t : List (Str × α)} : ∀ {ys : List Str}, (∀ y ∈ ys, y ∈ t.map (·.1)) → (sortF t ys).map (·.1) = ys
  | [], _ => rfl
  | y :: ys, h => by
    obtain ⟨v, hv⟩ := getG_key (h y List.mem_cons_self)
    have ih := sortF_keys (t := t) (ys := ys) fun x hx => h x (List.mem_cons_of_mem _ hx)
    unfold sortF at ih ⊢
    rw [List.filterMap_cons, hv]
    show y :: _ = _
    rw [ih]
theorem SrtOf.keys {α : Type} {t t2 : List (Str × α)} (h : SrtOf t t2) (hn : (t.map (·.1)).Nodup) : (t2.map (·.1)).Nodup := by
  obtain ⟨ys, hp, _, rfl⟩ := h
  rw [sortF_keys fun y hy => hp.mem_iff.mp hy]
  exact hp.nodup_iff.mpr hn
theorem tabC_keys (t : Tab) : (tabC t).map (·.1) = t.map (·.1) := by
  unfold tabC
  rw [List.map_map]
  rfl
theorem SrtOf.tabC {t t2 : Tab} (h : SrtOf t t2) : SrtOf (tabC t) (tabC t2) := by
  obtain ⟨ys, hp, hs, rfl⟩ := h
  refine ⟨ys, by rw [tabC_keys]; exact hp, hs, ?_⟩
  clear hp hs
  unfold sortF
  induction ys with
  | nil => rfl
  | cons y ys ih =>
    have e := getC_tab t y
    rw [getC_G] at e
    rw [List.filterMap_cons, List.filterMap_cons, e]
    cases getG t y with
    | none => exact ih
    | some v =>
      exact congrArg (List.cons (y, some v)) ih
theorem eqd_areas {H : Hp} {L p q L2 p2 q2 : Addr} {xs ys : List V} (h : H L = some (.lst [.ref p, .ref q])) (h2 : H L2 = some (.lst [.ref p2, .ref q2])) (hp : H p = some (.lst xs)) (hp2 : H p2 = some (.lst xs)) (hq : H q = some (.lst ys)) (hq2 : H q2 = some (.lst ys))
    (hx : xs.length ≤ 30000) (hy : ys.length ≤ 30000) (sx : ∀ x ∈ xs, Sc x) (sy : ∀ x ∈ ys, Sc x) : Eqd H 2 (.ref L) (.ref L2) := by
  refine .inr (.inr ⟨L, L2, _, _, rfl, rfl, .inl ⟨h, h2⟩, rfl, (by decide : 2 ≤ 30000), fun i u v hu hv => ?_⟩)
  match i, hu, hv with
  | 0, hu, hv =>
    cases hu
    cases hv
    exact eqd_seq (.inl ⟨hp, hp2⟩) hx fun x hx => Eqd.sc (sx x hx) 0
  | 1, hu, hv =>
    cases hu
    cases hv
    exact eqd_seq (.inl ⟨hq, hq2⟩) hy fun x hx => Eqd.sc (sy x hx) 0
  | i + 2, hu, hv => cases hu
theorem sc_vOs (c : List (Option Str)) : ∀ x ∈ c.map vO, Sc x := fun x hx => by
  obtain ⟨o, _, rfl⟩ := List.mem_map.mp hx
  exact sc_vO o
theorem k_like {H : Hp} {x y : V} {Q : VK} {E : XK} (h : Eqd H 3 x y) (k : ∀ H', Same H H' → Q (.bl true) H') : spLike 4 [x, y] H Q E := ⟨x, y, rfl, h, k⟩
theorem k_prop {C : Addr} {sp : Sp} {dvs : List V} {E : XK} {ta : TE} {σ : L2.St} {H : Hp} {Q : VK} (h : ta σ H fun x H1 => ∃ a dx fs, x = .ref a ∧ H1 a = some (.ins C dx fs) ∧ sp (.ref a :: dvs) H1 Q E) : tProp C sp dvs E ta σ H Q := h
structure Sml (s : DS) : Prop where
  tab : TabOk s.tab
  c0 : s.c0.length ≤ 5000
  c1 : s.c1.length ≤ 5000
  u : s.uns.length ≤ 30000
  fl : s.fallen = false
theorem Sml.b0 {s : DS} (h : Sml s) : s.c0.length ≤ 30000 := Nat.le_trans h.c0 (by decide)
theorem Sml.b1 {s : DS} (h : Sml s) : s.c1.length ≤ 30000 := Nat.le_trans h.c1 (by decide)
theorem Inv.sml {s : DS} {n u : Nat} (h : Inv s n u) (hu : u ≤ 30000) : Sml s := ⟨h.tab, Nat.le_trans h.l0 (by decide), Nat.le_trans h.l1 (by decide), Nat.le_trans h.ul hu, h.fl⟩
def spDiskSo (T : Tx K mg) : Sp := fun vs H Q _ => ∃ (f : DF) (g : OF) (s : DS), vs = [.ref f.a, .ref g.o] ∧ DiskAt T H f s ∧ OwnAt H g s ∧ Sml s ∧ ∀ H', Same H H' → Q (.bl true) H'
theorem ok_disk_so (T : Tx K mg) : FnOk P w K mg base CX0 6 T.a_disk_so T.fd_disk_so P_disk_so (spDiskSo T) := by
  refine T.F_disk_so.ok sc_disk_so (fun vs H Q E h => ?_) (fun cdv A outer s H vs Q E hr h => ?_)
  · obtain ⟨f, g, s, rfl, _⟩ := h
    rfl
  · obtain ⟨f, g, d, rfl, hD, hO, hS, k⟩ := h
    have nd := sc_disk_so.nd
    refine ⟨_, (pss_cons (ks_setC (i := 2) nd c_disk_so_law_told (kpe_methP0 (disp1 T.cl_Disk T.me_Disk_table (ok_Disk_table T) T.b_Disk_table) (hr.mono (by first | decide | omega)) pass0 (kv (i := 0) v_disk_so_law_disk)))
      (pss_cons (ps_if (PW.pt (pw_or (pt_not (pt_val (kcB b_isinstance (by decide) (by decide) (kc_isi K) g_disk_so_isinstance T.n_isinstance (pa_cons (kv (i := 2) v_disk_so_law_told) (pa_cons (kty_dict g_disk_so_dict T.n_dict) pa_nil))))) (pw_or1 (pt_not (pt_val (pe_call (ok_like T) (hr.mono (by first | decide | omega)) g_disk_so_law_like T.m_like T.k_like T.b_like .nil pass0 (pa_cons (pe_lc (own := [("_law_key_here", 3)]) rfl nd (kpi_list K (kcT b_list (by decide) (by decide) (call_list_dK rfl) g_disk_so_list T.n_list (pa_cons (kv (i := 2) v_disk_so_law_told) pa_nil))) ok_cs_disk_so_1 (fun _ _ _ _ _ => (kgL (i := 3) nd l_disk_so_1_law_key_here)) (fun _ _ _ _ _ => pts_nil) (fun _ _ _ _ _ => (pe_tup (pa_cons (kv (i := 3) v_disk_so_1_law_key_here) (pa_cons (pe_dget (hu_of hr) (kv (i := 2) v_disk_so_1_law_told) (kv (i := 3) v_disk_so_1_law_key_here) (fun _ _ => rfl)) pa_nil))))) (pa_cons (pe_call (ok_pairs T) (hr.mono (by first | decide | omega)) g_disk_so_law_pairs T.m_pairs T.k_pairs T.b_pairs .nil pass0 (pa_cons (pe_dget (hu_of hr) (kv (i := 1) v_disk_so_law_own) pe_str (fun _ _ => rfl)) pa_nil)) pa_nil)))))))) (pss_one (ps_ret pe_bl)) pss_nil)
      (pss_cons (ps_if (pt_not (pt_val (pe_call (ok_like T) (hr.mono (by first | decide | omega)) g_disk_so_law_like T.m_like T.k_like T.b_like .nil pass0 (pa_cons (pe_lst (pa_cons (pe_prop (kv (i := 0) v_disk_so_law_disk) T.cl_Disk T.pr_Disk_syncs (ok_Disk_syncs T) (hr.mono (by first | decide | omega)) T.b_Disk_syncs .nil pass0 rfl) (pa_cons (pe_prop (kv (i := 0) v_disk_so_law_disk) T.cl_Disk T.pr_Disk_fallen (ok_Disk_fallen T) (hr.mono (by first | decide | omega)) T.b_Disk_fallen .nil pass0 rfl) pa_nil))) (pa_cons (pe_lst (pa_cons (pe_dget (hu_of hr) (kv (i := 1) v_disk_so_law_own) pe_str (fun _ _ => rfl)) (pa_cons pe_bl pa_nil))) pa_nil))))) (pss_one (ps_ret pe_bl)) pss_nil)
      (pss_one (ps_ret (pe_and (pe_call (ok_like T) (hr.mono (by first | decide | omega)) g_disk_so_law_like T.m_like T.k_like T.b_like .nil pass0 (pa_cons (kpe_methP0 (disp1 T.cl_Disk T.me_Disk_areas (ok_Disk_areas T) T.b_Disk_areas) (hr.mono (by first | decide | omega)) pass0 (kv (i := 0) v_disk_so_law_disk)) (pa_cons (pe_call (ok_areas T) (hr.mono (by first | decide | omega)) g_disk_so_law_areas T.m_areas T.k_areas T.b_areas .nil pass0 (pa_cons (kv (i := 1) v_disk_so_law_own) pa_nil)) pa_nil))) (pe_one (pe_call (ok_like T) (hr.mono (by first | decide | omega)) g_disk_so_law_like T.m_like T.k_like T.b_like .nil pass0 (pa_cons (kpe_methP0 (disp1 T.cl_Disk T.me_Disk_unsynced (ok_Disk_unsynced T) T.b_Disk_unsynced) (hr.mono (by first | decide | omega)) pass0 (kv (i := 0) v_disk_so_law_disk)) (pa_cons (pe_dget (hu_of hr) (kv (i := 1) v_disk_so_law_own) pe_str (fun _ _ => rfl)) pa_nil)))))))))), ?_⟩
    have ho := hO.ho
    obtain ⟨e0, e1, ul, hB⟩ := hO.b
    obtain ⟨dx, fs, hins, hno⟩ := hD.at_.ins
    walk_at "ss"
    refine k_meth ?_
    walk_at "ss"
    refine ⟨f.a, _, _, _, _, rfl, hins, ⟨rfl, rfl⟩, hno _ (by decide +kernel), ?_⟩
    walk_at "ss"
    refine ⟨f, d, rfl, hD, hS.tab, fun D t2 H1 nD s1 hs2 hD1 => ?_⟩
    have hk2 := hs2.keys hS.tab.nd
    have hl2 := hs2.len
    have hl20 := hS.tab.len
    walk_at "ss"
    refine ⟨D, kT t2, rfl, hD1, fun B nB => ?_⟩
    generalize eB : upd H1 B _ = H2
    have sB := upd_sm eB nB
    have hB2 := upd_at eB
    clear eB
    refine k_iL (SqL.of hB2) ?_
    intro L1 nL1
    refine k_lcList ((kT t2).map fun kv => kV kv.1) (fun i H' => Same H2 H' ∧ ∃ ps : List (Addr × Str × Option Str), PairsAt H' L1 ps ∧ ps.map (·.2) = (tabC t2).take i ∧ ps.length ≤ i) ⟨same_new nL1, [], ⟨upd_same, fun z hz => (by cases hz)⟩, rfl, Nat.le_refl _⟩ (fun i H' _ h => SqL.of (h.1 _ _ hB2)) ?_ ?_
    · rintro i x H' hx ⟨sm, ps, ⟨hL, hps⟩, eps, hpl⟩
      have hil := (List.getElem?_eq_some_iff.mp hx).1
      obtain ⟨z, hz, rfl⟩ : ∃ z, t2[i]? = some z ∧ x = V.str z.1 := by
        unfold kT at hx
        rw [List.map_map, List.getElem?_map] at hx
        obtain ⟨z, hz, e⟩ := Option.map_eq_some_iff.mp hx
        exact ⟨z, hz, e.symm⟩
      rw [List.length_map] at hil
      unfold kT at hil
      rw [List.length_map] at hil
      have hv := getG_nd hk2 (List.mem_of_getElem? hz)
      have gd := DGet.k (k := Sum.inr z.1) (sm _ _ (sB _ _ hD1))
      rw [kT_val, hv] at gd
      walk_at "ss"
      refine ⟨rfl, ?_⟩
      walk_at "ss"
      refine k_dget ?_
      walk_at "ss"
      refine ⟨D, _, rfl, gd, ?_⟩
      walk_at "ss"
      intro p np
      have npL : p ≠ L1 := fun e => by rw [e, hL] at np; cases np
      have sp := same_new (o := .tup [.str z.1, .str z.2]) np
      refine ⟨_, (upd_ne (Ne.symm npL)).trans hL, small_lt (by rw [List.length_map]; omega), same_put (sm.trans sp) nL1, ps ++ [(p, z.1, some z.2)], ⟨by rw [upd_same, List.map_append]; rfl, fun y hy => ?_⟩, ?_, by rw [List.length_append, List.length_singleton]; omega⟩
      · rcases List.mem_append.mp hy with hy | hy
        · have h0 := hps y hy
          have ne : y.1 ≠ L1 := fun e => by rw [e, hL] at h0; cases h0
          exact (upd_ne ne).trans (sp _ _ h0)
        · rw [List.mem_singleton.mp hy]
          exact (upd_ne npL).trans upd_same
      · rw [List.map_append, eps, List.take_add_one]
        unfold tabC
        rw [List.getElem?_map, hz]
        rfl
    · rintro H3 ⟨sm3, ps, hP, eps, hpl⟩
      have ekt : ((kT t2).map fun kv => kV kv.1).length = t2.length := by unfold kT; rw [List.length_map, List.length_map]
      have etc : (tabC t2).length = t2.length := by unfold tabC; rw [List.length_map]
      rw [ekt] at eps hpl
      rw [List.take_of_length_le (by omega)] at eps
      have s3 := (s1.trans sB).trans sm3
      have ho3 := s3 _ _ ho
      have hB3 := hB.up s3
      walk_at "ss"
      refine k_dget ?_
      walk_at "ss"
      refine ⟨g.o, _, rfl, DGet.kl ho3 (i := 0) (by decide +kernel) rfl, ?_⟩
      have ekc : (tabC d.tab).length = d.tab.length := by unfold tabC; rw [List.length_map]
      refine ⟨g.sh, tabC d.tab, rfl, by rw [kC_tab]; exact hB3.hs, by rw [tabC_keys]; exact hS.tab.nd, by omega, fun LB ps2 H4 nLB s4 hs4 hP2 => ?_⟩
      walk_at "ss"
      have e24 := hs2.tabC.uniq hs4
      refine k_like (Eqd.succ (eqd_map (f := fun x : Str × Option Str => [V.str x.1, vO x.2]) (hP.up s4).1 hP2.1 (hP.up s4).2 hP2.2 (eps.trans e24) (by omega) (fun x => ⟨(by decide : 2 ≤ 30000), fun v hv => by
        simp only [List.mem_cons, List.not_mem_nil, or_false] at hv
        rcases hv with rfl | rfl
        · exact .str _
        · exact sc_vO _⟩))) fun H5 s5 => ?_
      have s05 := (s3.trans s4).trans s5
      have ho5 := s05 _ _ ho
      have hB5 := hB.up s05
      have hF5 := hD.at_.up s05
      have hins5 := s05 _ _ hins
      walk_at "ss"
      refine k_prop ?_
      walk_at "ss"
      refine ⟨f.a, _, _, rfl, hins5, ?_⟩
      refine ⟨f, d, rfl, hF5, ?_⟩
      walk_at "ss"
      refine k_prop ?_
      walk_at "ss"
      refine ⟨f.a, _, _, rfl, hins5, ?_⟩
      refine ⟨f, d, rfl, hF5, ?_⟩
      rw [hS.fl]
      walk_at "ss"
      intro p np
      have s6 := same_new (o := .lst [V.int (d.syncs : Nat), V.bl false]) np
      have hp6 : upd H5 p (.lst [V.int (d.syncs : Nat), V.bl false]) p = some (.lst [V.int (d.syncs : Nat), V.bl false]) := upd_same
      have ho6 := s6 _ _ ho5
      have s06 := s05.trans s6
      generalize upd H5 p (.lst [V.int (d.syncs : Nat), V.bl false]) = H6 at s6 hp6 ho6 s06 ⊢
      walk_at "ss"
      refine k_dget ?_
      walk_at "ss"
      refine ⟨g.o, _, rfl, DGet.kl ho6 (i := 9) (by decide +kernel) rfl, ?_⟩
      walk_at "ss"
      intro q nq
      have s7 := same_new (o := .lst [V.int (d.syncs : Nat), V.bl false]) nq
      walk_at "ss"
      refine k_like (Eqd.succ (Eqd.succ (eqd_seq (.inl ⟨s7 _ _ hp6, upd_same⟩) (show 2 ≤ 30000 by decide) (fun x hx => by
        simp only [List.mem_cons, List.not_mem_nil, or_false] at hx
        rcases hx with rfl | rfl
        · exact Eqd.sc (.int _) 0
        · exact Eqd.sc (.bl _) 0)))) fun H8 s8 => ?_
      have s08 := (s06.trans s7).trans s8
      have hins8 := s08 _ _ hins
      walk_at "ss"
      refine k_meth ?_
      walk_at "ss"
      refine ⟨f.a, _, _, _, _, rfl, hins8, ⟨rfl, rfl⟩, hno _ (by decide +kernel), ?_⟩
      walk_at "ss"
      refine ⟨f, d, rfl, ⟨hD.at_.up s08, let ⟨l, h⟩ := hD.b; ⟨l, h.up s08⟩⟩, fun LA pA qA H9 nLA npA nqA n1 n2 n3 s9 hLA hpA hqA => ?_⟩
      have s09 := s08.trans s9
      walk_at "ss"
      refine ⟨g, d, rfl, ⟨s09 _ _ ho, e0, e1, ul, hB.up s09⟩, hS.b0, hS.b1, fun LC pC qC HA nLC npC nqC m1 m2 m3 sA hLC hpC hqC => ?_⟩
      walk_at "ss"
      refine k_like (Eqd.succ (eqd_areas (sA _ _ hLA) hLC (sA _ _ hpA) hpC (sA _ _ hqA) hqC (by rw [List.length_map]; exact hS.b0) (by rw [List.length_map]; exact hS.b1) (sc_vOs _) (sc_vOs _))) fun HB sB => ?_
      have s0B := (s09.trans sA).trans sB
      have hinsB := s0B _ _ hins
      walk_at "ss"
      refine k_meth ?_
      walk_at "ss"
      refine ⟨f.a, _, _, _, _, rfl, hinsB, ⟨rfl, rfl⟩, hno _ (by decide +kernel), ?_⟩
      walk_at "ss"
      refine ⟨f, d, rfl, ⟨hD.at_.up s0B, let ⟨l, h⟩ := hD.b; ⟨l, h.up s0B⟩⟩, fun LU l HC nLU sC elu hU hw => ?_⟩
      have s0C := s0B.trans sC
      walk_at "ss"
      refine k_dget ?_
      walk_at "ss"
      refine ⟨g.o, _, rfl, DGet.kl (s0C _ _ ho) (i := 8) (by decide +kernel) rfl, ?_⟩
      walk_at "ss"
      have hBC := hB.up s0C
      have hul : l.length = d.uns.length := by rw [← elu, List.length_map]
      refine k_like (Eqd.succ (eqd_map (f := fun x : Wr => [V.int (x.1 : Nat), V.int (x.2.1 : Nat), V.str x.2.2]) hU.at_ hBC.hu.at_ hU.ws hBC.hu.ws (elu.trans hBC.eu.symm) (by rw [hul]; exact hS.u) (fun x => ⟨(by decide : 3 ≤ 30000), fun v hv => by
        simp only [List.mem_cons, List.not_mem_nil, or_false] at hv
        rcases hv with rfl | rfl | rfl
        · exact .int _
        · exact .int _
        · exact .str _⟩))) fun HD sD => ?_
      exact k _ (s0C.trans sD)
end

section
open TL
variable {K : PySem.W.Frag} {mg : Str → Option Value}
/-! ### a disk and its own one, beside a bag -/
theorem Inv.new {m : Int} {t : Tab} (ht : TabOk t) (m1 : 1 ≤ m) (m2 : m ≤ 64) : Inv (DS.newD m t) 0 0 := by
  have hl := prt_len ht.ch.cs
  have h : Inv ((DS.fresh m t).take 0 1) 0 108 := by
    refine ⟨m1, m2, ht, Nat.zero_le _, Nat.zero_le _, (fun o ho => by cases ho), (fun o ho => by cases ho), ?_, fun x hx => ?_, Nat.le_refl _, Nat.zero_le _, hl, Nat.zero_le _, rfl, headT 1 (prt (tabC t)).length, headT_g _ _, ?_⟩
    · show ([] ++ (piecesW 0 1 (prt (tabC t)) ++ [(0, 0, headT 1 (prt (tabC t)).length)])).length ≤ _
      rw [List.nil_append, List.length_append, show (piecesW 0 1 (prt (tabC t))).length = _ from zip_len _ _, List.length_singleton]
      omega
    · exact take_wr (s := DS.fresh m t) (a := 0) (g := 1) ht (Nat.zero_le _) (by decide) x hx
    · show ((((DS.fresh m t).take 0 1).puts ([] ++ (_ ++ _))).cl 0)[0]? = _
      rw [List.nil_append, puts_app, puts_one, put_cl (Nat.zero_le _)]
      exact putC_0
  have h2 := h.sync 0
  exact ⟨h2.m1, h2.m2, h2.tab, h2.l0, h2.l1, h2.k0, h2.k1, Nat.le_refl _, (fun x hx => absurd hx List.not_mem_nil), h2.g, h2.ar, h2.pc, h2.rw, h2.fl, h2.hd⟩
theorem Bag.noT {G0 G : Hp} {b : Addr} {β : HO} (h : Bag K G0 G b β) (r : List V) : β ≠ .tup r := by
  obtain ⟨l, ns, i, r, s, c, rfl, _⟩ := h.ex
  intro q
  cases q
theorem split_fr {G H' : Hp} {b : Addr} {β : HO} {F : List Addr} (hb : G b = none) (hF : b ∉ F) (e : Fr F (upd G b β) H') : ∃ G', G' b = none ∧ Fr F G G' ∧ H' = upd G' b β := by
  refine ⟨fun a => if a = b then none else H' a, if_pos rfl, fun a o h n => ?_, ?_⟩
  · have hne : a ≠ b := ne_of_none h hb
    show (if a = b then none else H' a) = some o
    rw [if_neg hne]
    exact e _ _ (up_get hb h) n
  · funext a
    unfold upd
    by_cases h : a = b
    · rw [if_pos h, h]
      exact e _ _ upd_same hF
    · rw [if_neg h]
      show H' a = if a = b then none else H' a
      rw [if_neg h]
theorem fr_dn (G : Hp) (b : Addr) (β : HO) : Fr [b] (upd G b β) G := fun x o h n => by
  rw [upd_ne (by simpa using n)] at h
  exact h
theorem Bag.nt1 {G0 G : Hp} {b : Addr} {β : HO} (h : Bag K G0 G b β) : NoT (upd G b β) [b] := fun x hx xs e => by
  rw [List.mem_singleton.mp hx, upd_same] at e
  exact h.noT xs (Option.some.inj e)
theorem DiskAt.dn {T : Tx K mg} {G0 G1 G : Hp} {b : Addr} {β : HO} {f : DF} {s : DS} (hb : Bag K G0 G1 b β) (h : DiskAt T (upd G b β) f s) (nb : b ∉ f.l) : DiskAt T G f s :=
  h.fr (fr_dn G b β) (fun x hx m => nb (by rw [← List.mem_singleton.mp m]; exact hx)) (fun x hx xs e => by
    rw [List.mem_singleton.mp hx, upd_same] at e
    exact hb.noT xs (Option.some.inj e))
theorem OwnAt.dn {G0 G1 G : Hp} {b : Addr} {β : HO} {g : OF} {s : DS} (hb : Bag K G0 G1 b β) (h : OwnAt (upd G b β) g s) (nb : b ∉ g.l) : OwnAt G g s :=
  h.fr (fr_dn G b β) (fun x hx m => nb (by rw [← List.mem_singleton.mp m]; exact hx)) (fun x hx xs e => by
    rw [List.mem_singleton.mp hx, upd_same] at e
    exact hb.noT xs (Option.some.inj e))
/-- how a disk and its own one go on -/
structure Mv (G : Hp) (f : DF) (g : OF) (G' : Hp) (f' : DF) (g' : OF) : Prop where
  fa : f'.a = f.a
  gv : g'.v = g.v
  fr : Fr (f.l ++ g.v) G G'
  nf : Nw f.l f'.l G
  ng : Nw (f.l ++ g.l) g'.l G
theorem Mv.refl (G : Hp) (f : DF) (g : OF) : Mv G f g G f g := ⟨rfl, rfl, Fr.refl _ _, Nw.refl _ _, fun x h => .inl (List.mem_append_right _ h)⟩
theorem Mv.same {G G1 G2 : Hp} {f f' : DF} {g g' : OF} (h : Mv G f g G1 f' g') (s : Same G1 G2) : Mv G f g G2 f' g' := ⟨h.fa, h.gv, h.fr.same s, h.nf, h.ng⟩
theorem Mv.of {G G1 : Hp} {f : DF} {g : OF} (s : Same G G1) : Mv G f g G1 f g := (Mv.refl G f g).same s
theorem Mv.trans {G G1 G2 : Hp} {f f1 f2 : DF} {g g1 g2 : OF} (h : Mv G f g G1 f1 g1) (lv : ∀ x ∈ g.v, ∃ o, G1 x = some o) (k : Mv G1 f1 g1 G2 f2 g2) : Mv G f g G2 f2 g2 := by
  have nn : ∀ x, G1 x = none → x ∉ f.l → G x = none := fun x hx hf => by
    cases e : G x with
    | none => rfl
    | some o =>
      exfalso
      by_cases m : x ∈ g.v
      · obtain ⟨o', ho⟩ := lv x m
        rw [hx] at ho
        cases ho
      · have := h.fr x o e (fun q => (List.mem_append.mp q).elim hf m)
        rw [hx] at this
        cases this
  refine ⟨k.fa.trans h.fa, k.gv.trans h.gv, fun x o e n => k.fr x o (h.fr x o e n) fun q => ?_, fun x hx => ?_, fun x hx => ?_⟩
  · rcases List.mem_append.mp q with q | q
    · rcases h.nf x q with m | m
      · exact n (List.mem_append_left _ m)
      · rw [e] at m; cases m
    · exact n (List.mem_append_right _ (h.gv ▸ q))
  · by_cases hm : x ∈ f.l
    · exact .inl hm
    · rcases k.nf x hx with m | m
      · exact h.nf x m
      · exact .inr (nn x m hm)
  · rcases k.ng x hx with m | m
    · rcases List.mem_append.mp m with m | m
      · rcases h.nf x m with q | q
        · exact .inl (List.mem_append_left _ q)
        · exact .inr q
      · exact h.ng x m
    · by_cases hm : x ∈ f.l
      · exact .inl (List.mem_append_left _ hm)
      · exact .inr (nn x m hm)
theorem Mv.put {G G1 : Hp} {f f' : DF} {g g' : OF} {x : Addr} {o : HO} (h : Mv G f g G1 f' g') (n : G x = none) : Mv G f g (upd G1 x o) f' g' := ⟨h.fa, h.gv, h.fr.put (.inr n), h.nf, h.ng⟩
/-- both in their heap, apart, and not in the heap of the script -/
structure Pr (T : Tx K mg) (G0 G : Hp) (f : DF) (g : OF) (s t : DS) : Prop where
  d : DiskAt T G f s
  o : OwnAt G g t
  dis : ∀ x ∈ f.l, x ∉ g.l
  z : ∀ x ∈ f.l ++ g.l, G0 x = none
theorem Pr.up {T : Tx K mg} {G0 G G' : Hp} {f : DF} {g : OF} {s t : DS} (h : Pr T G0 G f g s t) (e : Same G G') : Pr T G0 G' f g s t := ⟨h.d.up e, h.o.up e, h.dis, h.z⟩
theorem Pr.lf {T : Tx K mg} {G0 G : Hp} {f : DF} {g : OF} {s t : DS} (h : Pr T G0 G f g s t) : ∀ x ∈ f.l, ∃ o, G x = some o := fun x hx => let ⟨o, e, _⟩ := h.d.live x hx; ⟨o, e⟩
theorem Pr.lg {T : Tx K mg} {G0 G : Hp} {f : DF} {g : OF} {s t : DS} (h : Pr T G0 G f g s t) : ∀ x ∈ g.l, ∃ o, G x = some o := fun x hx => let ⟨o, e, _⟩ := h.o.live x hx; ⟨o, e⟩
theorem Pr.lv {T : Tx K mg} {G0 G : Hp} {f : DF} {g g0 : OF} {s t : DS} (h : Pr T G0 G f g s t) (e : g.v = g0.v) : ∀ x ∈ g0.v, ∃ o, G x = some o := fun x hx => h.lg x (OF.v_l (e ▸ hx))
theorem not_b {G : Hp} {b : Addr} {F : List Addr} (hb : G b = none) (h : ∀ x ∈ F, ∃ o, G x = some o) : b ∉ F := fun m => by
  obtain ⟨o, e⟩ := h b m
  rw [hb] at e
  cases e
theorem Pr.dU {T : Tx K mg} {G0 G1 G : Hp} {b : Addr} {β : HO} {f : DF} {g : OF} {s t : DS} (h : Pr T G0 G f g s t) (hb : Bag K G1 G b β) : DiskAt T (upd G b β) f s := h.d.up (up_same hb.nb)
theorem Pr.oU {T : Tx K mg} {G0 G1 G : Hp} {b : Addr} {β : HO} {f : DF} {g : OF} {s t : DS} (h : Pr T G0 G f g s t) (hb : Bag K G1 G b β) : OwnAt (upd G b β) g t := h.o.up (up_same hb.nb)
theorem Bag.fr {G0 G G' : Hp} {b : Addr} {β : HO} {F : List Addr} (hb : Bag K G0 G b β) (fr : Fr F G G') (z : ∀ x ∈ F, G0 x = none) (n : G' b = none) : Bag K G0 G' b β :=
  hb.up0 (fun x o e => fr x o (hb.sm _ _ e) fun m => by rw [z x m] at e; cases e) n
theorem stepD {T : Tx K mg} {G0 G H' : Hp} {b : Addr} {β : HO} {f f' : DF} {g : OF} {s s' t : DS} (hb : Bag K G0 G b β) (hp : Pr T G0 G f g s t) (e : f'.a = f.a) (fr : Fr f.l (upd G b β) H') (nw : Nw f.l f'.l (upd G b β)) (h : DiskAt T H' f' s') :
    ∃ G', H' = upd G' b β ∧ Bag K G0 G' b β ∧ Mv G f g G' f' g ∧ Pr T G0 G' f' g s' t := by
  have nbf := not_b hb.nb hp.lf
  obtain ⟨G', nb', fr', rfl⟩ := split_fr hb.nb nbf fr
  have nwG : Nw f.l f'.l G := fun x hx => (nw x hx).imp id fun q => (up_none q).1
  have nbf' : b ∉ f'.l := fun m => by
    rcases nw b m with q | q
    · exact nbf q
    · rw [upd_same] at q; cases q
  refine ⟨G', rfl, hb.fr fr' (fun x hx => hp.z x (List.mem_append_left _ hx)) nb', ⟨e, rfl, fr'.mono fun x hx => List.mem_append_left _ hx, nwG, fun x hx => .inl (List.mem_append_right _ hx)⟩, DiskAt.dn hb h nbf', hp.o.fr fr' (fun x hx m => hp.dis x m hx) (NoT.of hp.d.live), fun x hx m => ?_, fun x hx => ?_⟩
  · rcases nwG x hx with q | q
    · exact hp.dis x q m
    · obtain ⟨o, e⟩ := hp.lg x m
      rw [q] at e
      cases e
  · rcases List.mem_append.mp hx with hx | hx
    · rcases nwG x hx with q | q
      · exact hp.z x (List.mem_append_left _ q)
      · exact g_none hb.sm q
    · exact hp.z x (List.mem_append_right _ hx)
theorem stepOw {T : Tx K mg} {G0 G H' : Hp} {b : Addr} {β : HO} {f : DF} {g g' : OF} {s t t' : DS} (hb : Bag K G0 G b β) (hp : Pr T G0 G f g s t) (e : g'.v = g.v) (fr : Fr g.v (upd G b β) H') (nw : Nw g.l g'.l (upd G b β)) (h : OwnAt H' g' t') :
    ∃ G', H' = upd G' b β ∧ Bag K G0 G' b β ∧ Mv G f g G' f g' ∧ Pr T G0 G' f g' s t' := by
  have nbf := not_b hb.nb hp.lg
  obtain ⟨G', nb', fr', rfl⟩ := split_fr hb.nb (OF.nw nbf) fr
  have nwG : Nw g.l g'.l G := fun x hx => (nw x hx).imp id fun q => (up_none q).1
  have nbf' : b ∉ g'.l := fun m => by
    rcases nw b m with q | q
    · exact nbf q
    · rw [upd_same] at q; cases q
  refine ⟨G', rfl, hb.fr fr' (fun x hx => hp.z x (List.mem_append_right _ (OF.v_l hx))) nb', ⟨rfl, e, fr'.mono fun x hx => List.mem_append_right _ hx, Nw.refl _ _, fun x hx => (nwG x hx).imp (List.mem_append_right _) id⟩, hp.d.fr fr' (fun x hx m => hp.dis x hx (OF.v_l m)) (NoT.of fun x hx => hp.o.live x (OF.v_l hx)), OwnAt.dn hb h nbf', fun x hx m => ?_, fun x hx => ?_⟩
  · rcases nwG x m with q | q
    · exact hp.dis x hx q
    · obtain ⟨o, e⟩ := hp.lf x hx
      rw [q] at e
      cases e
  · rcases List.mem_append.mp hx with hx | hx
    · exact hp.z x (List.mem_append_left _ hx)
    · rcases nwG x hx with q | q
      · exact hp.z x (List.mem_append_right _ q)
      · exact g_none hb.sm q
/-- two of them keep apart -/
def Apart (f : DF) (g : OF) (f2 : DF) (g2 : OF) : Prop := ∀ x ∈ f2.l ++ g2.l, x ∉ f.l ++ g.v
theorem Pr.keep {T : Tx K mg} {G0 G G' : Hp} {f f' f2 : DF} {g g' g2 : OF} {s t s2 t2 : DS} (h : Pr T G0 G f2 g2 s2 t2) (hp : Pr T G0 G f g s t) (ap : Apart f g f2 g2) (m : Mv G f g G' f' g') : Pr T G0 G' f2 g2 s2 t2 := by
  have nt : NoT G (f.l ++ g.v) := NoT.of fun x hx => (List.mem_append.mp hx).elim (hp.d.live x) fun q => hp.o.live x (OF.v_l q)
  exact ⟨h.d.fr m.fr (fun x hx => ap x (List.mem_append_left _ hx)) nt, h.o.fr m.fr (fun x hx => ap x (List.mem_append_right _ hx)) nt, h.dis, h.z⟩
theorem Apart.l {T : Tx K mg} {G0 G G' : Hp} {f f' f2 : DF} {g g' g2 : OF} {s2 t2 : DS} (h : Pr T G0 G f2 g2 s2 t2) (ap : Apart f g f2 g2) (m : Mv G f g G' f' g') : Apart f' g' f2 g2 := fun x hx q => by
  have hl : ∃ o, G x = some o := (List.mem_append.mp hx).elim (h.lf x) (h.lg x)
  rcases List.mem_append.mp q with q | q
  · rcases m.nf x q with q | q
    · exact ap x hx (List.mem_append_left _ q)
    · obtain ⟨o, e⟩ := hl
      rw [q] at e
      cases e
  · exact ap x hx (List.mem_append_right _ (m.gv ▸ q))
theorem Apart.r {T : Tx K mg} {G0 G G' : Hp} {f f' f2 : DF} {g g' g2 : OF} {s2 t2 : DS} (h : Pr T G0 G f2 g2 s2 t2) (ap : Apart f2 g2 f g) (m : Mv G f g G' f' g') : Apart f2 g2 f' g' := fun x hx q => by
  have hl : ∃ o, G x = some o := (List.mem_append.mp q).elim (h.lf x) fun q => h.lg x (OF.v_l q)
  have key : x ∈ f.l ++ g.l ∨ G x = none := (List.mem_append.mp hx).elim (fun q => (m.nf x q).imp (List.mem_append_left _) id) (m.ng x)
  rcases key with k | k
  · exact ap x k q
  · obtain ⟨o, e⟩ := hl
    rw [k] at e
    cases e
end

section
open TL
variable {w : World} {K : PySem.W.Frag} {mg : Str → Option Value} {base : Heap}
/-! ### a deed -/
theorem Inv.upn {s : DS} {n u m v : Nat} (h : Inv s n u) (hm : n ≤ m) (hv : u ≤ v) : Inv s m v := ⟨h.m1, h.m2, h.tab, h.l0, h.l1, h.k0, h.k1, Nat.le_trans h.ul hv, h.ui, by have := h.g; omega, h.ar, h.pc, h.rw, h.fl, h.hd⟩
theorem Mv.out {G G' : Hp} {f f' : DF} {g g' : OF} {x : Addr} {o : HO} (m : Mv G f g G' f' g') (hx : G x = some o) (n : x ∉ f.l ++ g.l) : x ∉ f'.l ++ g'.l := fun q => by
  rcases List.mem_append.mp q with q | q
  · rcases m.nf x q with k | k
    · exact n (List.mem_append_left _ k)
    · rw [hx] at k; cases k
  · rcases m.ng x q with k | k
    · exact n k
    · rw [hx] at k; cases k
theorem Mv.get {G G' : Hp} {f f' : DF} {g g' : OF} {x : Addr} {o : HO} (m : Mv G f g G' f' g') (hx : G x = some o) (n : x ∉ f.l ++ g.l) : G' x = some o := m.fr x o hx fun q => n (by
  rcases List.mem_append.mp q with q | q
  · exact List.mem_append_left _ q
  · exact List.mem_append_right _ (OF.v_l q))
theorem Pr.out {T : Tx K mg} {G0 G : Hp} {f : DF} {g : OF} {s t : DS} {x : Addr} (h : Pr T G0 G f g s t) (n : G x = none) : x ∉ f.l ++ g.l := fun q => by
  obtain ⟨o, e⟩ := (List.mem_append.mp q).elim (h.lf x) (h.lg x)
  rw [n] at e
  cases e
theorem Pr.put {T : Tx K mg} {G0 G : Hp} {f : DF} {g : OF} {s t : DS} {x : Addr} {o : HO} (h : Pr T G0 G f g s t) (n : x ∉ f.l ++ g.l) (nt : ∀ xs, G x ≠ some (.tup xs)) : Pr T G0 (upd G x o) f g s t := by
  have fr : Fr [x] G (upd G x o) := (Fr.refl _ _).put (.inl (by simp))
  have nn : NoT G [x] := fun y hy xs => by rw [List.mem_singleton.mp hy]; exact nt xs
  exact ⟨h.d.fr fr (fun y hy m => n (by rw [← List.mem_singleton.mp m]; exact List.mem_append_left _ hy)) nn, h.o.fr fr (fun y hy m => n (by rw [← List.mem_singleton.mp m]; exact List.mem_append_right _ hy)) nn, h.dis, h.z⟩
theorem off_bag {G : Hp} {b a : Addr} {β o : HO} (n : β ≠ o) (h : upd G b β a = some o) : G a = some o := by
  by_cases e : a = b
  · subst e
    rw [upd_same] at h
    exact (n (Option.some.inj h)).elim
  · rw [upd_ne e] at h
    exact h
theorem Bag.noD {G0 G : Hp} {b : Addr} {β : HO} (h : Bag K G0 G b β) (r : List (Key × V)) : β ≠ .dK r := by
  obtain ⟨l, ns, i, rr, s, c, rfl, _⟩ := h.ex
  intro q
  cases q
theorem isn_t {Q : VK} {H : Hp} (h : Q (.bl true) H) : V.non = V.non ∧ Q (.bl (decide (V.non = V.non))) H := ⟨rfl, by rw [decide_eq_true rfl]; exact h⟩
def spDeed (T : Tx K mg) : Sp := fun vs H Q _ => ∃ (G0 G : Hp) (b : Addr) (β : HO) (f : DF) (g : OF) (s : DS) (n u : Nat), vs = [.ref b, .ref f.a, .ref g.o] ∧ H = upd G b β ∧ Bag K G0 G b β ∧ Pr T G0 G f g s s ∧ Inv s n u ∧ n ≤ 900 ∧ u ≤ 20000 ∧
  ∀ (f' : DF) (g' : OF) (s' : DS) (G' : Hp) (β' : HO), Bag K G0 G' b β' → Mv G f g G' f' g' → Pr T G0 G' f' g' s' s' → Inv s' (n + 1) (u + 215) → Q (.bl true) (upd G' b β')
theorem ok_deed (T : Tx K mg) : FnOk P w K mg base CX0 6 T.a_deed T.fd_deed P_deed (spDeed T) := by
  refine T.F_deed.ok sc_deed (fun vs H Q E h => ?_) (fun cdv A outer s H vs Q E hr h => ?_)
  · obtain ⟨G0, G, b, β, f, g, s, n, u, rfl, _⟩ := h
    rfl
  · obtain ⟨G0, G, b, β, f, g, d, n, u, rfl, rfl, hb, hp0, hI, hn, hu, k⟩ := h
    have nd := sc_deed.nd
    obtain ⟨dsC, dvm_Disk_check, bsm_Disk_check⟩ := bindC1 T
    obtain ⟨mvC, kbm_Disk_check⟩ := kbindC T
    refine ⟨_, (pss_cons (ks_setL (i := 3) nd l_deed_law_pick (pe_call (ok_draw T) (hr.mono (by first | decide | omega)) g_deed_law_draw T.m_draw T.k_draw T.b_draw .nil pass0 (pa_cons (kv (i := 0) v_deed_law_bag_here) (pa_cons pe_int pa_nil))))
      (pss_cons (ps_if (pt_cmpR op_lt (kv (i := 3) v_deed_law_pick) pe_int (nomark _)) (pss_cons (ks_setL (i := 4) nd l_deed_law_pairs_here (pe_call (ok_changes T) (hr.mono (by first | decide | omega)) g_deed_law_changes T.m_changes T.k_changes T.b_changes .nil pass0 (pa_cons (kv (i := 0) v_deed_law_bag_here) (pa_cons (pe_dget (hu_of hr) (kv (i := 2) v_deed_law_own) pe_str (fun _ _ => rfl)) pa_nil))))
      (pss_cons (ks_setL (i := 5) nd l_deed_law_given (pe_call (ok_copy T) (hr.mono (by first | decide | omega)) g_deed_law_copy T.m_copy T.k_copy T.b_copy .nil pass0 (pa_cons (kv (i := 4) v_deed_law_pairs_here) pa_nil)))
      (pss_cons (ks_setL (i := 6) nd l_deed_law_told (pe_ifExp (pt_cmpR op_lt (kv (i := 3) v_deed_law_pick) pe_int (nomark _)) (kpe_methP (disp1 T.cl_Disk T.me_Disk_write (ok_Disk_write T) T.b_Disk_write) (hr.mono (by first | decide | omega)) pass0 (kv (i := 1) v_deed_law_disk) (pa_cons (kv (i := 5) v_deed_law_given) pa_nil)) (pe_methKn T.cl_Disk T.me_Disk_write (ok_Disk_write T) (hr.mono (by first | decide | omega)) (kbn_of T.kb_Disk_write_changes 1 (fun us ws h1 h2 => by (rcases us with _ | ⟨u0, _ | ⟨z, us⟩⟩ <;> rcases ws with _ | ⟨w0, _ | ⟨z2, ws⟩⟩ <;> first | rfl | (cases h1; done) | (cases h2; done)))) pass0 (kv (i := 1) v_deed_law_disk) (pk_cons (kv (i := 5) v_deed_law_given) pk_nil))))
      (pss_cons (ps_expr (pe_call (ok_write T) (hr.mono (by first | decide | omega)) g_deed_law_write T.m_write T.k_write T.b_write .nil pass0 (pa_cons (kv (i := 2) v_deed_law_own) (pa_cons (kv (i := 4) v_deed_law_pairs_here) pa_nil))))
      (pss_cons (ks_setL (i := 7) nd l_deed_law_kept (pe_call (ok_like T) (hr.mono (by first | decide | omega)) g_deed_law_like T.m_like T.k_like T.b_like .nil pass0 (pa_cons (pe_call (ok_pairs T) (hr.mono (by first | decide | omega)) g_deed_law_pairs T.m_pairs T.k_pairs T.b_pairs .nil pass0 (pa_cons (kv (i := 5) v_deed_law_given) pa_nil)) (pa_cons (pe_call (ok_pairs T) (hr.mono (by first | decide | omega)) g_deed_law_pairs T.m_pairs T.k_pairs T.b_pairs .nil pass0 (pa_cons (kv (i := 4) v_deed_law_pairs_here) pa_nil)) pa_nil))))
      (pss_cons (ps_asg pe_str (pg_sub (kv (i := 5) v_deed_law_given) pe_str (set_dict (hu_of hr))))
      (pss_one (ps_ret (pe_and (kv (i := 7) v_deed_law_kept) (pe_one (pe_cmpR op_isN (kv (i := 6) v_deed_law_told) pe_non (nomark _)))))))))))) pss_nil)
      (pss_cons (ps_if (pt_cmpR op_eq (kv (i := 3) v_deed_law_pick) pe_int (nomark _)) (pss_cons (ps_expr (pe_call (ok_check T) (hr.mono (by first | decide | omega)) g_deed_law_check T.m_check T.k_check T.b_check .nil pass0 (pa_cons (kv (i := 2) v_deed_law_own) (pa_cons pe_bl pa_nil))))
      (pss_one (ps_ret (pe_cmpR op_isN (pe_ifExp (pt_cmpR op_eq (pe_call (ok_draw T) (hr.mono (by first | decide | omega)) g_deed_law_draw T.m_draw T.k_draw T.b_draw .nil pass0 (pa_cons (kv (i := 0) v_deed_law_bag_here) (pa_cons pe_int pa_nil))) pe_int (nomark _)) (pe_meth0 (kv (i := 1) v_deed_law_disk) T.cl_Disk T.me_Disk_check (ok_Disk_check T) (hr.mono (by first | decide | omega)) bsm_Disk_check dvm_Disk_check pass0) (pe_methKn T.cl_Disk T.me_Disk_check (ok_Disk_check T) (hr.mono (by first | decide | omega)) kbm_Disk_check pass0 (kv (i := 1) v_deed_law_disk) (pk_cons pe_bl pk_nil))) pe_non (nomark _))))) pss_nil)
      (pss_cons (ps_if (pt_cmpR op_eq (kv (i := 3) v_deed_law_pick) pe_int (nomark _)) (pss_cons (ps_expr (pe_call (ok_check T) (hr.mono (by first | decide | omega)) g_deed_law_check T.m_check T.k_check T.b_check .nil pass0 (pa_cons (kv (i := 2) v_deed_law_own) (pa_cons pe_bl pa_nil))))
      (pss_one (ps_ret (pe_cmpR op_isN (pe_methKn T.cl_Disk T.me_Disk_check (ok_Disk_check T) (hr.mono (by first | decide | omega)) kbm_Disk_check pass0 (kv (i := 1) v_deed_law_disk) (pk_cons pe_bl pk_nil)) pe_non (nomark _))))) pss_nil)
      (pss_cons (ps_expr (pe_call (ok_sync T) (hr.mono (by first | decide | omega)) g_deed_law_sync T.m_sync T.k_sync T.b_sync .nil pass0 (pa_cons (kv (i := 2) v_deed_law_own) pa_nil)))
      (pss_one (ps_ret (pe_cmpR op_isN (kpe_methP0 (disp1 T.cl_Disk T.me_Disk_sync (ok_Disk_sync T) T.b_Disk_sync) (hr.mono (by first | decide | omega)) pass0 (kv (i := 1) v_deed_law_disk)) pe_non (nomark _))))))))), ?_⟩
    have hck : CkOk d d.gen := hI.ck (by omega) (by omega)
    have hok : Ok d 30000 := hI.ok (by omega)
    walk_at "ss"
    refine k_draw hb (by decide) (by decide) fun pick β1 e0 e1 hb1 => ?_
    walk_at "ss"
    refine k_d (fun hp8 => ?_) (fun hp8 => ?_)
    · walk_at "ss"
      refine k_dget ?_
      walk_at "ss"
      refine ⟨g.o, _, rfl, DGet.kl (hp0.oU hb1).ho (i := 0) (by decide +kernel) rfl, ?_⟩
      have hsh : G g.sh = some (.dK (kT d.tab)) := by
        obtain ⟨_, _, _, hB⟩ := hp0.o.b
        exact hB.hs
      refine ⟨G0, G, b, g.sh, β1, d.tab, rfl, rfl, hb1, hsh, hI.tab, fun D cs G1 β2 s1 hb2 nD hD hcs => ?_⟩
      have hp1 := hp0.up s1
      have hcl := hcs.cs.len
      walk_at "ss"
      refine ⟨D, kC cs, rfl, up_get hb2.nb hD, by unfold kC; rw [List.map_map]; show (cs.map ((Sum.inr : Str → Key) ∘ Prod.fst)).Nodup; rw [← List.map_map (f := Prod.fst) (g := Sum.inr)]; exact List.Pairwise.map _ (fun a b ne q => ne (Sum.inr.inj q)) hcs.nd, by unfold kC; rw [List.length_map]; omega, fun C H1 nC s2 hC => ?_⟩
      obtain ⟨nC1, nCb⟩ := up_none nC
      obtain ⟨G2, nb2, s12, rfl⟩ := split_up hb2.nb s2
      have hb3 := hb2.up s12 nb2
      have hC2 := off_bag (hb3.noD _) hC
      have hD2 := s12 _ _ hD
      have hp2 := hp1.up s12
      have nDo := hp0.out nD
      have nCo := hp1.out nC1
      have nCG : G C = none := s_none s1 nC1
      have nDC : D ≠ C := ne_of_none hD nC1
      refine k_gName ?_
      dsimp only
      refine k_seq ?_
      refine k_asg ?_
      refine k_via (fun v H' => v = .non ∧ ∃ (f' : DF) (G3 : Hp), H' = upd G3 b β2 ∧ Bag K G0 G3 b β2 ∧ Mv G2 f g G3 f' g ∧ Pr T G0 G3 f' g (d.write (d.gen + 1) cs) d) (fun Q0 hq => ?_) ?_
      · obtain ⟨dx, fs, hins, hno⟩ := hp2.d.at_.ins
        have hinsu := up_get (β := β2) hb3.nb hins
        have core : ∀ E, spWrite T [.ref f.a, .ref C] (upd G2 b β2) Q0 E := fun E => ⟨f, d, d.gen, C, cs, rfl, hp2.dU hb3, hI.fl, hC, fun m => nCo (List.mem_append_left _ m), fun h => hI.wr hcs h (by omega) (by omega), fun f' H' e fr nw h => by
          obtain ⟨G3, rfl, hb4, m, hp3⟩ := stepD hb3 hp2 e fr nw h
          exact hq _ _ ⟨rfl, f', G3, rfl, hb4, m, hp3⟩⟩
        walk_at "ss"
        by_cases hp6 : pick < 6
        · rw [if_pos (decide_eq_true hp6)]
          refine k_meth ?_
          walk_at "ss"
          refine ⟨f.a, _, _, _, _, rfl, hinsu, ⟨rfl, rfl⟩, hno _ (by decide +kernel), ?_⟩
          walk_at "ss"
          exact core _
        · rw [if_neg (by rw [decide_eq_false hp6]; decide)]
          refine k_methK ?_
          walk_at "ss"
          refine ⟨f.a, _, _, rfl, hinsu, hno _ (by decide +kernel), ?_⟩
          walk_at "ss"
          exact ⟨rfl, core _⟩
      · rintro _ _ ⟨rfl, f', G3, rfl, hb4, m3, hp3⟩
        have hD3 := m3.get hD2 fun q => nDo q
        have hC3 := m3.get hC2 fun q => nCo q
        walk_at "ss"
        refine ⟨g, d, D, cs, rfl, hp3.oU hb4, up_get hb4.nb hD3, fun m => nDo (List.mem_append_right _ m), hcs, by have := hI.ul; omega, by have := hI.tab.len; omega, fun h => hI.wr hcs h (by omega) (by omega), fun g' H' n' ev fr nw h => ?_⟩
        obtain ⟨G4, rfl, hb5, m4, hp4⟩ := stepOw hb4 hp3 ev fr nw h
        have m24 := m3.trans (hp3.lv rfl) m4
        have hD4 := m24.get hD2 fun q => nDo q
        have hC4 := m24.get hC2 fun q => nCo q
        walk_at "ss"
        refine ⟨C, cs, rfl, up_get hb5.nb hC4, hcs.nd, by omega, fun L1 p1 H5 nL1 s5 hs5 hP5 => ?_⟩
        obtain ⟨G5, nb5, s45, rfl⟩ := split_up hb5.nb s5
        have hb6 := hb5.up s45 nb5
        walk_at "ss"
        refine ⟨D, cs, rfl, up_get hb6.nb (s45 _ _ hD4), hcs.nd, by omega, fun L2' p2 H6 nL2 s6 hs6 hP6 => ?_⟩
        walk_at "ss"
        have hP56 := hP5.up s6
        have hpl : p1.length ≤ 30000 := by
          have := hs5.len
          rw [List.length_map] at this
          omega
        refine k_like (Eqd.succ (eqd_map (f := fun x : Str × Option Str => [V.str x.1, vO x.2]) hP56.1 hP6.1 hP56.2 hP6.2 (hs5.uniq hs6) hpl (fun x => ⟨(by decide : 2 ≤ 30000), fun v hv => by
          simp only [List.mem_cons, List.not_mem_nil, or_false] at hv
          rcases hv with rfl | rfl
          · exact .str _
          · exact sc_vO _⟩))) fun H7 s7 => ?_
        obtain ⟨G7, nb7, s57, rfl⟩ := split_up hb6.nb (s6.trans s7)
        have hb7 := hb6.up s57 nb7
        have s47 := s45.trans s57
        have m27 := m24.same s47
        have hC7 := m27.get hC2 fun q => nCo q
        have hp7 := hp4.up s47
        walk_at "ss"
        refine k_setD (DPut.k (k := .inr "late") (up_get hb7.nb hC7) (small_lt (by unfold kC; rw [List.length_map]; omega))) ?_
        rw [upd_swap nCb]
        walk_at "ss"
        refine isn_t (Q := Q) ?_
        refine k f' g' _ (upd G7 C (.dK (putK (kC cs) (.inr "late") (.str "1")))) β2 (hb7.up0 (same_put hb7.sm (g_none hb.sm nCG)) (by rw [upd_ne (Ne.symm nCb)]; exact nb7)) ?_ (hp7.put (m27.out hC2 fun q => nCo q) fun xs q => by rw [hC7] at q; cases q) ?_
        · exact ((Mv.of (s1.trans s12)).trans (hp2.lv rfl) m27).put nCG
        · exact hI.write hcs (by omega)
    · walk_at "ss"
      by_cases hp : pick = 8
      · rw [if_pos (decide_eq_true hp)]
        walk_at "ss"
        refine ⟨g, d, true, rfl, hp0.oU hb1, hck, fun g' H' ev fr nw h => ?_⟩
        obtain ⟨G2, rfl, hb2, m2, hp2⟩ := stepOw hb1 hp0 ev fr nw h
        obtain ⟨dx, fs, hins, hno⟩ := hp2.d.at_.ins
        have core : ∀ (β2 : HO) (Q0 : VK) E, Bag K G0 G2 b β2 → (∀ (f' : DF) (G3 : Hp), Bag K G0 G3 b β2 → Mv G f g G3 f' g' → Pr T G0 G3 f' g' (d.check (d.gen + 1) true) (d.check (d.gen + 1) true) → Q0 .non (upd G3 b β2)) → spCheck T [.ref f.a, .bl true] (upd G2 b β2) Q0 E := fun β2 Q0 E hb3 hq => ⟨f, d, d.gen, true, rfl, hp2.dU hb3, hck, fun f' H' e fr nw h => by
          obtain ⟨G3, rfl, hb4, m3, hp3⟩ := stepD hb3 hp2 e fr nw h
          exact hq f' G3 hb4 (m2.trans (hp2.lv ev) m3) hp3⟩
        walk_at "ss"
        refine k_draw hb2 (by decide) (by decide) fun q β2 q0 q1 hb3 => ?_
        have hinsu := up_get (β := β2) hb3.nb hins
        walk_at "ss"
        have fin : ∀ (f' : DF) (G3 : Hp), Bag K G0 G3 b β2 → Mv G f g G3 f' g' → Pr T G0 G3 f' g' (d.check (d.gen + 1) true) (d.check (d.gen + 1) true) → Q (.bl true) (upd G3 b β2) := fun f' G3 h1 h2 h3 => k f' g' _ G3 β2 h1 h2 h3 ((hI.check (by omega) true).upn (Nat.le_refl _) (by omega))
        by_cases hq : q = 0
        · rw [if_pos (decide_eq_true hq)]
          refine k_tmeth ?_
          walk_at "ss"
          refine ⟨f.a, _, _, rfl, hinsu, hno _ (by decide +kernel), ?_⟩
          walk_at "ss"
          exact core β2 _ _ hb3 fun f' G3 h1 h2 h3 => isn_t (Q := Q) (fin f' G3 h1 h2 h3)
        · rw [if_neg (by rw [decide_eq_false hq]; decide)]
          refine k_methK ?_
          walk_at "ss"
          refine ⟨f.a, _, _, rfl, hinsu, hno _ (by decide +kernel), ?_⟩
          walk_at "ss"
          exact ⟨rfl, core β2 _ _ hb3 fun f' G3 h1 h2 h3 => isn_t (Q := Q) (fin f' G3 h1 h2 h3)⟩
      · rw [if_neg (by rw [decide_eq_false hp]; decide)]
        walk_at "ss"
        by_cases hp9 : pick = 9
        · rw [if_pos (decide_eq_true hp9)]
          walk_at "ss"
          refine ⟨g, d, false, rfl, hp0.oU hb1, hck, fun g' H' ev fr nw h => ?_⟩
          obtain ⟨G2, rfl, hb2, m2, hp2⟩ := stepOw hb1 hp0 ev fr nw h
          obtain ⟨dx, fs, hins, hno⟩ := hp2.d.at_.ins
          have hinsu := up_get (β := β1) hb2.nb hins
          walk_at "ss"
          refine k_methK ?_
          walk_at "ss"
          refine ⟨f.a, _, _, rfl, hinsu, hno _ (by decide +kernel), ?_⟩
          walk_at "ss"
          refine ⟨rfl, f, d, d.gen, false, rfl, hp2.dU hb2, hck, fun f' H' e fr nw h => ?_⟩
          obtain ⟨G3, rfl, hb4, m3, hp3⟩ := stepD hb2 hp2 e fr nw h
          walk_at "ss"
          exact isn_t (Q := Q) (k f' g' _ G3 β1 hb4 (m2.trans (hp2.lv ev) m3) hp3 ((hI.check (by omega) false).upn (Nat.le_refl _) (by omega)))
        · rw [if_neg (by rw [decide_eq_false hp9]; decide)]
          walk_at "ss"
          refine ⟨g, d, rfl, hp0.oU hb1, hok, fun g' H' ev fr nw h => ?_⟩
          obtain ⟨G2, rfl, hb2, m2, hp2⟩ := stepOw hb1 hp0 ev fr nw h
          obtain ⟨dx, fs, hins, hno⟩ := hp2.d.at_.ins
          have hinsu := up_get (β := β1) hb2.nb hins
          walk_at "ss"
          refine k_meth ?_
          walk_at "ss"
          refine ⟨f.a, _, _, _, _, rfl, hinsu, ⟨rfl, rfl⟩, hno _ (by decide +kernel), ?_⟩
          walk_at "ss"
          refine ⟨f, d, rfl, hp2.dU hb2, hI.fl, hok, fun f' H' e fr nw h => ?_⟩
          obtain ⟨G3, rfl, hb4, m3, hp3⟩ := stepD hb2 hp2 e fr nw h
          walk_at "ss"
          exact isn_t (Q := Q) (k f' g' _ G3 β1 hb4 (m2.trans (hp2.lv ev) m3) hp3 ((hI.sync 0).upn (Nat.le_succ _) (Nat.zero_le _)))
end

section
open TL
variable {w : World} {K : PySem.W.Frag} {mg : Str → Option Value} {base : Heap}
/-! ### another own disk; what is told is new -/
theorem kN_nd {e : CT} (h : (e.map (·.1)).Nodup) : ((kN e).map (·.1)).Nodup := by
  unfold kN kG
  rw [List.map_map]
  show (e.map ((fun n : Nat => (Sum.inl (n : Int) : Key)) ∘ Prod.fst)).Nodup
  rw [← List.map_map (f := Prod.fst) (g := fun n : Nat => (Sum.inl (n : Int) : Key))]
  exact List.Pairwise.map _ (fun a b ne q => ne (inlI a b q)) h
def spTwin : Sp := fun vs H Q _ => ∃ (g : OF) (s : DS), vs = [.ref g.o] ∧ OwnAt H g s ∧ Sml s ∧ ∀ (g2 : OF) (H' : Hp), g2.op = g.op → (∀ x ∈ g2.v, H x = none) → Same H H' → OwnAt H' g2 s → Q (.ref g2.o) H'
theorem ok_twin (T : Tx K mg) : FnOk P w K mg base CX0 2 T.a_twin T.fd_twin P_twin spTwin := by
  refine T.F_twin.ok sc_twin (fun vs H Q E h => ?_) (fun cdv A outer s H vs Q E hr h => ?_)
  · obtain ⟨g, s, rfl, _⟩ := h
    rfl
  · obtain ⟨g, d, rfl, ⟨ho, e0, e1, l, hB⟩, hS, k⟩ := h
    have nd := sc_twin.nd
    refine ⟨_, (pss_cons (ks_setL (i := 1) nd l_twin_law_some (pe_call (ok_copy T) (hr.mono (by first | decide | omega)) g_twin_law_copy T.m_copy T.k_copy T.b_copy .nil pass0 (pa_cons (kv (i := 0) v_twin_law_own) pa_nil)))
      (pss_cons (ps_asg (pe_call (ok_copy T) (hr.mono (by first | decide | omega)) g_twin_law_copy T.m_copy T.k_copy T.b_copy .nil pass0 (pa_cons (pe_dget (hu_of hr) (kv (i := 0) v_twin_law_own) pe_str (fun _ _ => rfl)) pa_nil)) (pg_sub (kv (i := 1) v_twin_law_some) pe_str (set_dict (hu_of hr))))
      (pss_cons (ps_asg (pe_lc (own := [("_law_cells", 2)]) rfl nd (kpi_list K (pe_dget (hu_of hr) (kv (i := 0) v_twin_law_own) pe_str (fun _ _ => rfl))) ok_cs_twin_1 (fun _ _ _ _ _ => (kgL (i := 2) nd l_twin_1_law_cells)) (fun _ _ _ _ _ => pts_nil) (fun _ _ _ _ _ => (pe_call (ok_copy T) (hr.mono (by first | decide | omega)) g_twin_1_law_copy T.m_copy T.k_copy T.b_copy .nil pass0 (pa_cons (kv (i := 2) v_twin_1_law_cells) pa_nil)))) (pg_sub (kv (i := 1) v_twin_law_some) pe_str (set_dict (hu_of hr))))
      (pss_one (ps_ret (kv (i := 1) v_twin_law_some)))))), ?_⟩
    have htl := hS.tab.len
    walk_at "ss"
    refine ⟨g.o, KLs nO (vOw g d), rfl, ho, KLs_nd rfl nO_nd, by show 10 ≤ 5000; decide, fun D H1 nD s1 hD => ?_⟩
    have ho1 := s1 _ _ ho
    have hB1 := hB.up s1
    walk_at "ss"
    refine k_dget ?_
    walk_at "ss"
    refine ⟨g.o, _, rfl, DGet.kl ho1 (i := 0) (by decide +kernel) rfl, ?_⟩
    refine ⟨g.sh, kT d.tab, rfl, hB1.hs, kT_nd hS.tab, by unfold kT; rw [List.length_map]; omega, fun SH H2 nSH s2 hSH => ?_⟩
    have hD2 := s2 _ _ hD
    have s02 := s1.trans s2
    have nSH0 := s_none s1 nSH
    have nDSH : D ≠ SH := ne_of_none hD nSH
    walk_at "ss"
    refine k_klo hD2 (i := 0) (by decide +kernel) nO_nd (by show 0 < 10; decide) (by decide) fun H3 hD3 e3 => ?_
    have s03 : Same H H3 := fun x o h => (e3 x (ne_of_none h nD)).trans (s02 _ _ h)
    have hSH3 := (e3 SH (Ne.symm nDSH)).trans hSH
    walk_at "ss"
    refine k_dget ?_
    walk_at "ss"
    refine ⟨g.o, _, rfl, DGet.kl (s03 _ _ ho) (i := 7) (by decide +kernel) rfl, ?_⟩
    refine k_iL (SqL.of (s03 _ _ hB.hh)) ?_
    intro L nL
    have nL0 := s_none s03 nL
    have nDL : D ≠ L := ne_of_none hD3 nL
    have nSHL : SH ≠ L := ne_of_none hSH3 nL
    obtain ⟨ee, eee⟩ : ∃ ee : Nat → CT, ee = fun j => if j = 0 then e0 else e1 := ⟨_, rfl⟩
    refine k_lcList [V.ref g.k0, V.ref g.k1] (fun i H' => Same H3 H' ∧ ∃ ps : List Addr, H' L = some (.lst (ps.map V.ref)) ∧ ps.length = i ∧ ps.Nodup ∧ ∀ j p, ps[j]? = some p → H3 p = none ∧ p ≠ L ∧ H' p = some (.dK (kN (ee j)))) ⟨same_new nL, [], upd_same, rfl, List.nodup_nil, fun j p h => (by cases h)⟩ (fun i H' _ h => SqL.of (h.1 _ _ (s03 _ _ hB.hh))) ?_ ?_
    · rintro i x H' hx ⟨sm, ps, hL, hpl, hpn, hps⟩
      have hil := (List.getElem?_eq_some_iff.mp hx).1
      simp only [List.length_cons, List.length_nil] at hil
      obtain ⟨kk, e, rfl, hk, hen, hel, ecc⟩ : ∃ kk e, x = .ref kk ∧ H' kk = some (.dK (kN e)) ∧ (e.map (·.1)).Nodup ∧ (kN e).length ≤ 5000 ∧ ee i = e := by
        match i, hx with
        | 0, hx =>
          cases hx
          exact ⟨_, _, rfl, sm _ _ (s03 _ _ hB.h0), hB.q0.nd, Nat.le_trans (kN_len hB.q0) hS.c0, by rw [eee]; rfl⟩
        | 1, hx =>
          cases hx
          exact ⟨_, _, rfl, sm _ _ (s03 _ _ hB.h1), hB.q1.nd, Nat.le_trans (kN_len hB.q1) hS.c1, by rw [eee]; rfl⟩
        | i + 2, hx => cases hx
      walk_at "ss"
      refine ⟨rfl, ?_⟩
      walk_at "ss"
      refine ⟨kk, kN e, rfl, hk, kN_nd hen, hel, fun C H5 nC s5 hC => ?_⟩
      have hL5 := s5 _ _ hL
      have nCL : C ≠ L := fun e => by rw [e, hL] at nC; cases nC
      refine ⟨_, hL5, small_lt (by rw [List.length_map]; omega), same_put (sm.trans s5) nL, ps ++ [C], by rw [upd_same, List.map_append]; rfl, by rw [List.length_append, hpl]; rfl, ?_, fun j p hj => ?_⟩
      · rw [List.nodup_append]
        refine ⟨hpn, List.pairwise_singleton _ _, fun x hx y hy e => ?_⟩
        rw [List.mem_singleton.mp hy] at e
        obtain ⟨j, hj⟩ := List.mem_iff_getElem?.mp hx
        have := (hps j x hj).2.2
        rw [e, nC] at this
        cases this
      · by_cases hjl : j < ps.length
        · rw [List.getElem?_append_left hjl] at hj
          obtain ⟨a1, a2, a3⟩ := hps j p hj
          exact ⟨a1, a2, (upd_ne a2).trans (s5 _ _ a3)⟩
        · rw [List.getElem?_append_right (by omega)] at hj
          have : j - ps.length = 0 := by
            by_cases e : j - ps.length = 0
            · exact e
            · rw [List.getElem?_eq_none (by simp only [List.length_singleton]; omega)] at hj
              cases hj
          rw [this] at hj
          cases hj
          have ej : j = i := by omega
          rw [ej, ecc]
          exact ⟨s_none sm nC, nCL, (upd_ne nCL).trans hC⟩
    · rintro H4 ⟨sm4, ps, hL4, hpl, hpn, hps⟩
      match ps, hpl with
      | [p, q], _ =>
        obtain ⟨np, npL, hp⟩ := hps 0 p rfl
        obtain ⟨nq, nqL, hq⟩ := hps 1 q rfl
        rw [eee] at hp hq
        have npq : p ≠ q := by simpa using hpn
        have hD4 := sm4 _ _ hD3
        have nDp : D ≠ p := ne_of_none hD3 np
        have nDq : D ≠ q := ne_of_none hD3 nq
        have nSp : SH ≠ p := ne_of_none hSH3 np
        have nSq : SH ≠ q := ne_of_none hSH3 nq
        have nDop : D ≠ g.op := Ne.symm (ne_of_none hB.hu.at_ nD)
        have nSop : SH ≠ g.op := Ne.symm (ne_of_none hB.hu.at_ nSH0)
        have nLop : L ≠ g.op := Ne.symm (ne_of_none hB.hu.at_ nL0)
        have npop : p ≠ g.op := Ne.symm (ne_of_none hB.hu.at_ (s_none s03 np))
        have nqop : q ≠ g.op := Ne.symm (ne_of_none hB.hu.at_ (s_none s03 nq))
        walk_at "ss"
        refine k_klo hD4 (i := 7) (by decide +kernel) nO_nd (by show 7 < 10; decide) (by decide) fun H5 hD5 e5 => ?_
        have s05 : Same H H5 := fun x o h => (e5 x (ne_of_none h nD)).trans (sm4 _ _ (s03 _ _ h))
        walk_at "ss"
        refine k ⟨D, SH, L, p, q, g.op⟩ H5 rfl (fun x hx => ?_) s05 ⟨hD5, e0, e1, l, OF.nd_of ⟨nDSH, nDL, nDp, nDq, nDop, nSHL, nSp, nSq, nSop, Ne.symm npL, Ne.symm nqL, nLop, npq, npop, nqop⟩, (e5 SH (Ne.symm nDSH)).trans (sm4 _ _ hSH3), (e5 L (Ne.symm nDL)).trans hL4, (e5 p (Ne.symm nDp)).trans hp, (e5 q (Ne.symm nDq)).trans hq, hB.q0, hB.q1, hB.hu.up s05, hB.eu⟩
        unfold OF.v at hx
        simp only [List.mem_cons, List.not_mem_nil, or_false] at hx
        rcases hx with rfl | rfl | rfl | rfl | rfl
        · exact nD
        · exact nSH0
        · exact nL0
        · exact s_none s03 np
        · exact s_none s03 nq
def spSpoilt (T : Tx K mg) : Sp := fun vs H Q _ => ∃ (f : DF) (g : OF) (s : DS), vs = [.ref f.a, .ref g.o] ∧ DiskAt T H f s ∧ OwnAt H g s ∧ Sml s ∧ ∀ H', Same H H' → Q (.bl true) H'
theorem ok_spoilt_so (T : Tx K mg) : FnOk P w K mg base CX0 7 T.a_spoilt_so T.fd_spoilt_so P_spoilt_so (spSpoilt T) := by
  refine T.F_spoilt_so.ok sc_spoilt_so (fun vs H Q E h => ?_) (fun cdv A outer s H vs Q E hr h => ?_)
  · obtain ⟨f, g, s, rfl, _⟩ := h
    rfl
  · obtain ⟨f, g, d, rfl, hD, hO, hS, k⟩ := h
    have nd := sc_spoilt_so.nd
    refine ⟨_, (pss_cons (ks_setL (i := 2) nd l_spoilt_so_law_some (kpe_methP0 (disp1 T.cl_Disk T.me_Disk_areas (ok_Disk_areas T) T.b_Disk_areas) (hr.mono (by first | decide | omega)) pass0 (kv (i := 0) v_spoilt_so_law_disk)))
      (pss_cons (ps_expr (pe_bm PySem.F.plainAttrs_list PySem.F.slot_list_append PySem.F.type_list_append mt_append (pe_ix (kix K) (kv (i := 2) v_spoilt_so_law_some) pe_int (fun _ _ => rfl)) (pa_cons pe_str pa_nil)))
      (pss_cons (ps_expr (pe_bm PySem.F.plainAttrs_list PySem.F.slot_list_append PySem.F.type_list_append mt_append (kv (i := 2) v_spoilt_so_law_some) (pa_cons (pe_lst pa_nil) pa_nil)))
      (pss_cons (ks_setL (i := 3) nd l_spoilt_so_law_more (kpe_methP0 (disp1 T.cl_Disk T.me_Disk_unsynced (ok_Disk_unsynced T) T.b_Disk_unsynced) (hr.mono (by first | decide | omega)) pass0 (kv (i := 0) v_spoilt_so_law_disk)))
      (pss_cons (ps_expr (pe_bm PySem.F.plainAttrs_list PySem.F.slot_list_append PySem.F.type_list_append mt_append (kv (i := 3) v_spoilt_so_law_more) (pa_cons (pe_tup (pa_cons pe_int (pa_cons pe_int (pa_cons pe_str pa_nil)))) pa_nil)))
      (pss_cons (ks_setL (i := 4) nd l_spoilt_so_law_shelf_here (kpe_methP0 (disp1 T.cl_Disk T.me_Disk_table (ok_Disk_table T) T.b_Disk_table) (hr.mono (by first | decide | omega)) pass0 (kv (i := 0) v_spoilt_so_law_disk)))
      (pss_cons (ps_asg pe_str (pg_sub (kv (i := 4) v_spoilt_so_law_shelf_here) pe_str (set_dict (hu_of hr))))
      (pss_one (ps_ret (pe_call (ok_disk_so T) (hr.mono (by first | decide | omega)) g_spoilt_so_law_disk_so T.m_disk_so T.k_disk_so T.b_disk_so .nil pass0 (pa_cons (kv (i := 0) v_spoilt_so_law_disk) (pa_cons (kv (i := 1) v_spoilt_so_law_own) pa_nil)))))))))))), ?_⟩
    obtain ⟨dx, fs, hins, hno⟩ := hD.at_.ins
    walk_at "ss"
    refine k_meth ?_
    walk_at "ss"
    refine ⟨f.a, _, _, _, _, rfl, hins, ⟨rfl, rfl⟩, hno _ (by decide +kernel), ?_⟩
    walk_at "ss"
    refine ⟨f, d, rfl, hD, fun L p q H1 nL np nq nLp nLq npq s1 hL hp hq => ?_⟩
    walk_at "ss"
    refine k_bm ?_
    walk_at "ss"
    refine ⟨.inl ⟨rfl, _, SqL.of hp⟩, ?_⟩
    walk_at "ss"
    refine k_app hp (by rw [List.length_map]; have := hS.c0; omega) ?_
    generalize eH2 : upd H1 p _ = H2
    have s2 : Same H H2 := eH2 ▸ same_put s1 np
    have hL2 : H2 L = some (.lst [.ref p, .ref q]) := by rw [← eH2, upd_ne nLp]; exact hL
    clear eH2
    walk_at "ss"
    refine k_bm ?_
    walk_at "ss"
    refine ⟨.inl ⟨rfl, _, SqL.of hL2⟩, ?_⟩
    walk_at "ss"
    intro E0 nE0
    have s3 := same_new (o := .lst []) nE0
    have hL3 := s3 _ _ hL2
    have s03 := s2.trans s3
    generalize upd H2 E0 (.lst []) = H3 at s3 hL3 s03 ⊢
    walk_at "ss"
    refine k_app hL3 (show 2 < 100000 by decide) ?_
    generalize eH4 : upd H3 L _ = H4
    have s4 : Same H H4 := eH4 ▸ same_put s03 nL
    clear eH4
    walk_at "ss"
    refine k_meth ?_
    walk_at "ss"
    refine ⟨f.a, _, _, _, _, rfl, s4 _ _ hins, ⟨rfl, rfl⟩, hno _ (by decide +kernel), ?_⟩
    walk_at "ss"
    refine ⟨f, d, rfl, hD.up s4, fun LU l H5 nLU s5 elu hU hw => ?_⟩
    have s05 := s4.trans s5
    have nLU0 := s_none s4 nLU
    have hul : l.length ≤ 30000 := by
      have e : l.length = d.uns.length := by rw [← elu, List.length_map]
      rw [e]
      exact hS.u
    walk_at "ss"
    refine k_bm ?_
    walk_at "ss"
    refine ⟨.inl ⟨rfl, _, SqL.of hU.at_⟩, ?_⟩
    walk_at "ss"
    intro tp ntp
    have s6 := same_new (o := .tup [V.int 0, V.int 0, V.str ("" : Str)]) ntp
    have hU6 := s6 _ _ hU.at_
    have s06 := s05.trans s6
    walk_at "ss"
    refine k_app hU6 (by rw [List.length_map]; omega) ?_
    generalize eH7 : upd _ LU _ = H7
    have s7 : Same H H7 := eH7 ▸ same_put s06 nLU0
    clear eH7
    walk_at "ss"
    refine k_meth ?_
    walk_at "ss"
    refine ⟨f.a, _, _, _, _, rfl, s7 _ _ hins, ⟨rfl, rfl⟩, hno _ (by decide +kernel), ?_⟩
    walk_at "ss"
    refine ⟨f, d, rfl, hD.up s7, hS.tab, fun D t2 H8 nD s8 hs2 hD8 => ?_⟩
    have hl2 := hs2.len
    have hl20 := hS.tab.len
    have s08 := s7.trans s8
    walk_at "ss"
    refine k_setD (DPut.k (k := .inr "late") hD8 (small_lt (by unfold kT; rw [List.length_map]; omega))) ?_
    generalize eH9 : upd H8 D _ = H9
    have s9 : Same H H9 := eH9 ▸ same_put s08 (s_none s7 nD)
    clear eH9
    walk_at "ss"
    exact ⟨f, g, d, rfl, hD.up s9, hO.up s9, hS, fun HA sA => k HA (s9.trans sA)⟩
end

section
variable {w : World} {K : PySem.W.Frag} {mg : Str → Option Value} {base : Heap}
/-! ### drawn values -/
theorem k_disp1 {tk tv : TE} {σ : L2.St} {H : Hp} {Q : VK} (h : ∀ p, H p = none → tk σ (upd H p (.dK [])) fun x H1 => tv σ H1 fun y H2 => H2 p = some (.dK []) ∧ ∃ kvs : List (Key × V), [(x, y)] = kvs.map (fun kv => (kV kv.1, kv.2)) ∧ kvs.length ≤ 15 ∧ Q (.ref p) (upd H2 p (.dK (mergeK [] kvs)))) : tDisp [(tk, tv)] σ H Q := h
def It (G G' : Hp) (x : V) : Prop := ScB x ∨ ∃ a, x = .ref a ∧ G' a = some (.tup [.int 1, .int 2]) ∧ G a = none
theorem It.gd {F : Addr → Prop} {G G' : Hp} {x : V} (h : It G G' x) (hFG : ∀ a, F a → G a = none → False) : Gd F G' 1 x := by
  rcases h with h | ⟨a, rfl, h, n⟩
  · exact .inl h
  · refine .inr (.inl ⟨a, _, rfl, fun z => hFG a z n, .inr h, by decide, fun x hx => ?_⟩)
    simp only [List.mem_cons, List.not_mem_nil, or_false] at hx
    rcases hx with rfl | rfl <;> exact .int _
/-- data of depth 2 at most -/
def Ov (F : Addr → Prop) (G : Hp) (v : V) : Prop := Gd F G 2 v
theorem ov {F : Addr → Prop} {G : Hp} {v : V} (h : Gd F G 2 v) : Ov F G v := h
def spOdd (K : PySem.W.Frag) : Sp := fun vs H Q _ => ∃ (F : Addr → Prop) (G0 G : Hp) (b : Addr) (β : HO), vs = [.ref b] ∧ H = upd G b β ∧ Bag K G0 G b β ∧ (∀ a, F a → G a = none → False) ∧ ∀ (v : V) (G' : Hp) (β' : HO), Same G G' → Bag K G0 G' b β' → Ov F G' v → Q v (upd G' b β')
theorem ok_odd (T : Tx K mg) : FnOk P w K mg base CX0 3 T.a_odd T.fd_odd P_odd (spOdd K) := by
  refine T.F_odd.ok sc_odd (fun vs H Q E h => ?_) (fun cdv A outer s H vs Q E hr h => ?_)
  · obtain ⟨F, G0, G, b, β, rfl, _⟩ := h
    rfl
  · obtain ⟨F, G0, G, b, β, rfl, rfl, hb, hFG, k⟩ := h
    have nd := sc_odd.nd
    refine ⟨_, (pss_cons (ks_setL (i := 1) nd l_odd_law_pick (pe_call (ok_draw T) (hr.mono (by first | decide | omega)) g_odd_law_draw T.m_draw T.k_draw T.b_draw .nil pass0 (pa_cons (kv (i := 0) v_odd_law_bag_here) (pa_cons pe_int pa_nil))))
      (pss_cons (ps_if (pt_cmpR op_eq (kv (i := 1) v_odd_law_pick) pe_int (nomark _)) (pss_one (ps_ret (pe_call (ok_of T) (hr.mono (by first | decide | omega)) g_odd_law_of T.m_of T.k_of T.b_of .nil pass0 (pa_cons (kv (i := 0) v_odd_law_bag_here) (pa_cons (pe_lst (pa_cons pe_non (pa_cons pe_bl (pa_cons pe_bl pa_nil)))) pa_nil))))) pss_nil)
      (pss_cons (ps_if (pt_cmpR op_eq (kv (i := 1) v_odd_law_pick) pe_int (nomark _)) (pss_one (ps_ret (pe_call (ok_of T) (hr.mono (by first | decide | omega)) g_odd_law_of T.m_of T.k_of T.b_of .nil pass0 (pa_cons (kv (i := 0) v_odd_law_bag_here) (pa_cons (pe_lst (pa_cons pe_int (pa_cons pe_int (pa_cons (pe_un un_neg pe_int) (pa_cons pe_int (pa_cons pe_int (pa_cons pe_int (pa_cons pe_int (pa_cons (pe_un un_neg pe_int) pa_nil))))))))) pa_nil))))) pss_nil)
      (pss_cons (ps_if (pt_cmpR op_eq (kv (i := 1) v_odd_law_pick) pe_int (nomark _)) (pss_one (ps_ret (pe_call (ok_of T) (hr.mono (by first | decide | omega)) g_odd_law_of T.m_of T.k_of T.b_of .nil pass0 (pa_cons (kv (i := 0) v_odd_law_bag_here) (pa_cons (pe_lst (pa_cons pe_str (pa_cons pe_str (pa_cons pe_str (pa_cons pe_str (pa_cons pe_str (pa_cons pe_str (pa_cons pe_str (pa_cons pe_str pa_nil))))))))) pa_nil))))) pss_nil)
      (pss_cons (ps_if (pt_cmpR op_eq (kv (i := 1) v_odd_law_pick) pe_int (nomark _)) (pss_one (ps_ret (kcT b_tuple (by decide) (by decide) (kc_tuple K) g_odd_tuple T.n_tuple (pa_cons (pe_lc (own := [("_law_k", 2)]) rfl nd (pi_range1 g_odd_range T.n_range (pa_cons (pe_call (ok_draw T) (hr.mono (by first | decide | omega)) g_odd_law_draw T.m_draw T.k_draw T.b_draw .nil pass0 (pa_cons (kv (i := 0) v_odd_law_bag_here) (pa_cons pe_int pa_nil))) pa_nil)) ok_cs_odd_2 (fun _ _ _ _ _ => (kgL (i := 2) nd l_odd_2_law_k)) (fun _ _ _ _ _ => pts_nil) (fun _ _ _ _ _ => (pe_call (ok_of T) (hr.mono (by first | decide | omega)) g_odd_2_law_of T.m_of T.k_of T.b_of .nil pass0 (pa_cons (kv (i := 0) v_odd_2_law_bag_here) (pa_cons (pe_lst (pa_cons pe_int (pa_cons pe_str (pa_cons pe_non (pa_cons pe_bl (pa_cons pe_int pa_nil)))))) pa_nil))))) pa_nil)))) pss_nil)
      (pss_cons (ps_if (pt_cmpR op_eq (kv (i := 1) v_odd_law_pick) pe_int (nomark _)) (pss_one (ps_ret (pe_lc (own := [("_law_k", 2)]) rfl nd (pi_range1 g_odd_range T.n_range (pa_cons (pe_call (ok_draw T) (hr.mono (by first | decide | omega)) g_odd_law_draw T.m_draw T.k_draw T.b_draw .nil pass0 (pa_cons (kv (i := 0) v_odd_law_bag_here) (pa_cons pe_int pa_nil))) pa_nil)) ok_cs_odd_1 (fun _ _ _ _ _ => (kgL (i := 2) nd l_odd_1_law_k)) (fun _ _ _ _ _ => pts_nil) (fun _ _ _ _ _ => (pe_call (ok_of T) (hr.mono (by first | decide | omega)) g_odd_1_law_of T.m_of T.k_of T.b_of .nil pass0 (pa_cons (kv (i := 0) v_odd_1_law_bag_here) (pa_cons (pe_lst (pa_cons pe_int (pa_cons pe_str (pa_cons pe_non (pa_cons pe_bl (pa_cons (pe_tup (pa_cons pe_int (pa_cons pe_int pa_nil))) pa_nil)))))) pa_nil))))))) pss_nil)
      (pss_one (ps_ret (pe_call (ok_of T) (hr.mono (by first | decide | omega)) g_odd_law_of T.m_of T.k_of T.b_of .nil pass0 (pa_cons (kv (i := 0) v_odd_law_bag_here) (pa_cons (pe_lst (pa_cons pe_dnewK (pa_cons (pe_disp (pps_cons pe_str pe_int pps_nil) (by rfl) (by rfl) (fun z => by cases z) (by decide)) (pa_cons (pe_disp (pps_cons pe_int (pe_lst (pa_cons pe_int pa_nil)) pps_nil) (by rfl) (by rfl) (fun z => by cases z) (by decide)) (pa_cons (pe_disp (pps_cons pe_str (pe_disp (pps_cons pe_str (pe_tup (pa_cons pe_int (pa_cons pe_non pa_nil))) pps_nil) (by rfl) (by rfl) (fun z => by cases z) (by decide)) pps_nil) (by rfl) (by rfl) (fun z => by cases z) (by decide)) pa_nil))))) pa_nil))))))))))), ?_⟩
    walk_at "ss"
    refine k_draw hb (by decide) (by decide) fun pick β1 e0 e1 hb1 => ?_
    walk_at "ss"
    refine k_d (fun _ => ?_) (fun _ => ?_)
    · walk_at "ss"
      intro l nt_l
      rw [upd_swap (up_none nt_l).2]
      generalize eG_l : upd _ l _ = G1
      obtain ⟨nb1, sm1, hl, nt_l, nG_l⟩ := new_facts hb1.nb nt_l eG_l
      clear eG_l
      have hb2 := hb1.up sm1 nb1
      walk_at "ss"
      refine k_of hb2 (SqL.of hl) (by simp) (by simp) fun v β3 hv hb3 => ?_
      refine k v G1 β3 sm1 hb3 ?_
      simp only [List.mem_cons, List.not_mem_nil, or_false] at hv
      rcases hv with rfl | rfl | rfl
      · exact ov (Gd.sc .non 2)
      · exact ov (Gd.sc (.bl _) 2)
      · exact ov (Gd.sc (.bl _) 2)
    walk_at "ss"
    refine k_d (fun _ => ?_) (fun _ => ?_)
    · walk_at "ss"
      intro l nt_l
      rw [upd_swap (up_none nt_l).2]
      generalize eG_l : upd _ l _ = G1
      obtain ⟨nb1, sm1, hl, nt_l, nG_l⟩ := new_facts hb1.nb nt_l eG_l
      clear eG_l
      have hb2 := hb1.up sm1 nb1
      walk_at "ss"
      refine k_of hb2 (SqL.of hl) (by simp) (by simp) fun v β3 hv hb3 => ?_
      refine k v G1 β3 sm1 hb3 ?_
      simp only [List.mem_cons, List.not_mem_nil, or_false] at hv
      rcases hv with rfl | rfl | rfl | rfl | rfl | rfl | rfl | rfl <;> exact ov (Gd.sc (.int _) 2)
    walk_at "ss"
    refine k_d (fun _ => ?_) (fun _ => ?_)
    · walk_at "ss"
      intro l nt_l
      rw [upd_swap (up_none nt_l).2]
      generalize eG_l : upd _ l _ = G1
      obtain ⟨nb1, sm1, hl, nt_l, nG_l⟩ := new_facts hb1.nb nt_l eG_l
      clear eG_l
      have hb2 := hb1.up sm1 nb1
      walk_at "ss"
      refine k_of hb2 (SqL.of hl) (by simp) (by simp) fun v β3 hv hb3 => ?_
      refine k v G1 β3 sm1 hb3 ?_
      simp only [List.mem_cons, List.not_mem_nil, or_false] at hv
      rcases hv with rfl | rfl | rfl | rfl | rfl | rfl | rfl | rfl <;> exact ov (Gd.sc (.str _ (by decide +kernel)) 2)
    walk_at "ss"
    refine k_d (fun _ => ?_) (fun _ => ?_)
    · walk_at "ss"
      refine k_draw hb1 (by decide) (by decide) fun n β2 n0 n1 hb2 => ?_
      walk_at "ss"
      refine k_r1 ⟨by omega, by omega⟩ ?_
      intro D nD
      obtain ⟨nD1, nDb⟩ := up_none nD
      refine k_lcRange (n := n.toNat) (fun i H' => ∃ (xs : List V) (G' : Hp) (β' : HO), H' = upd G' b β' ∧ Bag K G0 G' b β' ∧ Same G G' ∧ G' D = some (.lst xs) ∧ xs.length = i ∧ ∀ x ∈ xs, ScB x)
        ⟨[], _, β2, upd_swap nDb, hb2.up (same_new nD1) (by rw [upd_ne (Ne.symm nDb)]; exact hb2.nb), same_new nD1, upd_same, rfl, fun x hx => (by cases hx)⟩ ?_ ?_
      · rintro i H' hi ⟨xs, G1, β3, rfl, hb3, sm1, hD, hlen, hall⟩
        refine k_gName ?_
        refine ⟨rfl, ?_⟩
        walk_at "ss"
        intro l nt_l
        rw [upd_swap (up_none nt_l).2]
        generalize eG_l : upd _ l _ = G2
        obtain ⟨nb2, sm2, hl, nt_l, nG_l⟩ := new_facts hb3.nb nt_l eG_l
        clear eG_l
        have hb4 := hb3.up sm2 nb2
        walk_at "ss"
        refine k_of hb4 (SqL.of hl) (by simp) (by simp) fun v β5 hv hb5 => ?_
        refine ⟨_, up_get hb5.nb (sm2 _ _ hD), small_lt (by omega), xs ++ [v], upd G2 D (.lst (xs ++ [v])), β5, upd_swap nDb, hb5.up0 (same_put hb5.sm (g_none hb.sm nD1)) (by rw [upd_ne (Ne.symm nDb)]; exact nb2), same_put (sm1.trans sm2) nD1, upd_same, by simp [hlen], fun x hx => ?_⟩
        rcases List.mem_append.mp hx with hx | hx
        · exact hall x hx
        · rw [List.mem_singleton.mp hx]
          simp only [List.mem_cons, List.not_mem_nil, or_false] at hv
          rcases hv with rfl | rfl | rfl | rfl | rfl <;> first | exact .int _ | exact .non | exact .bl _ | exact .str _ (by decide +kernel)
      · rintro H' ⟨xs, G1, β3, rfl, hb3, sm1, hD, hlen, hall⟩
        walk_at "ss"
        refine k_tupleL (SqL.of (up_get hb3.nb hD)) ?_
        intro t nt_t
        rw [upd_swap (up_none nt_t).2]
        generalize eG_t : upd _ t _ = G2
        obtain ⟨nb2, sm2, ht, nt_t, nG_t⟩ := new_facts hb3.nb nt_t eG_t
        clear eG_t
        exact k _ G2 β3 (sm1.trans sm2) (hb3.up sm2 nb2) (ov (.inr (.inl ⟨t, xs, rfl, fun z => hFG t z (g_none sm1 nG_t), .inr ht, by omega, fun x hx => Gd.sc (hall x hx) 1⟩)))
    walk_at "ss"
    refine k_d (fun _ => ?_) (fun _ => ?_)
    · walk_at "ss"
      refine k_draw hb1 (by decide) (by decide) fun n β2 n0 n1 hb2 => ?_
      walk_at "ss"
      refine k_r1 ⟨by omega, by omega⟩ ?_
      intro D nD
      obtain ⟨nD1, nDb⟩ := up_none nD
      refine k_lcRange (n := n.toNat) (fun i H' => ∃ (xs : List V) (G' : Hp) (β' : HO), H' = upd G' b β' ∧ Bag K G0 G' b β' ∧ Same G G' ∧ G' D = some (.lst xs) ∧ xs.length = i ∧ ∀ x ∈ xs, It G G' x)
        ⟨[], _, β2, upd_swap nDb, hb2.up (same_new nD1) (by rw [upd_ne (Ne.symm nDb)]; exact hb2.nb), same_new nD1, upd_same, rfl, fun x hx => (by cases hx)⟩ ?_ ?_
      · rintro i H' hi ⟨xs, G1, β3, rfl, hb3, sm1, hD, hlen, hall⟩
        refine k_gName ?_
        refine ⟨rfl, ?_⟩
        walk_at "ss"
        intro t nt_t
        rw [upd_swap (up_none nt_t).2]
        generalize eG_t : upd _ t _ = G2
        obtain ⟨nb2, sm2, ht, nt_t, nG_t⟩ := new_facts hb3.nb nt_t eG_t
        clear eG_t
        walk_at "ss"
        intro l nt_l
        rw [upd_swap (up_none nt_l).2]
        generalize eG_l : upd _ l _ = G3
        obtain ⟨nb3, sm3, hl, nt_l, nG_l⟩ := new_facts nb2 nt_l eG_l
        clear eG_l
        have hb4 := hb3.up (sm2.trans sm3) nb3
        walk_at "ss"
        refine k_of hb4 (SqL.of hl) (by simp) (by simp) fun v β5 hv hb5 => ?_
        have hD3 := sm3 _ _ (sm2 _ _ hD)
        refine ⟨_, up_get hb5.nb (sm3 _ _ (sm2 _ _ hD)), small_lt (by omega), xs ++ [v], upd G3 D (.lst (xs ++ [v])), β5, upd_swap nDb, hb5.up0 (same_put hb5.sm (g_none hb.sm nD1)) (by rw [upd_ne (Ne.symm nDb)]; exact nb3), same_put ((sm1.trans sm2).trans sm3) nD1, upd_same, by simp [hlen], fun x hx => ?_⟩
        rcases List.mem_append.mp hx with hx | hx
        · rcases hall x hx with h | ⟨a, rfl, h, n⟩
          · exact .inl h
          · have h3 := sm3 _ _ (sm2 _ _ h)
            exact .inr ⟨a, rfl, (upd_ne (ne_of h3 hD3 (by intro q; cases q))).trans h3, n⟩
        · rw [List.mem_singleton.mp hx]
          simp only [List.mem_cons, List.not_mem_nil, or_false] at hv
          rcases hv with rfl | rfl | rfl | rfl | rfl
          · exact .inl (.int _)
          · exact .inl (.str _ (by decide +kernel))
          · exact .inl .non
          · exact .inl (.bl _)
          · have h3 := sm3 _ _ ht
            exact .inr ⟨t, rfl, (upd_ne (ne_of h3 hD3 (by intro q; cases q))).trans h3, g_none sm1 nG_t⟩
      · rintro H' ⟨xs, G1, β3, rfl, hb3, sm1, hD, hlen, hall⟩
        walk_at "ss"
        exact k _ G1 β3 sm1 hb3 (ov (.inr (.inl ⟨D, xs, rfl, fun z => hFG D z nD1, .inl hD, by omega, fun x hx => (hall x hx).gd hFG⟩)))
    walk_at "ss"
    refine k_dnew ?_
    intro q1 nt_q1
    rw [upd_swap (up_none nt_q1).2]
    generalize eG_q1 : upd _ q1 _ = G1
    obtain ⟨nb1, sm1, hq1, nt_q1, nG_q1⟩ := new_facts hb1.nb nt_q1 eG_q1
    clear eG_q1
    walk_at "ss"
    refine k_disp1 ?_
    intro q2 nt_q2
    rw [upd_swap (up_none nt_q2).2]
    generalize eG_q2 : upd _ q2 _ = G2
    obtain ⟨nb2, sm2, hq2, nt_q2, nG_q2⟩ := new_facts nb1 nt_q2 eG_q2
    clear eG_q2
    walk_at "ss"
    refine ⟨(up_get nb2 hq2), [(.inr "a", _)], rfl, Nat.le_of_ble_eq_true rfl, ?_⟩
    rw [upd_swap nt_q2]
    generalize eG : upd G2 q2 _ = G3
    have s13 : Same G1 G3 := eG ▸ same_put sm2 nG_q2
    have hq2 := upd_at eG
    have nb3 : G3 b = none := by rw [← eG, upd_ne (Ne.symm nt_q2)]; exact nb2
    clear eG
    walk_at "ss"
    refine k_disp1 ?_
    intro q3 nt_q3
    rw [upd_swap (up_none nt_q3).2]
    generalize eG_q3 : upd _ q3 _ = G4
    obtain ⟨nb4, sm4, hq3, nt_q3, nG_q3⟩ := new_facts nb3 nt_q3 eG_q3
    clear eG_q3
    walk_at "ss"
    intro l5 nt_l5
    rw [upd_swap (up_none nt_l5).2]
    generalize eG_l5 : upd _ l5 _ = G5
    obtain ⟨nb5, sm5, hl5, nt_l5, nG_l5⟩ := new_facts nb4 nt_l5 eG_l5
    clear eG_l5
    refine ⟨(up_get nb5 (sm5 _ _ hq3)), [(.inl 1, _)], rfl, Nat.le_of_ble_eq_true rfl, ?_⟩
    rw [upd_swap nt_q3]
    generalize eG : upd G5 q3 _ = G6
    have s36 : Same G3 G6 := eG ▸ same_put (sm4.trans sm5) nG_q3
    have hq3 := upd_at eG
    have nb6 : G6 b = none := by rw [← eG, upd_ne (Ne.symm nt_q3)]; exact nb5
    clear eG
    walk_at "ss"
    refine k_disp1 ?_
    intro q4 nt_q4
    rw [upd_swap (up_none nt_q4).2]
    generalize eG_q4 : upd _ q4 _ = G7
    obtain ⟨nb7, sm7, hq4, nt_q4, nG_q4⟩ := new_facts nb6 nt_q4 eG_q4
    clear eG_q4
    walk_at "ss"
    refine k_disp1 ?_
    intro q5 nt_q5
    rw [upd_swap (up_none nt_q5).2]
    generalize eG_q5 : upd _ q5 _ = G8
    obtain ⟨nb8, sm8, hq5, nt_q5, nG_q5⟩ := new_facts nb7 nt_q5 eG_q5
    clear eG_q5
    walk_at "ss"
    intro t9 nt_t9
    rw [upd_swap (up_none nt_t9).2]
    generalize eG_t9 : upd _ t9 _ = G9
    obtain ⟨nb9, sm9, ht9, nt_t9, nG_t9⟩ := new_facts nb8 nt_t9 eG_t9
    clear eG_t9
    refine ⟨(up_get nb9 (sm9 _ _ hq5)), [(.inr "b", _)], rfl, Nat.le_of_ble_eq_true rfl, ?_⟩
    rw [upd_swap nt_q5]
    generalize eG : upd G9 q5 _ = GA
    have s7A : Same G7 GA := eG ▸ same_put (sm8.trans sm9) nG_q5
    have nbA : GA b = none := by rw [← eG, upd_ne (Ne.symm nt_q5)]; exact nb9
    clear eG
    refine ⟨(up_get nbA (s7A _ _ hq4)), [(.inr "a", _)], rfl, Nat.le_of_ble_eq_true rfl, ?_⟩
    rw [upd_swap nt_q4]
    generalize eG : upd GA q4 _ = GB
    have s6B : Same G6 GB := eG ▸ same_put (sm7.trans s7A) nG_q4
    have hq4 := upd_at eG
    have nbB : GB b = none := by rw [← eG, upd_ne (Ne.symm nt_q4)]; exact nbA
    clear eG
    walk_at "ss"
    intro l nt_l
    rw [upd_swap (up_none nt_l).2]
    generalize eG_l : upd _ l _ = GC
    obtain ⟨nbC, smC, hl, nt_l, nG_l⟩ := new_facts nbB nt_l eG_l
    clear eG_l
    have s3C := (s36.trans s6B).trans smC
    have s0C := (sm1.trans s13).trans s3C
    have hbC := hb1.up s0C nbC
    walk_at "ss"
    refine k_of hbC (SqL.of hl) (by simp) (by simp) fun v β3 hv hb3 => ?_
    refine k v GC β3 s0C hb3 ?_
    simp only [List.mem_cons, List.not_mem_nil, or_false] at hv
    rcases hv with rfl | rfl | rfl | rfl
    · exact ov (.inr (.inr ⟨q1, _, rfl, fun z => hFG q1 z nG_q1, (s13.trans s3C) _ _ hq1, .inl rfl⟩))
    · exact ov (.inr (.inr ⟨q2, _, rfl, fun z => hFG q2 z (g_none sm1 nG_q2), s3C _ _ hq2, .inr ⟨_, _, rfl, .inl rfl⟩⟩))
    · exact ov (.inr (.inr ⟨q3, _, rfl, fun z => hFG q3 z (g_none (sm1.trans s13) nG_q3), (s6B.trans smC) _ _ hq3, .inr ⟨_, _, rfl, .inr ⟨_, rfl⟩⟩⟩))
    · exact ov (.inr (.inr ⟨q4, _, rfl, fun z => hFG q4 z (g_none ((sm1.trans s13).trans s36) nG_q4), smC _ _ hq4, .inr ⟨_, _, rfl, .inr ⟨_, rfl⟩⟩⟩))
end

section
open LamX
variable {w : World} {K : PySem.W.Frag} {mg : Str → Option Value} {base : Heap}
/-! ### what a deed gives, or its error; a number of rows is let or refused -/
abbrev lq (q : Str) : Str := (q ++ (".<locals>." : Str)) ++ ("<lambda>" : Str)
def TL_ (T : Tx K mg) : List (Addr × Str) := [(T.tb_size_so, lq "_law_size_so")]
theorem TM_size_so (T : Tx K mg) : (T.tb_size_so, lq "_law_size_so") ∈ TL_ T := .head _
theorem TU_size_so (T : Tx K mg) : ∀ p ∈ TL_ T, p.1 = T.tb_size_so → p.2 = lq "_law_size_so" := fun p hp _ => by rw [List.mem_singleton.mp hp]
theorem mem_TL {T : Tx K mg} {p : Addr × Str} (h : p ∈ TL_ T) : p.1 = T.tb_size_so := by rw [List.mem_singleton.mp h]
def AskE {K : PySem.W.Frag} {mg : Str → Option Value} (T : Tx K mg) (Q : VK) : XK := fun cls d H1 => ∃ (e : Ev) (dd : Addr), cls = .ref (e.C T) ∧ d = some dd ∧ H1 dd = some (.xd e.fs) ∧
  ∀ (f t : Addr) (H2 : Hp), Same H1 H2 → H2 f = some (.lst e.row) → H2 t = some (.tup [.non, .ref f]) → Q (.ref t) H2
def AskQ (Q : VK) : VK := fun v H1 => ∀ (t : Addr) (H2 : Hp), Same H1 H2 → H2 t = some (.tup [v, .non]) → Q (.ref t) H2
def TT_ask {K : PySem.W.Frag} {mg : Str → Option Value} (T : Tx K mg) : (XK → Hp → VK → Prop) → Hp → VK → Prop := fun tl H Q =>
  ∀ (H1 : Hp) (E : XK) (Q' : VK), Same H H1 → (∀ cls d H', AskE T Q cls d H' → E cls d H') → (∀ v H', AskQ Q v H' → Q' v H') → tl E H1 Q'
theorem gives_ask {K0 : PySem.W.Frag} {mg0 : Str → Option Value} (T : Tx K0 mg0) {X : Cx} (hK : X.K = K0 := by rfl) (hm : X.mg = mg0 := by rfl) {cdv : Value} {q : Str} : GivesA X N_ask "_law_ask" (defScope s_ask) T.a_ask cdv (defBody s_ask) "_law_deed_here" q (TT_ask T) := by
  subst hK
  subst hm
  intro lf lc s H Q tl act hlc hTT
  have nd := sc_ask.nd
  let K : PySem.W.Frag := X.K
  refine ⟨_, (pss_cons (ps_asg (pe_tup (pa_cons pe_non (pa_cons pe_non pa_nil))) (kpg_tup K 2 rfl (pgs_cons (kgL (i := 1) nd l_ask_law_told) (pgs_cons (kgL (i := 2) nd l_ask_law_fault) pgs_nil))))
      (pss_cons (ps_try_manyA rfl rfl nd takes_none5 (fun W pn xe tk _ => (pss_one (ks_setL (i := 1) nd l_ask_law_told (act W pn xe _ _ tk)))) (.cons (i := 3) rfl (locB_ok l_ask_error) ⟨g_ask_InvalidNumber, by decide, .inl T.m_InvalidNumber⟩ (fun a oe cls d pn hz hf => (pss_one (ks_setL (i := 2) nd l_ask_law_fault (pe_lst (pa_cons pe_str (pa_cons (pe_xf T.xf_InvalidNumber T.no_InvalidNumber_value hz hf (kv (i := 3) v_ask_error)) pa_nil)))))) (.cons (i := 3) rfl (locB_ok l_ask_error) ⟨g_ask_SureletError, by decide, .inl T.m_SureletError⟩ (fun a oe cls d pn hz hf => (pss_one (ks_setL (i := 2) nd l_ask_law_fault (pe_lst (pa_cons pe_str (pa_cons (pe_xf T.xf_InvalidNumber T.no_InvalidNumber_code hz hf (kv (i := 3) v_ask_error)) pa_nil)))))) .nil)))
      (pss_one (ps_ret (pe_tup (pa_cons (kv (i := 1) v_ask_law_told) (pa_cons (kv (i := 2) v_ask_law_fault) pa_nil))))))), ?_⟩
  walk_at "ss"
  intro p np
  have s1 := same_new (o := .tup [V.non, V.non]) np
  refine k_gTup (SqT.of upd_same) rfl ?_
  walk_at "ss"
  refine ⟨rfl, s1 _ _ hlc, hTT _ _ _ s1 (fun cls d H' hE => ?_) fun v H' hQ => ?_⟩
  · obtain ⟨e, dd, rfl, rfl, hd, kk⟩ := hE
    have fin : ∀ (f t : Addr) (nf : H' f = none) (nt : upd H' f (.lst e.row) t = none), Q (.ref t) (upd (upd H' f (.lst e.row)) t (.tup [.non, .ref f])) := fun f t nf nt => kk f t _ ((same_new nf).trans (same_new nt)) (same_new nt _ _ upd_same) upd_same
    cases e with
    | num v =>
      refine ⟨true, T.exm_InvalidNumber_InvalidNumber, fun _ a na => ?_, fun h => nomatch h⟩
      walk_at "ss"
      refine ⟨_, rfl, rfl, rfl, dd, _, _, rfl, hd, rfl, ?_⟩
      walk_at "ss"
      intro f nf
      walk_at "ss"
      intro t nt
      exact fin f t nf nt
  · walk_at "ss"
    intro t nt
    exact hQ t _ (same_new nt) upd_same
theorem Bag.nt {G0 G : Hp} {b : Addr} {β : HO} (h : Bag K G0 G b β) : ∀ ps, β ≠ .tbl ps := by
  obtain ⟨l, ns, i, r, s, c, rfl, _⟩ := h.ex
  intro ps q
  cases q
theorem tabs_bag {T : List (Addr × Str)} {G : Hp} {b : Addr} {β β' : HO} (h : Tabs T (upd G b β)) (nt : ∀ ps, β ≠ .tbl ps) (nc : ∀ q, β ≠ CodeO b q) : Tabs T (upd G b β') := fun p hp => by
  obtain ⟨ps, h1, h2, h3⟩ := h p hp
  have n1 : p.1 ≠ b := fun z => by
    rw [z, upd_same] at h1
    exact nt ps (Option.some.inj h1)
  refine ⟨ps, by rw [upd_ne n1] at h1 ⊢; exact h1, h2, fun pos cv hc => ?_⟩
  obtain ⟨c, e1, e2⟩ := h3 pos cv hc
  have n2 : c ≠ b := fun z => by
    rw [z, upd_same] at e2
    exact nc _ (Option.some.inj e2)
  exact ⟨c, e1, by rw [upd_ne n2] at e2 ⊢; exact e2⟩
theorem Bag.nc {G0 G : Hp} {b c : Addr} {β : HO} (h : Bag K G0 G b β) : ∀ q, β ≠ CodeO c q := by
  obtain ⟨l, ns, i, r, s, cc, rfl, _⟩ := h.ex
  intro q z
  unfold CodeO at z
  cases z
theorem Tabs.bag {T : List (Addr × Str)} {G0 G G' : Hp} {b : Addr} {β β' : HO} (h : Tabs T (upd G b β)) (hb : Bag K G0 G b β) (e : Same G G') (nb : G' b = none) : Tabs T (upd G' b β') := by
  have h1 : Tabs T (upd G' b β) := h.ext fun a o ha => by
    by_cases z : a = b
    · subst z
      rw [upd_same] at ha ⊢
      exact ha
    · rw [upd_ne z] at ha ⊢
      exact e _ _ ha
  exact tabs_bag h1 hb.nt (fun q => hb.nc q)
theorem k_viaT {tt : TT} {σ : L2.St} {H : Hp} {Q : Bool → Hp → Prop} (b0 : Bool) (h : ∀ Q0 : Bool → Hp → Prop, Q0 b0 H → tt σ H Q0) (k : Q b0 H) : tt σ H Q := h Q k
theorem newD_nil (m : Int) : (DS.newD m []).c0 = [some ("head 1 0" : Str)] ∧ (DS.newD m []).c1 = [] := by
  refine ⟨?_, (new_cells (m := m) (t := [])).2⟩
  have h1 : headT 1 0 = ("head 1 0" : Str) := by decide +kernel
  show (((DS.fresh m []).take 0 1).puts ([] ++ (piecesW 0 1 (prt (tabC [])) ++ [(0, 0, headT 1 (prt (tabC [])).length)]))).c0 = _
  rw [show tabC [] = [] from rfl, prt_nil, ← h1]
  rfl
theorem test_num {u0 u1 u2 : Option V} {v : V} {H : Hp} {Q0 : Bool → Hp → Prop} (hv : Gv H v) (h : Q0 (numV v 1 64) H) :
    tAnd (tB (tCB (rIsi K) (tCons (tVar 3) (tCons (tC (V.ty "int")) tNil)))) (tAnd (tNot (tB (tCB (rIsi K) (tCons (tVar 3) (tCons (tC (V.ty "bool")) tNil))))) (tAnd (tTest (tOp (rI0 fun i j => V.bl (decide (i ≤ j))) (tC (V.int 1)) (tVar 3))) (tTest (tOp (rI0 fun i j => V.bl (decide (i ≤ j))) (tVar 3) (tC (V.int 64)))))) [u0, u1, u2, some v] H Q0 := by
  cases hv with
  | int i =>
    walk_at "ss"
    have e : numV (.int i) 1 64 = (decide (1 ≤ i) && decide (i ≤ 64)) := rfl
    rw [e] at h
    by_cases h1 : 1 ≤ i
    · rw [decide_eq_true h1, Bool.true_and] at h
      rw [decide_eq_true h1]
      refine k_t ?_
      walk_at "ss"
      exact h
    · rw [decide_eq_false h1, Bool.false_and] at h
      rw [decide_eq_false h1]
      exact h
  | str z hz => walk_at "ss"; exact h
  | bl z => walk_at "ss"; exact h
  | non => walk_at "ss"; exact h
  | lst hz => walk_at "ss"; exact h
  | tup hz => walk_at "ss"; exact h
  | dic hz => walk_at "ss"; exact h
def spSizeSo (T : Tx K mg) : Sp := fun vs H Q _ => ∃ (G0 G : Hp) (b : Addr) (β : HO), vs = [.ref b] ∧ H = upd G b β ∧ Bag K G0 G b β ∧ Tabs (TL_ T) (upd G b β) ∧ ∀ H', Q (.bl true) H'
theorem ok_size_so (T : Tx K mg) (TB_size_so : TabB base mg T.cda_size_so T.tb_size_so) : FnOk P w K mg base CX0 12 T.a_size_so T.fd_size_so P_size_so (spSizeSo T) := by
  refine T.F_size_so.ok sc_size_so (fun vs H Q E h => ?_) (fun A outer s H vs Q E hr h => ?_)
  · obtain ⟨G0, G, b, β, rfl, _⟩ := h
    rfl
  · obtain ⟨G0, G, b, β, rfl, rfl, hb, hT, k⟩ := h
    have nd := sc_size_so.nd
    obtain ⟨oc9, od9, kV9, doc9, pm9, an9, cdv9, ct9, osl9, efd9, lk_ask, hc_ask⟩ := T.F_ask.ex
    have hb_ask := T.b_ask
    rw [efd9] at lk_ask hb_ask
    obtain ⟨mv1, kbp1⟩ := kbindD1 T
    refine ⟨_, (pss_cons (ks_setC (i := 3) nd c_size_so_law_most_here (pe_call (ok_of T) (hr.mono (by first | decide | omega)) g_size_so_law_of T.m_of T.k_of T.b_of .nil pass0 (pa_cons (kv (i := 0) v_size_so_law_bag_here) (pa_cons (pe_lst (pa_cons pe_int (pa_cons pe_int (pa_cons (pe_un un_neg pe_int) (pa_cons pe_int (pa_cons pe_int (pa_cons pe_bl (pa_cons pe_non (pa_cons pe_str (pa_cons (pe_call (ok_odd T) (hr.mono (by first | decide | omega)) g_size_so_law_odd T.m_odd T.k_odd T.b_odd .nil pass0 (pa_cons (kv (i := 0) v_size_so_law_bag_here) pa_nil)) pa_nil)))))))))) pa_nil))))
      (pss_cons (ps_asg (pe_lamA (k := 8) (T := TL_ T) (TT := TT_ask T) g_size_so_law_ask T.m_ask T.k_ask lk_ask hc_ask hb_ask sc_ask rfl vl_ask (gives_ask T) TB_size_so rfl (TM_size_so T) (TU_size_so T) (hr.mono (by first | decide | omega)) (LamX.lamS_by lam_size_so_ls_size_so_1) (fun A outer s H E lf lc hr => (pe_makeK T.mk_Disk (ok_Disk_init T) (hr.mono (by first | decide | omega)) g_size_so_L1_Disk T.m_Disk kbp1 (passes_call (takes_of rfl rfl rfl rfl) (fun _ _ _ _ h => h)) (pa_cons pe_dnewK pa_nil) (pk_cons (kv (i := 3) v_size_so_L1_law_most_here) pk_nil)))) (kpg_tup K 2 rfl (pgs_cons (kgL (i := 1) nd l_size_so_law_told) (pgs_cons (kgL (i := 2) nd l_size_so_law_fault) pgs_nil))))
      (pss_cons (ps_if (PW.pt (pw_and (pt_val (kcB b_isinstance (by decide) (by decide) (kc_isi K) g_size_so_isinstance T.n_isinstance (pa_cons (kv (i := 3) v_size_so_law_most_here) (pa_cons (kty_int g_size_so_int T.n_int) pa_nil)))) (pw_and (pt_not (pt_val (kcB b_isinstance (by decide) (by decide) (kc_isi K) g_size_so_isinstance T.n_isinstance (pa_cons (kv (i := 3) v_size_so_law_most_here) (pa_cons (kty_bool g_size_so_bool T.n_bool) pa_nil))))) (pw_and (pt_cmpR op_le pe_int (kv (i := 3) v_size_so_law_most_here) (nomark _)) (pw_and1 (pt_cmpR op_le (kv (i := 3) v_size_so_law_most_here) pe_int (nomark _))))))) (pss_one (ps_ret (pe_and (pe_cmpR op_isN (kv (i := 2) v_size_so_law_fault) pe_non (nomark _)) (pe_one (pe_call (ok_like T) (hr.mono (by first | decide | omega)) g_size_so_law_like T.m_like T.k_like T.b_like .nil pass0 (pa_cons (kpe_methP0 (disp1 T.cl_Disk T.me_Disk_areas (ok_Disk_areas T) T.b_Disk_areas) (hr.mono (by first | decide | omega)) pass0 (kv (i := 1) v_size_so_law_told)) (pa_cons (pe_lst (pa_cons (pe_lst (pa_cons pe_str pa_nil)) (pa_cons (pe_lst pa_nil) pa_nil))) pa_nil))))))) pss_nil)
      (pss_one (ps_ret (pe_and (pe_cmpR op_isN (kv (i := 1) v_size_so_law_told) pe_non (nomark _)) (pe_one (pe_call (ok_like T) (hr.mono (by first | decide | omega)) g_size_so_law_like T.m_like T.k_like T.b_like .nil pass0 (pa_cons (kv (i := 2) v_size_so_law_fault) (pa_cons (pe_lst (pa_cons pe_str (pa_cons (kv (i := 3) v_size_so_law_most_here) pa_nil))) pa_nil)))))))))), ?_⟩
    walk_at "ss"
    refine ⟨fun _ => False, G0, G, b, β, rfl, rfl, hb, fun a h => h.elim, fun ov G1 β1 s1 hb1 hov => ?_⟩
    walk_at "ss"
    intro l nt_l
    rw [upd_swap (up_none nt_l).2]
    generalize eG_l : upd _ l _ = G2
    obtain ⟨nb2, sm2, hl, nt_l, nG_l⟩ := new_facts hb1.nb nt_l eG_l
    clear eG_l
    have hb2 := hb1.up sm2 nb2
    walk_at "ss"
    refine k_of hb2 (SqL.of hl) (by simp) (by simp) fun v β2 hv hb3 => ?_
    have hgd : Gd (fun _ => False) G2 2 v := by
      simp only [List.mem_cons, List.not_mem_nil, or_false] at hv
      rcases hv with rfl | rfl | rfl | rfl | rfl | rfl | rfl | rfl | rfl
      · exact Gd.sc (.int _) 2
      · exact Gd.sc (.int _) 2
      · exact Gd.sc (.int _) 2
      · exact Gd.sc (.int _) 2
      · exact Gd.sc (.int _) 2
      · exact Gd.sc (.bl _) 2
      · exact Gd.sc .non 2
      · exact Gd.sc (.str _ (by decide +kernel)) 2
      · exact Gd.up hov sm2
    clear hv
    have hT2 : Tabs (TL_ T) (upd G2 b β2) := Tabs.bag hT hb (s1.trans sm2) nb2
    walk_at "ss"
    refine k_lam hT2 fun H1 eN T1 => ?_
    have hgd1 : Gd (fun _ => False) H1 2 v := (hgd.up (up_same hb3.nb)).keep fun a o _ h n => eN a o h n
    intro H2 E2 Q' s12 hE hQ
    have hgd2 := hgd1.up s12
    refine k_makeK ?_
    walk_at "ss"
    refine k_dnew fun t nt => ?_
    have s3 := same_new (o := .dK []) nt
    walk_at "ss"
    refine ⟨rfl, rfl, fun x dx nx ndx ne => ?_⟩
    have ht3 : upd H2 t (.dK []) t = some (.dK []) := upd_same
    have s03 := s12.trans s3
    generalize upd H2 t (.dK []) = H3 at s3 nx ndx ht3 s03 ⊢
    have sM : Same H3 (upd (upd H3 dx (.own x)) x (.ins T.C_Disk dx [])) := fun y o h => by
      rw [upd_ne (ne_of_none h nx), upd_ne (ne_of_none h ndx)]
      exact h
    refine ⟨x, dx, t, [], v, rfl, upd_same, sM _ _ ht3, TabOk.nil, ((hgd2.up s3).up sM).gv, fun hf => ?_, fun m em m1 m2 f H' ef sb hn hd => ⟨rfl, ?_⟩⟩
    · intro H4 d s4 hd4
      refine hE _ _ _ ⟨.num v, d, rfl, rfl, hd4, fun fa tt H5 s5 hfa htt => ?_⟩
      have hgd5 := (((hgd2.up s3).up sM).up s4).up s5
      refine k_gTup (SqT.of htt) rfl ?_
      refine k_gCons ?_
      refine k_gName ?_
      refine k_gCons ?_
      refine k_gName ?_
      refine k_gNil ?_
      dsimp only
      refine k_seq ?_
      refine k_ifS ?_
      refine k_viaT (numV v 1 64) (fun Q0 hq => test_num hgd5.gv hq) ?_
      rw [hf]
      refine k_f ?_
      walk_at "ss"
      refine ⟨rfl, ?_⟩
      refine ⟨_, rfl, ?_⟩
      refine k_dt rfl ?_
      walk_at "ss"
      intro q nq
      have s6 := same_new (o := .lst [V.str ("InvalidNumber" : Str), v]) nq
      walk_at "ss"
      refine k_like (eqd_seq (.inl ⟨s6 _ _ hfa, upd_same⟩) (show 2 ≤ 30000 by decide) (fun y hy => ?_)) fun H7 s7 => ?_
      · rcases List.mem_cons.mp hy with rfl | hy
        · exact Eqd.sc (.str _) 2
        · rw [List.mem_singleton.mp hy]
          exact (hgd5.up s6).eqd
      · exact k H7
    · refine hQ _ _ fun tt H5 s5 htt => ?_
      subst em
      have hd5 := hd.up s5
      obtain ⟨dx5, fs5, hins5, hno5⟩ := hd5.at_.ins
      have hgv : Gv H5 (.int m) := .int m
      refine k_gTup (SqT.of htt) rfl ?_
      refine k_gCons ?_
      refine k_gName ?_
      refine k_gCons ?_
      refine k_gName ?_
      refine k_gNil ?_
      dsimp only
      refine k_seq ?_
      refine k_ifS ?_
      refine k_viaT (numV (.int m) 1 64) (fun Q0 hq => test_num hgv hq) ?_
      rw [numV_t m1 m2]
      refine k_t ?_
      walk_at "ss"
      refine ⟨rfl, ?_⟩
      refine ⟨_, rfl, ?_⟩
      refine k_dt rfl ?_
      walk_at "ss"
      refine k_meth ?_
      walk_at "ss"
      refine ⟨f.a, _, _, _, _, by rw [ef], hins5, ⟨rfl, rfl⟩, hno5 _ (by decide +kernel), ?_⟩
      walk_at "ss"
      refine ⟨f, DS.newD m [], by rw [ef], hd5, fun L p q H6 nL np nq nLp nLq npq s6 hL hp hq => ?_⟩
      obtain ⟨en0, en1⟩ := newD_nil m
      rw [en0] at hp
      rw [en1] at hq
      walk_at "ss"
      intro p2 np2
      have s7 := same_new (o := .lst [V.str ("head 1 0" : Str)]) np2
      have hp7 : upd H6 p2 (.lst [V.str ("head 1 0" : Str)]) p2 = some (.lst [V.str ("head 1 0" : Str)]) := upd_same
      have hL7 := s7 _ _ hL
      have hpp7 := s7 _ _ hp
      have hqq7 := s7 _ _ hq
      generalize upd H6 p2 (.lst [V.str ("head 1 0" : Str)]) = H7 at s7 hp7 hL7 hpp7 hqq7 ⊢
      walk_at "ss"
      intro q2 nq2
      have s8 := same_new (o := .lst []) nq2
      have hq8 : upd H7 q2 (.lst []) q2 = some (.lst []) := upd_same
      have hL8 := s8 _ _ hL7
      have hpp8 := s8 _ _ hpp7
      have hqq8 := s8 _ _ hqq7
      have hp8 := s8 _ _ hp7
      generalize upd H7 q2 (.lst []) = H8 at s8 hq8 hL8 hpp8 hqq8 hp8 ⊢
      walk_at "ss"
      intro L2' nL2
      have s9 := same_new (o := .lst [V.ref p2, V.ref q2]) nL2
      walk_at "ss"
      refine k_like (Eqd.succ (eqd_areas (s9 _ _ hL8) upd_same (s9 _ _ hpp8) (s9 _ _ hp8) (s9 _ _ hqq8) (s9 _ _ hq8) (show 1 ≤ 30000 by decide) (Nat.zero_le _) (fun y hy => ?_) (fun y hy => by cases hy))) fun HA sA => k HA
      rw [List.mem_singleton.mp hy]
      exact .str _
end

section
open TL
variable {w : World} {K : PySem.W.Frag} {mg : Str → Option Value} {base : Heap}
/-! ### a disk is filled -/
def spFull (K : PySem.W.Frag) : Sp := fun vs H Q _ => ∃ (G0 G : Hp) (b : Addr) (β : HO), vs = [.ref b] ∧ H = upd G b β ∧ Bag K G0 G b β ∧ ∀ (G' : Hp) (β' : HO), Bag K G0 G' b β' → Q (.bl true) (upd G' b β')
theorem newPr {T : Tx K mg} {G0 G G1 G2 : Hp} {f : DF} {g : OF} {s : DS} (hG : Same G0 G) (hf : ∀ x ∈ f.l, G x = none) (s1 : Same G G1) (hD : DiskAt T G1 f s) (hg : ∀ x ∈ g.l, G1 x = none) (s2 : Same G1 G2) (hO : OwnAt G2 g s) : Pr T G0 G2 f g s s := by
  refine ⟨hD.up s2, hO, fun x hx m => ?_, fun x hx => ?_⟩
  · obtain ⟨o, e, _⟩ := hD.live x hx
    rw [hg x m] at e
    cases e
  · rcases List.mem_append.mp hx with hx | hx
    · exact s_none hG (hf x hx)
    · exact s_none (hG.trans s1) (hg x hx)
theorem up_nones {G : Hp} {b : Addr} {β : HO} {F : List Addr} (h : ∀ x ∈ F, upd G b β x = none) : (∀ x ∈ F, G x = none) ∧ b ∉ F := ⟨fun x hx => (up_none (h x hx)).1, fun m => (up_none (h b m)).2 rfl⟩
theorem ok_full_so (T : Tx K mg) : FnOk P w K mg base CX0 7 T.a_full_so T.fd_full_so P_full_so (spFull K) := by
  refine T.F_full_so.ok sc_full_so (fun vs H Q E h => ?_) (fun cdv A outer s H vs Q E hr h => ?_)
  · obtain ⟨G0, G, b, β, rfl, _⟩ := h
    rfl
  · obtain ⟨G0, G, b, β, rfl, rfl, hb, k⟩ := h
    have nd := sc_full_so.nd
    obtain ⟨ds1, dvp1, bsp1⟩ := bindD1 T
    obtain ⟨mv1, kbp1⟩ := kbindD1 T
    refine ⟨_, (pss_cons (ks_setL (i := 1) nd l_full_so_law_most_here (pe_call (ok_of T) (hr.mono (by first | decide | omega)) g_full_so_law_of T.m_of T.k_of T.b_of .nil pass0 (pa_cons (kv (i := 0) v_full_so_law_bag_here) (pa_cons (pe_lst (pa_cons pe_int (pa_cons pe_int (pa_cons pe_int (pa_cons pe_int (pa_cons pe_int (pa_cons pe_int (pa_cons pe_int pa_nil)))))))) pa_nil))))
      (pss_cons (ks_setL (i := 2) nd l_full_so_law_disk (pe_ifExp (pt_cmpR op_eq (kv (i := 1) v_full_so_law_most_here) pe_int (nomark _)) (pe_make T.mk_Disk (ok_Disk_init T) (hr.mono (by first | decide | omega)) g_full_so_Disk T.m_Disk bsp1 dvp1 passE (pa_cons pe_dnewK pa_nil)) (pe_makeK T.mk_Disk (ok_Disk_init T) (hr.mono (by first | decide | omega)) g_full_so_Disk T.m_Disk kbp1 passE (pa_cons pe_dnewK pa_nil) (pk_cons (kv (i := 1) v_full_so_law_most_here) pk_nil))))
      (pss_cons (ks_setL (i := 3) nd l_full_so_law_own (pe_call (ok_new T) (hr.mono (by first | decide | omega)) g_full_so_law_new T.m_new T.k_new T.b_new .nil pass0 (pa_cons pe_dnewK (pa_cons (kv (i := 1) v_full_so_law_most_here) pa_nil))))
      (pss_cons (ks_setL (i := 4) nd l_full_so_law_first (pe_call (ok_draw T) (hr.mono (by first | decide | omega)) g_full_so_law_draw T.m_draw T.k_draw T.b_draw .nil pass0 (pa_cons (kv (i := 0) v_full_so_law_bag_here) (pa_cons pe_int pa_nil))))
      (pss_cons (ps_for PassesOwn.never rfl (pi_range1 g_full_so_range T.n_range (pa_cons (pe_op kop_add (kv (i := 1) v_full_so_law_most_here) pe_int) pa_nil)) (kgL (i := 5) nd l_full_so_law_k) (pss_cons (ks_setL (i := 6) nd l_full_so_law_key_here (pe_call (ok_of T) (hr.mono (by first | decide | omega)) g_full_so_law_of T.m_of T.k_of T.b_of .nil pass0 (pa_cons (kv (i := 0) v_full_so_law_bag_here) (pa_cons (pe_lst (pa_cons pe_str (pa_cons pe_str pa_nil))) pa_nil))))
      (pss_cons (ps_expr (kpe_methP (disp1 T.cl_Disk T.me_Disk_write (ok_Disk_write T) T.b_Disk_write) (hr.mono (by first | decide | omega)) pass0 (kv (i := 2) v_full_so_law_disk) (pa_cons (pe_disp (pps_cons (kv (i := 6) v_full_so_law_key_here) (kcT b_str (by decide) (by decide) kc_str g_full_so_str T.n_str (pa_cons (pe_op kop_add (kv (i := 4) v_full_so_law_first) (kv (i := 5) v_full_so_law_k)) pa_nil)) pps_nil) (by rfl) (by rfl) (fun z => by cases z) (by decide)) pa_nil)))
      (pss_cons (ps_expr (pe_call (ok_write T) (hr.mono (by first | decide | omega)) g_full_so_law_write T.m_write T.k_write T.b_write .nil pass0 (pa_cons (kv (i := 3) v_full_so_law_own) (pa_cons (pe_disp (pps_cons (kv (i := 6) v_full_so_law_key_here) (kcT b_str (by decide) (by decide) kc_str g_full_so_str T.n_str (pa_cons (pe_op kop_add (kv (i := 4) v_full_so_law_first) (kv (i := 5) v_full_so_law_k)) pa_nil)) pps_nil) (by rfl) (by rfl) (fun z => by cases z) (by decide)) pa_nil))))
      (pss_one (ps_if (PW.pt (pw_and (pt_cmpR op_ge (kv (i := 5) v_full_so_law_k) (pe_op op_sub (kv (i := 1) v_full_so_law_most_here) pe_int) (nomark _)) (pw_and1 (pt_not (pt_val (pe_call (ok_disk_so T) (hr.mono (by first | decide | omega)) g_full_so_law_disk_so T.m_disk_so T.k_disk_so T.b_disk_so .nil pass0 (pa_cons (kv (i := 2) v_full_so_law_disk) (pa_cons (kv (i := 3) v_full_so_law_own) pa_nil)))))))) (pss_one (ps_ret pe_bl)) pss_nil))))))
      (pss_one (ps_ret pe_bl))))))), ?_⟩
    walk_at "ss"
    intro l1 nt_l1
    rw [upd_swap (up_none nt_l1).2]
    generalize eG_l1 : upd _ l1 _ = G1
    obtain ⟨nb1, sm1, hl1, nt_l1, nG_l1⟩ := new_facts hb.nb nt_l1 eG_l1
    clear eG_l1
    have hb1 := hb.up sm1 nb1
    walk_at "ss"
    refine k_of hb1 (SqL.of hl1) (by simp) (by simp) fun v β2 hv hb2 => ?_
    obtain ⟨m, rfl, hm0, hm1⟩ : ∃ m : Int, v = V.int m ∧ 1 ≤ m ∧ m ≤ 64 := by
      simp only [List.mem_cons, List.not_mem_nil, or_false] at hv
      rcases hv with rfl | rfl | rfl | rfl | rfl | rfl | rfl <;> exact ⟨_, rfl, by decide, by decide⟩
    clear hv
    refine k_gName ?_
    dsimp only
    refine k_seq ?_
    refine k_asg ?_
    refine k_via (fun v H' => ∃ (f : DF) (G2 : Hp), v = .ref f.a ∧ H' = upd G2 b β2 ∧ Same G1 G2 ∧ Bag K G0 G2 b β2 ∧ DiskAt T G2 f (DS.newD m []) ∧ ∀ x ∈ f.l, G1 x = none) (fun Q0 hq => ?_) ?_
    · have core : ∀ (f : DF) (H' : Hp), (∀ x ∈ f.l, upd G1 b β2 x = none) → Same (upd G1 b β2) H' → DiskAt T H' f (DS.newD m []) → Q0 (.ref f.a) H' := fun f H' hn sm hd => by
        obtain ⟨hn1, nbf⟩ := up_nones hn
        obtain ⟨G2, nb2, s12, rfl⟩ := split_up hb2.nb sm
        have hb3 := hb2.up s12 nb2
        exact hq _ _ ⟨f, G2, rfl, rfl, s12, hb3, DiskAt.dn hb3 hd nbf, hn1⟩
      walk_at "ss"
      by_cases h16 : m = 16
      · rw [if_pos (decide_eq_true h16)]
        refine k_make ?_
        walk_at "ss"
        refine k_dnew fun t nt => ?_
        have st := same_new (o := .dK []) nt
        walk_at "ss"
        subst h16
        show ∀ x dx, _ → _ → _ → spInit T [V.ref x, V.ref t, V.int 16] _ _ _
        exact k_mkD (T := T) (tb := []) upd_same TabOk.nil (by decide) (by decide) fun f H' hn sm hd => core f H' (fun x hx => s_none st (hn x hx)) (st.trans sm) hd
      · rw [if_neg (by rw [decide_eq_false h16]; decide)]
        refine k_makeK ?_
        walk_at "ss"
        refine k_dnew fun t nt => ?_
        have st := same_new (o := .dK []) nt
        walk_at "ss"
        refine ⟨rfl, rfl, ?_⟩
        show ∀ x dx, _ → _ → _ → spInit T [V.ref x, V.ref t, V.int m] _ _ _
        exact k_mkD (T := T) (tb := []) upd_same TabOk.nil hm0 hm1 fun f H' hn sm hd => core f H' (fun x hx => s_none st (hn x hx)) (st.trans sm) hd
    · rintro _ _ ⟨f, G2, rfl, rfl, s12, hb3, hD2, hnf⟩
      walk_at "ss"
      refine k_dnew ?_
      intro t3 nt_t3
      rw [upd_swap (up_none nt_t3).2]
      generalize eG_t3 : upd _ t3 _ = G3
      obtain ⟨nb3, sm3, ht3, nt_t3, nG_t3⟩ := new_facts hb3.nb nt_t3 eG_t3
      clear eG_t3
      have hb4 := hb3.up sm3 nb3
      walk_at "ss"
      refine ⟨t3, [], m, rfl, up_get nb3 ht3, TabOk.nil, fun g H' hn sg hO => ?_⟩
      obtain ⟨hn1, nbg⟩ := up_nones hn
      obtain ⟨G4, nb4, s34, rfl⟩ := split_up nb3 sg
      have hb5 := hb4.up s34 nb4
      have hp : Pr T G0 G4 f g (DS.newD m []) (DS.newD m []) := newPr (G := G1) hb1.sm hnf (s12.trans sm3) (hD2.up sm3) hn1 s34 (OwnAt.dn hb5 hO nbg)
      have hI := Inv.new (t := []) TabOk.nil hm0 hm1
      walk_at "ss"
      refine k_draw hb5 (by decide) (by decide) fun d β6 d0 d1 hb6 => ?_
      obtain ⟨d, rfl⟩ := Int.eq_ofNat_of_zero_le d0
      walk_at "ss"
      refine k_r1 (by constructor <;> omega) ?_
      refine k_forRange (n := (m + 1).toNat) (fun i σ H' => ∃ (f' : DF) (g' : OF) (s' : DS) (G' : Hp) (β' : HO) (u1 u2 : Option V), σ = [some (.ref b), some (.int m), some (.ref f'.a), some (.ref g'.o), some (.int (d : Nat)), u1, u2] ∧ f'.a = f.a ∧ g'.o = g.o ∧ H' = upd G' b β' ∧ Bag K G0 G' b β' ∧ Pr T G0 G' f' g' s' s' ∧ Inv s' i (215 * i))
        ⟨f, g, _, G4, β6, _, _, rfl, rfl, rfl, rfl, hb6, hp, hI⟩ ?_ ?_
      · rintro i σ H' hi ⟨f1, g1, s1, G5, β5, u1, u2, rfl, efa, ego, rfl, hb7, hp1, hI1⟩
        have hi65 : i ≤ 64 := by omega
        walk_at "ss"
        intro l2 nt_l2
        rw [upd_swap (up_none nt_l2).2]
        generalize eG_l2 : upd _ l2 _ = G6
        obtain ⟨nb6, sm6, hl2, nt_l2, nG_l2⟩ := new_facts hb7.nb nt_l2 eG_l2
        clear eG_l2
        have hb8 := hb7.up sm6 nb6
        walk_at "ss"
        refine k_of hb8 (SqL.of hl2) (by simp) (by simp) fun v β7 hv hb9 => ?_
        obtain ⟨y, rfl, hy⟩ : ∃ y : Str, v = V.str y ∧ y ∈ keys9 := by
          simp only [List.mem_cons, List.not_mem_nil, or_false] at hv
          rcases hv with rfl | rfl <;> exact ⟨_, rfl, by decide +kernel⟩
        clear hv
        have hp2 := hp1.up sm6
        obtain ⟨dx, fs, hins, hno⟩ := hp2.d.at_.ins
        have hzl := numT_len (n := d + i) (by omega)
        have hch : ChOk [(y, some (numT (d + i)))] := ⟨by simp, fun z hz => by
          rw [List.mem_singleton.mp hz]
          exact ⟨hy, fun x hx => by cases hx; omega⟩⟩
        walk_at "ss"
        refine k_meth ?_
        walk_at "ss"
        refine ⟨f1.a, _, _, _, _, rfl, up_get hb9.nb hins, ⟨rfl, rfl⟩, hno _ (by decide +kernel), ?_⟩
        walk_at "ss"
        refine k_disp1 ?_
        intro C nt_C
        rw [upd_swap (up_none nt_C).2]
        generalize eG_C : upd _ C _ = G7
        obtain ⟨nb7, sm7, hC7, nt_C, nG_C⟩ := new_facts hb9.nb nt_C eG_C
        clear eG_C
        walk_at "ss"
        rw [Int.zero_add]
        refine k_str1 (i := ((d + i : Nat) : Int)) (by omega) ?_
        refine ⟨up_get nb7 hC7, [(.inr y, .str (numT (d + i)))], rfl, (by decide : 1 ≤ 15), ?_⟩
        rw [upd_swap nt_C]
        obtain ⟨cs, ecs⟩ : ∃ cs : CsL, cs = [(y, some (numT (d + i)))] := ⟨_, rfl⟩
        show (tNil _ (upd (upd G7 C (.dK (kC [(y, some (numT (d + i)))]))) b β7) _)
        have s68 : Same G6 (upd G7 C (.dK (kC [(y, some (numT (d + i)))]))) := same_put sm7 nG_C
        have hC8 : upd G7 C (.dK (kC [(y, some (numT (d + i)))])) C = some (.dK (kC [(y, some (numT (d + i)))])) := upd_same
        have nb8 : upd G7 C (.dK (kC [(y, some (numT (d + i)))])) b = none := by rw [upd_ne (Ne.symm nt_C)]; exact nb7
        rw [← ecs] at hch s68 hC8 nb8 ⊢
        generalize upd G7 C (.dK (kC cs)) = G8 at s68 hC8 nb8 ⊢
        have hb10 := hb9.up s68 nb8
        have hp3 := hp2.up s68
        have nCo := hp2.out nG_C
        walk_at "ss"
        refine ⟨f1, s1, s1.gen, C, cs, rfl, hp3.dU hb10, hI1.fl, up_get nb8 hC8, fun m => nCo (List.mem_append_left _ m), fun h => hI1.wr hch h (by omega) (by omega), fun f2 H' e fr nw h => ?_⟩
        obtain ⟨G9, rfl, hb11, m9, hp4⟩ := stepD hb10 hp3 e fr nw h
        clear hno hins
        walk_at "ss"
        refine k_disp1 ?_
        intro E9 nt_E9
        rw [upd_swap (up_none nt_E9).2]
        generalize eG_E9 : upd _ E9 _ = GA
        obtain ⟨nbA, smA, hEA, nt_E9, nG_E9⟩ := new_facts hb11.nb nt_E9 eG_E9
        clear eG_E9
        walk_at "ss"
        refine k_str1 (i := ((d + i : Nat) : Int)) (by omega) ?_
        refine ⟨up_get nbA hEA, [(.inr y, .str (numT (d + i)))], rfl, (by decide : 1 ≤ 15), ?_⟩
        rw [upd_swap nt_E9]
        show (tNil _ (upd (upd GA E9 (.dK (kC [(y, some (numT (d + i)))]))) b β7) _)
        have s9B : Same G9 (upd GA E9 (.dK (kC [(y, some (numT (d + i)))]))) := same_put smA nG_E9
        have hEB : upd GA E9 (.dK (kC [(y, some (numT (d + i)))])) E9 = some (.dK (kC [(y, some (numT (d + i)))])) := upd_same
        have nbB : upd GA E9 (.dK (kC [(y, some (numT (d + i)))])) b = none := by rw [upd_ne (Ne.symm nt_E9)]; exact nbA
        rw [← ecs] at s9B hEB nbB ⊢
        generalize upd GA E9 (.dK (kC cs)) = GB at s9B hEB nbB ⊢
        have hb12 := hb11.up s9B nbB
        have hp5 := hp4.up s9B
        have nEo := hp4.out nG_E9
        walk_at "ss"
        refine ⟨g1, s1, E9, cs, rfl, hp5.oU hb12, up_get nbB hEB, fun m => nEo (List.mem_append_right _ m), hch, by have := hI1.ul; omega, by have := hI1.tab.len; omega, fun h => hI1.wr hch h (by omega) (by omega), fun g2 H' n' ev fr nw h => ?_⟩
        obtain ⟨GC, rfl, hb13, m13, hp6⟩ := stepOw hb12 hp5 ev fr nw h
        have hI2 := (hI1.write hch (by omega)).upn (m := i + 1) (v := 215 * (i + 1)) (Nat.le_refl _) (by omega)
        have e2a : f2.a = f1.a := e
        have e2o : g2.o = g1.o := OF.o_v ev
        walk_at "ss"
        by_cases hk : m - 2 ≤ (i : Int)
        · rw [if_pos (decide_eq_true hk)]
          walk_at "ss"
          refine ⟨f2, g2, _, by rw [e2a, e2o]; rfl, hp6.dU hb13, hp6.oU hb13, hI2.sml (by omega), fun H' sH => ?_⟩
          obtain ⟨GD, nbD, sCD, rfl⟩ := split_up hb13.nb sH
          walk_at "ss"
          exact ⟨f2, g2, _, GD, β7, _, _, by rw [e2a, e2o]; rfl, e2a.trans efa, e2o.trans ego, rfl, hb13.up sCD nbD, hp6.up sCD, hI2⟩
        · rw [if_neg (by rw [decide_eq_false hk]; decide)]
          walk_at "ss"
          exact ⟨f2, g2, _, GC, β7, _, _, by rw [e2a, e2o]; rfl, e2a.trans efa, e2o.trans ego, rfl, hb13, hp6, hI2⟩
      · rintro σ H' ⟨f1, g1, s1, G5, β5, u1, u2, rfl, efa, ego, rfl, hb7, hp1, hI1⟩
        walk_at "ss"
        exact k G5 β5 hb7
end

section
open TL
variable {K : PySem.W.Frag} {mg : Str → Option Value}
/-! ### the pairs of the law -/
structure Pz where
  t : Addr
  f : DF
  g : OF
  s : DS
def Pz.k (z : Pz) : Addr × Addr × Addr := (z.t, z.f.a, z.g.o)
def Pz.A (p q : Pz) : Prop := Apart p.f p.g q.f q.g ∧ Apart q.f q.g p.f p.g
structure Ps (T : Tx K mg) (G0 G : Hp) (L : Addr) (ps : List Pz) (n u : Nat) : Prop where
  at_ : G L = some (.lst (ps.map fun z => V.ref z.t))
  tp : ∀ z ∈ ps, G z.t = some (.tup [.ref z.f.a, .ref z.g.o])
  pr : ∀ z ∈ ps, Pr T G0 G z.f z.g z.s z.s
  i : ∀ z ∈ ps, Inv z.s n u
  ap : ps.Pairwise Pz.A
  nL : ∀ z ∈ ps, L ∉ z.f.l ++ z.g.l
  zL : G0 L = none
theorem Ps.up {T : Tx K mg} {G0 G G' : Hp} {L : Addr} {ps : List Pz} {n u : Nat} (h : Ps T G0 G L ps n u) (e : Same G G') : Ps T G0 G' L ps n u := ⟨e _ _ h.at_, fun z hz => e _ _ (h.tp z hz), fun z hz => (h.pr z hz).up e, h.i, h.ap, h.nL, h.zL⟩
theorem Ps.deed {T : Tx K mg} {G0 G G' : Hp} {L : Addr} {ps : List Pz} {n u m v : Nat} {z : Pz} {f' : DF} {g' : OF} {s' : DS} (h : Ps T G0 G L ps n u) (hz : z ∈ ps) (mv : Mv G z.f z.g G' f' g') (hp : Pr T G0 G' f' g' s' s') (hI : Inv s' m v) (hm : n ≤ m) (hv : u ≤ v) :
    ∃ ps' : List Pz, ps'.map Pz.k = ps.map Pz.k ∧ (⟨z.t, f', g', s'⟩ : Pz) ∈ ps' ∧ Ps T G0 G' L ps' m v := by
  obtain ⟨l1, l2, rfl⟩ := List.append_of_mem hz
  have hzp := h.pr z hz
  obtain ⟨a1, a2, a3⟩ := List.pairwise_append.mp h.ap
  obtain ⟨a4, a5⟩ := List.pairwise_cons.mp a2
  have ho : g'.o = z.g.o := OF.o_v mv.gv
  have nt : ∀ {x : Addr} {xs : List V}, G x = some (.tup xs) → G' x = some (.tup xs) := fun {x xs} e => mv.fr x _ e fun q => by
    rcases List.mem_append.mp q with q | q
    · obtain ⟨o, h1, h2⟩ := hzp.d.live x q
      rw [e] at h1
      cases h1
      exact h2 _ rfl
    · obtain ⟨o, h1, h2⟩ := hzp.o.live x (OF.v_l q)
      rw [e] at h1
      cases h1
      exact h2 _ rfl
  have A1 : ∀ y ∈ l1, Pz.A y z := fun y hy => a3 y hy z List.mem_cons_self
  have A2 : ∀ y ∈ l2, Pz.A y z := fun y hy => (a4 y hy).symm
  have two : ∀ y, y ∈ l1 ∨ y ∈ l2 → y ∈ l1 ++ z :: l2 ∧ Pz.A y z := fun y hy => hy.elim (fun q => ⟨List.mem_append_left _ q, A1 y q⟩) fun q => ⟨List.mem_append_right _ (List.mem_cons_of_mem _ q), A2 y q⟩
  have mem : ∀ y ∈ l1 ++ (⟨z.t, f', g', s'⟩ : Pz) :: l2, y = ⟨z.t, f', g', s'⟩ ∨ y ∈ l1 ∨ y ∈ l2 := fun y hy => by
    rcases List.mem_append.mp hy with q | q
    · exact .inr (.inl q)
    · rcases List.mem_cons.mp q with q | q
      · exact .inl q
      · exact .inr (.inr q)
  have nA : ∀ y, y ∈ l1 ∨ y ∈ l2 → Pz.A y ⟨z.t, f', g', s'⟩ := fun y hy => by
    obtain ⟨hm, b1, b2⟩ := two y hy
    exact ⟨Apart.r (h.pr y hm) b1 mv, Apart.l (h.pr y hm) b2 mv⟩
  refine ⟨l1 ++ (⟨z.t, f', g', s'⟩ : Pz) :: l2, ?_, List.mem_append_right _ List.mem_cons_self, ?_, fun y hy => ?_, fun y hy => ?_, fun y hy => ?_, ?_, fun y hy => ?_, h.zL⟩
  · rw [List.map_append, List.map_append, List.map_cons, List.map_cons]
    unfold Pz.k
    rw [mv.fa, ho]
  · have hL := mv.get h.at_ (h.nL z hz)
    rw [hL, List.map_append, List.map_append]
    rfl
  · rcases mem y hy with rfl | hy
    · show G' z.t = some (.tup [.ref f'.a, .ref g'.o])
      rw [mv.fa, ho]
      exact nt (h.tp z hz)
    · exact nt (h.tp y (two y hy).1)
  · rcases mem y hy with rfl | hy
    · exact hp
    · obtain ⟨hm, b1, b2⟩ := two y hy
      exact (h.pr y hm).keep hzp b2 mv
  · rcases mem y hy with rfl | hy
    · exact hI
    · exact (h.i y (two y hy).1).upn hm hv
  · refine List.pairwise_append.mpr ⟨a1, List.pairwise_cons.mpr ⟨fun y hy => (nA y (.inr hy)).symm, a5⟩, fun x hx y hy => ?_⟩
    rcases List.mem_cons.mp hy with rfl | hy
    · exact nA x (.inl hx)
    · exact a3 x hx y (List.mem_cons_of_mem _ hy)
  · rcases mem y hy with rfl | hy
    · exact mv.out h.at_ (h.nL z hz)
    · exact h.nL y (two y hy).1
/-- a copy of both beside them -/
theorem Ps.push {T : Tx K mg} {G0 G G1 G2 G3 : Hp} {L t : Addr} {p : Pz} {n u : Nat} {f2 : DF} {g2 : OF} (h : Ps T G0 G L [p] n u) (sG : Same G0 G) (hf : ∀ x ∈ f2.l, G x = none) (s1 : Same G G1) (hD : DiskAt T G1 f2 p.s) (hop : g2.op = p.g.op) (hg : ∀ x ∈ g2.v, G1 x = none) (s2 : Same G1 G2) (hO : OwnAt G2 g2 p.s)
    (ht : G3 t = some (.tup [.ref f2.a, .ref g2.o])) (s3 : Same G2 G3) : Ps T G0 (upd G3 L (.lst [.ref p.t, .ref t])) L [p, ⟨t, f2, g2, p.s⟩] n u := by
  have s03 := (s1.trans s2).trans s3
  have hp := h.pr p (List.mem_singleton.mpr rfl)
  have hI := h.i p (List.mem_singleton.mpr rfl)
  have nL := h.nL p (List.mem_singleton.mpr rfl)
  have htp := h.tp p (List.mem_singleton.mpr rfl)
  have g2l : ∀ x ∈ g2.l, x ∈ g2.v ∨ x = p.g.op := fun x hx => by
    unfold OF.l at hx
    unfold OF.v
    simp only [List.mem_cons, List.not_mem_nil, or_false] at hx ⊢
    rcases hx with q | q | q | q | q | q
    · exact .inl (.inl q)
    · exact .inl (.inr (.inl q))
    · exact .inl (.inr (.inr (.inl q)))
    · exact .inl (.inr (.inr (.inr (.inl q))))
    · exact .inl (.inr (.inr (.inr (.inr q))))
    · exact .inr (q.trans hop)
  have opl : p.g.op ∈ p.g.l := by simp [OF.l]
  have opv : p.g.op ∉ p.g.v := by
    obtain ⟨_, _, _, hB⟩ := hp.o.b
    obtain ⟨n1, n2, n3, n4, n5, n6, n7, n8, n9, n10, n11, n12, n13, n14, n15⟩ := OF.nds hB.nd
    unfold OF.v
    simp only [List.mem_cons, List.not_mem_nil, or_false, not_or]
    exact ⟨Ne.symm n5, Ne.symm n9, Ne.symm n12, Ne.symm n14, Ne.symm n15⟩
  have gnew : ∀ x ∈ g2.v, G x = none := fun x hx => s_none s1 (hg x hx)
  have live : ∀ {x : Addr}, x ∈ p.f.l ++ p.g.l → ∃ o, G x = some o := fun {x} hx => (List.mem_append.mp hx).elim (hp.lf x) (hp.lg x)
  have no : ∀ {x : Addr}, G x = none → x ∉ p.f.l ++ p.g.l := fun {x} e m => by
    obtain ⟨o, q⟩ := live m
    rw [e] at q
    cases q
  have vl : ∀ {x : Addr}, x ∈ p.f.l ++ p.g.v → x ∈ p.f.l ++ p.g.l := fun {x} hx => (List.mem_append.mp hx).elim (List.mem_append_left _) fun q => List.mem_append_right _ (OF.v_l q)
  have hLG := h.at_
  have nLf : L ∉ f2.l ++ g2.l := fun m => by
    rcases List.mem_append.mp m with m | m
    · rw [hf L m] at hLG; cases hLG
    · rcases g2l L m with m | m
      · rw [gnew L m] at hLG; cases hLG
      · exact nL (List.mem_append_right _ (m ▸ opl))
  have pr2 : Pr T G0 G3 f2 g2 p.s p.s := by
    refine ⟨hD.up (s2.trans s3), hO.up s3, fun x hx m => ?_, fun x hx => ?_⟩
    · rcases g2l x m with m | m
      · obtain ⟨o, e, _⟩ := hD.live x hx
        rw [hg x m] at e
        cases e
      · have := hf x hx
        rw [m] at this
        exact no this (List.mem_append_right _ opl)
    · rcases List.mem_append.mp hx with hx | hx
      · exact s_none sG (hf x hx)
      · rcases g2l x hx with m | m
        · exact s_none sG (gnew x m)
        · rw [m]; exact hp.z _ (List.mem_append_right _ opl)
  have hL3 := s03 _ _ hLG
  have ntL : ∀ xs, G3 L ≠ some (.tup xs) := fun xs q => by rw [hL3] at q; cases q
  have tL : ∀ {x : Addr} {xs : List V}, G3 x = some (.tup xs) → upd G3 L (.lst [.ref p.t, .ref t]) x = some (.tup xs) := fun {x xs} e => (upd_ne fun q => by rw [q, hL3] at e; cases e).trans e
  have mem : ∀ y ∈ [p, (⟨t, f2, g2, p.s⟩ : Pz)], y = p ∨ y = ⟨t, f2, g2, p.s⟩ := fun y hy => by simpa using hy
  refine ⟨upd_same, fun y hy => ?_, fun y hy => ?_, fun y hy => ?_, List.pairwise_pair.mpr ⟨fun x hx q => ?_, fun x hx q => ?_⟩, fun y hy => ?_, h.zL⟩
  · rcases mem y hy with rfl | rfl
    · exact tL (s03 _ _ htp)
    · exact tL ht
  · rcases mem y hy with rfl | rfl
    · exact (hp.up s03).put nL ntL
    · exact pr2.put nLf ntL
  · rcases mem y hy with rfl | rfl <;> exact hI
  · rcases List.mem_append.mp hx with hx | hx
    · exact no (hf x hx) (vl q)
    · rcases g2l x hx with m | m
      · exact no (gnew x m) (vl q)
      · rw [m] at q
        rcases List.mem_append.mp q with q | q
        · exact hp.dis _ q opl
        · exact opv q
  · rcases List.mem_append.mp q with q | q
    · exact no (hf x q) hx
    · exact no (gnew x q) hx
  · rcases mem y hy with rfl | rfl
    · exact nL
    · exact nLf
end

section
open LamX
variable {w : World} {K : PySem.W.Frag} {mg : Str → Option Value} {base : Heap}
/-! ### the law -/
def spLaw (T : Tx K mg) : Sp := fun vs H Q _ => ∃ (a : Addr) (ns : List Int), vs = [.ref a] ∧ SqL K H a (ns.map V.int) ∧ Tabs (TL_ T) H ∧ ∀ H', Q (.bl true) H'
theorem ok_law (T : Tx K mg) (TB_size_so : TabB base mg T.cda_size_so T.tb_size_so) : FnOk P w K mg base CX0 16 T.a_law T.fd_law P_law (spLaw T) := by
  refine T.F_law.ok sc_law (fun vs H Q E h => ?_) (fun cdv A outer s H vs Q E hr h => ?_)
  · obtain ⟨a, ns, rfl, _⟩ := h
    rfl
  · obtain ⟨a, ns, rfl, ha, hT, k⟩ := h
    have nd := sc_law.nd
    obtain ⟨ds1, dvp1, bsp1⟩ := bindD1 T
    obtain ⟨mv0, kbp0⟩ := kbindD0 T
    refine ⟨_, (pss_cons (ks_setL (i := 1) nd l_law_law_bag_here (pe_call (ok_bag T) (hr.mono (by first | decide | omega)) g_law_law_bag T.m_bag T.k_bag T.b_bag .nil pass0 (pa_cons (kv (i := 0) v_law_law_script) pa_nil)))
      (pss_cons (ps_par (i := 2) (j := 3) rfl nd rfl rfl (by decide) (locB_ok l_law_law_shelf_here) (locB_ok l_law_law_most_here) (pa_cons (pe_call (ok_shelf T) (hr.mono (by first | decide | omega)) g_law_law_shelf T.m_shelf T.k_shelf T.b_shelf .nil pass0 (pa_cons (kv (i := 1) v_law_law_bag_here) pa_nil)) (pa_cons (pe_call (ok_of T) (hr.mono (by first | decide | omega)) g_law_law_of T.m_of T.k_of T.b_of .nil pass0 (pa_cons (kv (i := 1) v_law_law_bag_here) (pa_cons (pe_lst (pa_cons (pe_call (ok_most T) (hr.mono (by first | decide | omega)) g_law_law_most T.m_most T.k_most T.b_most .nil pass0 (pa_cons (kv (i := 1) v_law_law_bag_here) pa_nil)) (pa_cons pe_int pa_nil))) pa_nil))) pa_nil)) (by rfl))
      (pss_cons (ks_setL (i := 4) nd l_law_law_given (pe_call (ok_copy T) (hr.mono (by first | decide | omega)) g_law_law_copy T.m_copy T.k_copy T.b_copy .nil pass0 (pa_cons (kv (i := 2) v_law_law_shelf_here) pa_nil)))
      (pss_cons (ks_setL (i := 5) nd l_law_law_disk (pe_ifExp (pt_cmpR op_eq (kv (i := 3) v_law_law_most_here) pe_int (nomark _)) (pe_make T.mk_Disk (ok_Disk_init T) (hr.mono (by first | decide | omega)) g_law_Disk T.m_Disk bsp1 dvp1 passE (pa_cons (kv (i := 4) v_law_law_given) pa_nil)) (pe_makeK0 T.mk_Disk (ok_Disk_init T) (hr.mono (by first | decide | omega)) g_law_Disk T.m_Disk kbp0 passE (pk_cons (kv (i := 3) v_law_law_most_here) (pk_cons (kv (i := 4) v_law_law_given) pk_nil)))))
      (pss_cons (ks_setL (i := 6) nd l_law_law_own (pe_call (ok_new T) (hr.mono (by first | decide | omega)) g_law_law_new T.m_new T.k_new T.b_new .nil pass0 (pa_cons (kv (i := 2) v_law_law_shelf_here) (pa_cons (kv (i := 3) v_law_law_most_here) pa_nil))))
      (pss_cons (ps_asg pe_str (pg_sub (kv (i := 4) v_law_law_given) pe_str (set_dict (hu_of hr))))
      (pss_cons (ps_if (pt_not (pt_val (pe_call (ok_disk_so T) (hr.mono (by first | decide | omega)) g_law_law_disk_so T.m_disk_so T.k_disk_so T.b_disk_so .nil pass0 (pa_cons (kv (i := 5) v_law_law_disk) (pa_cons (kv (i := 6) v_law_law_own) pa_nil))))) (pss_one (ps_ret pe_bl)) pss_nil)
      (pss_cons (ks_setL (i := 7) nd l_law_law_pair (pe_lst (pa_cons (pe_tup (pa_cons (kv (i := 5) v_law_law_disk) (pa_cons (kv (i := 6) v_law_law_own) pa_nil))) pa_nil)))
      (pss_cons (ps_for PassesOwn.never rfl (pi_range1 g_law_range T.n_range (pa_cons (pe_call (ok_of T) (hr.mono (by first | decide | omega)) g_law_law_of T.m_of T.k_of T.b_of .nil pass0 (pa_cons (kv (i := 1) v_law_law_bag_here) (pa_cons (pe_lst (pa_cons pe_int (pa_cons pe_int (pa_cons pe_int pa_nil)))) pa_nil))) pa_nil)) (kgL (i := 8) nd l_law_law_k) (kss_meet (ps_if (PW.pt (pw_and (pt_cmpR op_eq (kcB b_len (by decide) (by decide) (kc_len K) g_law_len T.n_len (pa_cons (kv (i := 7) v_law_law_pair) pa_nil)) pe_int (nomark _)) (pw_and1 (pt_cmpR op_eq (pe_call (ok_draw T) (hr.mono (by first | decide | omega)) g_law_law_draw T.m_draw T.k_draw T.b_draw .nil pass0 (pa_cons (kv (i := 1) v_law_law_bag_here) (pa_cons pe_int pa_nil))) pe_int (nomark _))))) (pss_one (ps_expr (pe_bm PySem.F.plainAttrs_list PySem.F.slot_list_append PySem.F.type_list_append mt_append (kv (i := 7) v_law_law_pair) (pa_cons (pe_tup (pa_cons (kpe_methP0 (disp1 T.cl_Disk T.me_Disk_copy (ok_Disk_copy T) T.b_Disk_copy) (hr.mono (by first | decide | omega)) pass0 (kv (i := 5) v_law_law_disk)) (pa_cons (pe_call (ok_twin T) (hr.mono (by first | decide | omega)) g_law_law_twin T.m_twin T.k_twin T.b_twin .nil pass0 (pa_cons (kv (i := 6) v_law_law_own) pa_nil)) pa_nil))) pa_nil)))) pss_nil)
      (pss_cons (ks_setL (i := 9) nd l_law_law_one (pe_call (ok_of T) (hr.mono (by first | decide | omega)) g_law_law_of T.m_of T.k_of T.b_of .nil pass0 (pa_cons (kv (i := 1) v_law_law_bag_here) (pa_cons (kv (i := 7) v_law_law_pair) pa_nil))))
      (pss_cons (ps_if (pt_not (pt_val (pe_call (ok_deed T) (hr.mono (by first | decide | omega)) g_law_law_deed T.m_deed T.k_deed T.b_deed .nil pass0 (pa_cons (kv (i := 1) v_law_law_bag_here) (pa_cons (pe_ix (kix K) (kv (i := 9) v_law_law_one) pe_int (fun _ _ => rfl)) (pa_cons (pe_ix (kix K) (kv (i := 9) v_law_law_one) pe_int (fun _ _ => rfl)) pa_nil)))))) (pss_one (ps_ret pe_bl)) pss_nil)
      (pss_one (ps_if (PW.pt (pw_and (pt_cmpR op_eq (pe_call (ok_draw T) (hr.mono (by first | decide | omega)) g_law_law_draw T.m_draw T.k_draw T.b_draw .nil pass0 (pa_cons (kv (i := 1) v_law_law_bag_here) (pa_cons pe_int pa_nil))) pe_int (nomark _)) (pw_and1 (pt_not (pt_val (pe_call (ok_disk_so T) (hr.mono (by first | decide | omega)) g_law_law_disk_so T.m_disk_so T.k_disk_so T.b_disk_so .nil pass0 (pa_cons (pe_ix (kix K) (kv (i := 9) v_law_law_one) pe_int (fun _ _ => rfl)) (pa_cons (pe_ix (kix K) (kv (i := 9) v_law_law_one) pe_int (fun _ _ => rfl)) pa_nil)))))))) (pss_one (ps_ret pe_bl)) pss_nil))))))
      (pss_cons (ps_for PassesOwn.never rfl (kpi_list K (kv (i := 7) v_law_law_pair)) (kgL (i := 9) nd l_law_law_one) (pss_one (ps_if (PW.pt (pw_or (pt_not (pt_val (pe_call (ok_disk_so T) (hr.mono (by first | decide | omega)) g_law_law_disk_so T.m_disk_so T.k_disk_so T.b_disk_so .nil pass0 (pa_cons (pe_ix (kix K) (kv (i := 9) v_law_law_one) pe_int (fun _ _ => rfl)) (pa_cons (pe_ix (kix K) (kv (i := 9) v_law_law_one) pe_int (fun _ _ => rfl)) pa_nil))))) (pw_or1 (pt_not (pt_val (pe_call (ok_spoilt_so T) (hr.mono (by first | decide | omega)) g_law_law_spoilt_so T.m_spoilt_so T.k_spoilt_so T.b_spoilt_so .nil pass0 (pa_cons (pe_ix (kix K) (kv (i := 9) v_law_law_one) pe_int (fun _ _ => rfl)) (pa_cons (pe_ix (kix K) (kv (i := 9) v_law_law_one) pe_int (fun _ _ => rfl)) pa_nil)))))))) (pss_one (ps_ret pe_bl)) pss_nil)))
      (pss_one (ps_ret (pe_and (pe_call (ok_full_so T) (hr.mono (by first | decide | omega)) g_law_law_full_so T.m_full_so T.k_full_so T.b_full_so .nil pass0 (pa_cons (kv (i := 1) v_law_law_bag_here) pa_nil)) (pe_and (pe_call (ok_size_so T TB_size_so) (hr.mono (by first | decide | omega)) g_law_law_size_so T.m_size_so T.k_size_so T.b_size_so .nil pass0 (pa_cons (kv (i := 1) v_law_law_bag_here) pa_nil)) (pe_one (pe_call (ok_like T) (hr.mono (by first | decide | omega)) g_law_law_like T.m_like T.k_like T.b_like .nil pass0 (pa_cons (kpe_cval K (kcls g_law_Disk T.m_Disk)) (pa_cons pe_int pa_nil)))))))))))))))))), ?_⟩
    walk_at "ss"
    refine ⟨a, ns, rfl, ha, fun b G β sG hb => ?_⟩
    have tabs : ∀ {G' : Hp} {β' : HO}, Bag K G G' b β' → Tabs (TL_ T) (upd G' b β') := fun {G' β'} h => hT.ext (sG.trans (h.sm.trans (up_same h.nb)))
    walk_at "ss"
    refine ⟨G, G, b, β, rfl, rfl, hb, fun SH tb G1 β1 s1 hb1 nSH hSH htb => ?_⟩
    walk_at "ss"
    refine ⟨G, G1, b, β1, rfl, rfl, hb1, fun mm G2 β2 s2 hb2 mm0 mm1 => ?_⟩
    walk_at "ss"
    intro l3 nt_l3
    rw [upd_swap (up_none nt_l3).2]
    generalize eG_l3 : upd _ l3 _ = G3
    obtain ⟨nb3, sm3, hl3, nt_l3, nG_l3⟩ := new_facts hb2.nb nt_l3 eG_l3
    clear eG_l3
    have hb3 := hb2.up sm3 nb3
    walk_at "ss"
    refine k_of hb3 (SqL.of hl3) (by simp) (by simp) fun v β3 hv hb4 => ?_
    obtain ⟨m, rfl, hm0, hm1⟩ : ∃ m : Int, v = V.int m ∧ 1 ≤ m ∧ m ≤ 64 := by
      simp only [List.mem_cons, List.not_mem_nil, or_false] at hv
      rcases hv with rfl | rfl
      · exact ⟨mm, rfl, mm0, mm1⟩
      · exact ⟨16, rfl, by decide, by decide⟩
    clear hv
    have hSH3 := sm3 _ _ (s2 _ _ hSH)
    have nb4 := hb4.nb
    walk_at "ss"
    refine ⟨SH, kT tb, rfl, up_get hb4.nb hSH3, kT_nd htb, by unfold kT; rw [List.length_map]; have := htb.len; omega, fun C H4 nC s4 hC => ?_⟩
    obtain ⟨nC3, nCb⟩ := up_none nC
    obtain ⟨G4, nb4, s34, rfl⟩ := split_up hb4.nb s4
    have hb5 := hb4.up s34 nb4
    have hC4 := off_bag (hb5.noD _) hC
    have hSH4 := s34 _ _ hSH3
    have nCG : G C = none := g_none hb4.sm nC3
    refine k_gName ?_
    dsimp only
    refine k_seq ?_
    refine k_asg ?_
    refine k_via (fun v H' => ∃ (f : DF) (G5 : Hp), v = .ref f.a ∧ H' = upd G5 b β3 ∧ Same G4 G5 ∧ Bag K G G5 b β3 ∧ DiskAt T G5 f (DS.newD m tb) ∧ ∀ x ∈ f.l, G4 x = none) (fun Q0 hq => ?_) ?_
    · have core : ∀ (f : DF) (H' : Hp), (∀ x ∈ f.l, upd G4 b β3 x = none) → Same (upd G4 b β3) H' → DiskAt T H' f (DS.newD m tb) → Q0 (.ref f.a) H' := fun f H' hn sm hd => by
        obtain ⟨hn1, nbf⟩ := up_nones hn
        obtain ⟨G5, nb5, s45, rfl⟩ := split_up hb5.nb sm
        have hb6 := hb5.up s45 nb5
        exact hq _ _ ⟨f, G5, rfl, rfl, s45, hb6, DiskAt.dn hb6 hd nbf, hn1⟩
      walk_at "ss"
      by_cases h16 : m = 16
      · rw [if_pos (decide_eq_true h16)]
        refine k_make ?_
        walk_at "ss"
        subst h16
        show ∀ x dx, _ → _ → _ → spInit T [V.ref x, V.ref C, V.int 16] _ _ _
        exact k_mkD (T := T) (tb := tb) hC htb (by decide) (by decide) fun f H' hn sm hd => core f H' hn sm hd
      · rw [if_neg (by rw [decide_eq_false h16]; decide)]
        refine k_makeK ?_
        walk_at "ss"
        refine ⟨rfl, rfl, ?_⟩
        show ∀ x dx, _ → _ → _ → spInit T [V.ref x, V.ref C, V.int m] _ _ _
        exact k_mkD (T := T) (tb := tb) hC htb hm0 hm1 fun f H' hn sm hd => core f H' hn sm hd
    · rintro _ _ ⟨f, G5, rfl, rfl, s45, hb6, hD5, hnf⟩
      have hSH5 := s45 _ _ hSH4
      have hC5 := s45 _ _ hC4
      walk_at "ss"
      refine ⟨SH, tb, m, rfl, up_get hb6.nb hSH5, htb, fun g H' hn sg hO => ?_⟩
      obtain ⟨hn1, nbg⟩ := up_nones hn
      obtain ⟨G6, nb6, s56, rfl⟩ := split_up hb6.nb sg
      have hb7 := hb6.up s56 nb6
      have hp6 : Pr T G G6 f g (DS.newD m tb) (DS.newD m tb) := newPr (G := G4) hb5.sm hnf s45 hD5 hn1 s56 (OwnAt.dn hb7 hO nbg)
      have hI := Inv.new htb hm0 hm1
      have hC6 := s56 _ _ hC5
      have nCo : C ∉ f.l ++ g.l := fun q => by
        rcases List.mem_append.mp q with q | q
        · rw [hnf C q] at hC4; cases hC4
        · rw [hn1 C q] at hC5; cases hC5
      walk_at "ss"
      refine k_setD (DPut.k (k := .inr "late") (up_get hb7.nb hC6) (small_lt (by unfold kT; rw [List.length_map]; have := htb.len; omega))) ?_
      rw [upd_swap nCb]
      have hb8 : Bag K G (upd G6 C (.dK (putK (kT tb) (.inr "late") (.str "1")))) b β3 := hb7.up0 (same_put hb7.sm nCG) (by rw [upd_ne (Ne.symm nCb)]; exact nb6)
      have hp7 := hp6.put (o := .dK (putK (kT tb) (.inr "late") (.str "1"))) nCo fun xs q => by rw [hC6] at q; cases q
      generalize upd G6 C (.dK (putK (kT tb) (.inr "late") (.str "1"))) = G7 at hb8 hp7 ⊢
      walk_at "ss"
      refine ⟨f, g, _, rfl, hp7.dU hb8, hp7.oU hb8, hI.sml (by omega), fun H' s7 => ?_⟩
      obtain ⟨G8, nb8, s78, rfl⟩ := split_up hb8.nb s7
      have hb9 := hb8.up s78 nb8
      have hp8 := hp7.up s78
      walk_at "ss"
      intro t nt_t
      rw [upd_swap (up_none nt_t).2]
      generalize eG_t : upd _ t _ = G9
      obtain ⟨nb9, sm9, ht9, nt_t, nG_t⟩ := new_facts nb8 nt_t eG_t
      clear eG_t
      walk_at "ss"
      intro L nt_L
      rw [upd_swap (up_none nt_L).2]
      generalize eG_L : upd _ L _ = GA
      obtain ⟨nbA, smA, hLA, nt_L, nG_L⟩ := new_facts nb9 nt_L eG_L
      clear eG_L
      have htA := smA _ _ ht9
      have s8A := sm9.trans smA
      have hbA := hb9.up s8A nbA
      have hpA := hp8.up s8A
      walk_at "ss"
      intro ln nt_ln
      rw [upd_swap (up_none nt_ln).2]
      generalize eG_ln : upd _ ln _ = GB
      obtain ⟨nbB, smB, hln, nt_ln, nG_ln⟩ := new_facts nbA nt_ln eG_ln
      clear eG_ln
      have hbB := hbA.up smB nbB
      walk_at "ss"
      refine k_of hbB (SqL.of hln) (by simp) (by simp) fun v βC hv hbC => ?_
      obtain ⟨N, rfl, hN⟩ : ∃ N : Nat, v = V.int (N : Nat) ∧ N ≤ 24 := by
        simp only [List.mem_cons, List.not_mem_nil, or_false] at hv
        rcases hv with rfl | rfl | rfl
        · exact ⟨8, rfl, by decide⟩
        · exact ⟨14, rfl, by decide⟩
        · exact ⟨24, rfl, by decide⟩
      clear hv
      have hP0 : Ps T G GB L [⟨t, f, g, DS.newD m tb⟩] 0 (215 * 0) := by
        refine ⟨smB _ _ hLA, fun z hz => ?_, fun z hz => ?_, fun z hz => ?_, List.pairwise_singleton _ _, fun z hz => ?_, g_none (hb9.sm.trans sm9) nG_L⟩ <;> rw [List.mem_singleton.mp hz]
        · exact smB _ _ htA
        · exact hpA.up smB
        · exact hI
        · exact (hp8.up sm9).out nG_L
      walk_at "ss"
      refine k_r1 ⟨by omega, by omega⟩ ?_
      refine k_forRange (n := ((N : Nat) : Int).toNat) (fun i σ H' => ∃ (p : Pz) (rest : List Pz) (G' : Hp) (β' : HO) (u8 u9 : Option V), σ = [some (.ref a), some (.ref b), some (.ref SH), some (.int m), some (.ref C), some (.ref p.f.a), some (.ref p.g.o), some (.ref L), u8, u9] ∧ H' = upd G' b β' ∧ Bag K G G' b β' ∧ Ps T G G' L (p :: rest) i (215 * i) ∧ rest.length ≤ 1 ∧ p.f.a = f.a ∧ p.g.o = g.o)
        ⟨_, [], GB, βC, _, _, rfl, rfl, hbC, hP0, Nat.zero_le _, rfl, rfl⟩ ?_ ?_
      · rintro i σ H' hi ⟨p, rest, G', β', u8, u9, rfl, rfl, hb', hP, hrl, epf, epg⟩
        have hiN : i < 24 := by have : i < N := hi; omega
        refine k_gName ?_
        dsimp only
        refine k_meet (fun σ H' => ∃ (p : Pz) (rest : List Pz) (G' : Hp) (β' : HO) (u8 u9 : Option V), σ = [some (.ref a), some (.ref b), some (.ref SH), some (.int m), some (.ref C), some (.ref p.f.a), some (.ref p.g.o), some (.ref L), u8, u9] ∧ H' = upd G' b β' ∧ Bag K G G' b β' ∧ Ps T G G' L (p :: rest) i (215 * i) ∧ rest.length ≤ 1 ∧ p.f.a = f.a ∧ p.g.o = g.o) ?_ ?_
        · walk_at "ss"
          refine k_lenL (SqL.of (up_get hb'.nb hP.at_)) ?_
          walk_at "ss"
          rw [List.length_map]
          cases rest with
          | cons p2 rest =>
            rw [if_neg (by rw [decide_eq_false (by rw [List.length_cons, List.length_cons]; omega)]; decide)]
            walk_at "ss"
            exact ⟨p, p2 :: rest, G', β', _, _, rfl, rfl, hb', hP, hrl, epf, epg⟩
          | nil =>
            rw [if_pos (decide_eq_true (by rfl))]
            walk_at "ss"
            refine k_draw hb' (by decide) (by decide) fun d β2 d0 d1 hb2 => ?_
            walk_at "ss"
            by_cases hd0 : d = 0
            · rw [if_pos (decide_eq_true hd0)]
              have hpr := hP.pr p List.mem_cons_self
              have hIp := hP.i p List.mem_cons_self
              have hSm := hIp.sml (by omega)
              obtain ⟨dx, fs, hins, hno⟩ := hpr.d.at_.ins
              have hLu := up_get (β := β2) hb2.nb hP.at_
              have hinsu := up_get (β := β2) hb2.nb hins
              walk_at "ss"
              refine k_bm ?_
              walk_at "ss"
              refine ⟨.inl ⟨rfl, _, SqL.of hLu⟩, ?_⟩
              walk_at "ss"
              refine k_meth ?_
              walk_at "ss"
              refine ⟨p.f.a, _, _, _, _, rfl, hinsu, ⟨rfl, rfl⟩, hno _ (by decide +kernel), ?_⟩
              walk_at "ss"
              refine ⟨p.f, p.s, rfl, hpr.dU hb2, hIp.tab, hIp.m1, hIp.m2, fun f2 H' hn2 s2' hD2 => ?_⟩
              obtain ⟨hn2, nbf2⟩ := up_nones hn2
              obtain ⟨G2', nb2', s2G, rfl⟩ := split_up hb2.nb s2'
              have hb3' := hb2.up s2G nb2'
              have hD2' := DiskAt.dn hb3' hD2 nbf2
              walk_at "ss"
              refine ⟨p.g, p.s, rfl, (hpr.up s2G).oU hb3', hSm, fun g2 H' hop hgn s3' hO3 => ?_⟩
              obtain ⟨hgn, nbg2⟩ := up_nones hgn
              obtain ⟨G3', nb3', s3G, rfl⟩ := split_up hb3'.nb s3'
              have hb4' := hb3'.up s3G nb3'
              have nbg3 : b ∉ g2.l := fun q => by
                have q2 : b ∈ g2.v ∨ b = g2.op := by
                  unfold OF.l at q
                  unfold OF.v
                  simp only [List.mem_cons, List.not_mem_nil, or_false] at q ⊢
                  rcases q with q | q | q | q | q | q
                  · exact .inl (.inl q)
                  · exact .inl (.inr (.inl q))
                  · exact .inl (.inr (.inr (.inl q)))
                  · exact .inl (.inr (.inr (.inr (.inl q))))
                  · exact .inl (.inr (.inr (.inr (.inr q))))
                  · exact .inr q
                rcases q2 with q2 | q2
                · exact nbg2 q2
                · refine not_b hb'.nb hpr.lg ?_
                  rw [q2, hop]
                  simp [OF.l]
              have hO3' := OwnAt.dn hb4' hO3 nbg3
              walk_at "ss"
              intro t2 nt_t2
              rw [upd_swap (up_none nt_t2).2]
              generalize eG_t2 : upd _ t2 _ = G4'
              obtain ⟨nb4', sm4', ht2, nt_t2, nG_t2⟩ := new_facts nb3' nt_t2 eG_t2
              clear eG_t2
              have s04 := (s2G.trans s3G).trans sm4'
              have hb5' := hb4'.up sm4' nb4'
              have hPn := hP.push hb'.sm hn2 s2G hD2' hop hgn s3G hO3' ht2 sm4'
              walk_at "ss"
              refine k_app (up_get nb4' (s04 _ _ hP.at_)) (show 1 < 100000 by decide) ?_
              rw [upd_swap nt_L]
              exact ⟨p, [⟨t2, f2, g2, p.s⟩], _, β2, _, _, rfl, rfl, hb5'.up0 (same_put hb5'.sm hP.zL) (by rw [upd_ne (Ne.symm nt_L)]; exact nb4'), hPn, Nat.le_refl _, epf, epg⟩
            · rw [if_neg (by rw [decide_eq_false hd0]; decide)]
              walk_at "ss"
              exact ⟨p, [], G', β2, _, _, rfl, rfl, hb2, hP, hrl, epf, epg⟩
        · rintro σ H' ⟨p, rest, G', β', u8, u9, rfl, rfl, hb', hP, hrl, epf, epg⟩
          walk_at "ss"
          refine k_of hb' (SqL.of hP.at_) (by simp) (by simp; omega) fun v β2 hv hb2 => ?_
          obtain ⟨z, hz, rfl⟩ := List.mem_map.mp hv
          have hzt := up_get (β := β2) hb2.nb (hP.tp z hz)
          walk_at "ss"
          refine ⟨G, G', b, β2, z.f, z.g, z.s, i, 215 * i, rfl, rfl, hb2, hP.pr z hz, hP.i z hz, by omega, by omega, fun f' g' s' G2' β3' hb3' mv hp' hI' => ?_⟩
          obtain ⟨ps', hk, hz', hP'⟩ := hP.deed hz mv hp' hI' (Nat.le_succ _) (by omega)
          have hP' : Ps T G G2' L ps' (i + 1) (215 * (i + 1)) := hP'
          obtain ⟨p', rest', rfl⟩ : ∃ p' rest', ps' = p' :: rest' := by
            cases ps' with
            | nil => cases hk
            | cons p' rest' => exact ⟨p', rest', rfl⟩
          rw [List.map_cons, List.map_cons] at hk
          have hk1 := (List.cons.inj hk).1
          have hk2 := congrArg List.length (List.cons.inj hk).2
          rw [List.length_map, List.length_map] at hk2
          unfold Pz.k at hk1
          have ea : p'.f.a = p.f.a := (Prod.mk.inj (Prod.mk.inj hk1).2).1
          have eo : p'.g.o = p.g.o := (Prod.mk.inj (Prod.mk.inj hk1).2).2
          have fin : ∀ (G3' : Hp) (β4' : HO) (u8' u9' : Option V), Same G2' G3' → Bag K G G3' b β4' → ∃ (p2 : Pz) (rest2 : List Pz) (G4' : Hp) (β5' : HO) (u8 u9 : Option V), [some (V.ref a), some (.ref b), some (.ref SH), some (.int m), some (.ref C), some (.ref p.f.a), some (.ref p.g.o), some (.ref L), u8', u9'] = [some (.ref a), some (.ref b), some (.ref SH), some (.int m), some (.ref C), some (.ref p2.f.a), some (.ref p2.g.o), some (.ref L), u8, u9] ∧ upd G3' b β4' = upd G4' b β5' ∧ Bag K G G4' b β5' ∧ Ps T G G4' L (p2 :: rest2) (i + 1) (215 * (i + 1)) ∧ rest2.length ≤ 1 ∧ p2.f.a = f.a ∧ p2.g.o = g.o := fun G3' β4' u8' u9' s3 hb4 => ⟨p', rest', G3', β4', u8', u9', by rw [ea, eo], rfl, hb4, hP'.up s3, by omega, ea.trans epf, eo.trans epg⟩
          have hzt2 : G2' z.t = some (.tup [.ref f'.a, .ref g'.o]) := hP'.tp _ hz'
          walk_at "ss"
          refine k_draw hb3' (by decide) (by decide) fun d β4' d0 d1 hb4' => ?_
          have hzt3 := up_get (β := β4') hb4'.nb hzt2
          walk_at "ss"
          by_cases hd0 : d = 0
          · rw [if_pos (decide_eq_true hd0)]
            walk_at "ss"
            refine ⟨f', g', s', rfl, hp'.dU hb4', hp'.oU hb4', hI'.sml (by omega), fun H' sH => ?_⟩
            obtain ⟨G3', nb3', s3G, rfl⟩ := split_up hb4'.nb sH
            walk_at "ss"
            exact fin G3' β4' _ _ s3G (hb4'.up s3G nb3')
          · rw [if_neg (by rw [decide_eq_false hd0]; decide)]
            walk_at "ss"
            exact fin G2' β4' _ _ (Same.refl _) hb4'
      · rintro σ H' ⟨p, rest, G', β', u8, u9, rfl, rfl, hb', hP, hrl, epf, epg⟩
        walk_at "ss"
        have hN24 : ((N : Nat) : Int).toNat ≤ 24 := by omega
        refine k_iL (SqL.of (up_get hb'.nb hP.at_)) ?_
        refine k_forList ((p :: rest).map fun z => V.ref z.t) (fun j σ H' => ∃ (G2 : Hp) (u8 u9 : Option V), σ = [some (.ref a), some (.ref b), some (.ref SH), some (.int m), some (.ref C), some (.ref p.f.a), some (.ref p.g.o), some (.ref L), u8, u9] ∧ H' = upd G2 b β' ∧ Bag K G G2 b β' ∧ Same G' G2) ⟨G', _, _, rfl, rfl, hb', Same.refl _⟩ (fun j σ H' _ h => by
          obtain ⟨G2, u8, u9, _, rfl, hb2, s2⟩ := h
          exact SqL.of (up_get hb2.nb (s2 _ _ hP.at_))) ?_ ?_
        · rintro j x σ H' hx ⟨G2, u8, u9, rfl, rfl, hb2, s2⟩
          obtain ⟨z, hz, rfl⟩ := List.mem_map.mp (List.mem_of_getElem? hx)
          have hP2 := hP.up s2
          have hpr := hP2.pr z hz
          have hSm := (hP2.i z hz).sml (by omega)
          have hzt := up_get (β := β') hb2.nb (hP2.tp z hz)
          walk_at "ss"
          refine ⟨z.f, z.g, z.s, rfl, hpr.dU hb2, hpr.oU hb2, hSm, fun H' sH => ?_⟩
          obtain ⟨G3, nb3, s23, rfl⟩ := split_up hb2.nb sH
          have hb3 := hb2.up s23 nb3
          have hpr3 := hpr.up s23
          have hzt3 := up_get (β := β') hb3.nb ((hP2.up s23).tp z hz)
          walk_at "ss"
          refine ⟨z.f, z.g, z.s, rfl, hpr3.dU hb3, hpr3.oU hb3, hSm, fun H' sH => ?_⟩
          obtain ⟨G4, nb4, s34, rfl⟩ := split_up hb3.nb sH
          walk_at "ss"
          exact ⟨G4, _, _, rfl, rfl, hb3.up s34 nb4, (s2.trans s23).trans s34⟩
        · rintro σ H' ⟨G2, u8, u9, rfl, rfl, hb2, s2⟩
          walk_at "ss"
          refine ⟨G, G2, b, β', rfl, rfl, hb2, fun G3 β3 hb3 => ?_⟩
          walk_at "ss"
          refine ⟨G, G3, b, β3, rfl, rfl, hb3, tabs hb3, fun H4 => ?_⟩
          walk_at "ss"
          obtain ⟨uc, hcv⟩ := T.cv_Disk_STRETCH
          refine ⟨T.C_Disk, _, _, uc, rfl, T.cr_Disk, hcv, ?_⟩
          walk_at "ss"
          exact k_like (Eqd.sc (.int _) 3) fun H5 _ => k H5
end

set_option maxHeartbeats 0 in
def tx_mk {K : PySem.W.Frag} {h : Heap} {mg : Str → Option Value} (X : K.In h) (G : h.Ns mainGlobals mg) {C_SureletError : Addr} {C_InvalidNumber : Addr} {C_Disk : Addr} {A_InvalidNumber_init : Addr} {oc_InvalidNumber_init kV_InvalidNumber_init doc_InvalidNumber_init pm_InvalidNumber_init ct_InvalidNumber_init : Value} {od_InvalidNumber_init an_InvalidNumber_init : Option Addr} {sl_InvalidNumber_init : Array (Option Value)} {cc_InvalidNumber_init cda_InvalidNumber_init : Addr} {cl_InvalidNumber_init ccl_InvalidNumber_init : Value} {cld_InvalidNumber_init cdd_InvalidNumber_init : Option Addr} {csl_InvalidNumber_init ccs_InvalidNumber_init : Array (Option Value)} {vs_InvalidNumber_init : Array Value} {file_InvalidNumber_init : Str} {tf_InvalidNumber_init : Tok} {cd_InvalidNumber_init : PySem.ClassData} {A_is_number : Addr} {oc_is_number kV_is_number doc_is_number pm_is_number ct_is_number : Value} {od_is_number an_is_number : Option Addr} {sl_is_number : Array (Option Value)} {cdv_is_number : Value} {A_stretches_of : Addr} {oc_stretches_of kV_stretches_of doc_stretches_of pm_stretches_of ct_stretches_of : Value} {od_stretches_of an_stretches_of : Option Addr} {sl_stretches_of : Array (Option Value)} {cdv_stretches_of : Value} {A_text_of : Addr} {oc_text_of kV_text_of doc_text_of pm_text_of ct_text_of : Value} {od_text_of an_text_of : Option Addr} {sl_text_of : Array (Option Value)} {cdv_text_of : Value} {A_words_of : Addr} {oc_words_of kV_words_of doc_words_of pm_words_of ct_words_of : Value} {od_words_of an_words_of : Option Addr} {sl_words_of : Array (Option Value)} {cdv_words_of : Value} {A_generation_of : Addr} {oc_generation_of kV_generation_of doc_generation_of pm_generation_of ct_generation_of : Value} {od_generation_of an_generation_of : Option Addr} {sl_generation_of : Array (Option Value)} {cdv_generation_of : Value} {A_Disk_init : Addr} {oc_Disk_init doc_Disk_init pm_Disk_init ct_Disk_init : Value} {od_Disk_init an_Disk_init : Option Addr} {sl_Disk_init : Array (Option Value)} {dtk_Disk_init_rows : Tok} {KD_Disk_init : Addr} {cdv_Disk_init : Value} {A_Disk_put : Addr} {oc_Disk_put kV_Disk_put doc_Disk_put pm_Disk_put ct_Disk_put : Value} {od_Disk_put an_Disk_put : Option Addr} {sl_Disk_put : Array (Option Value)} {cdv_Disk_put : Value} {A_Disk_take_area : Addr} {oc_Disk_take_area kV_Disk_take_area doc_Disk_take_area pm_Disk_take_area ct_Disk_take_area : Value} {od_Disk_take_area an_Disk_take_area : Option Addr} {sl_Disk_take_area : Array (Option Value)} {cdv_Disk_take_area : Value} {A_Disk_greatest : Addr} {oc_Disk_greatest kV_Disk_greatest doc_Disk_greatest pm_Disk_greatest ct_Disk_greatest : Value} {od_Disk_greatest an_Disk_greatest : Option Addr} {sl_Disk_greatest : Array (Option Value)} {cdv_Disk_greatest : Value} {A_Disk_write : Addr} {oc_Disk_write kV_Disk_write doc_Disk_write pm_Disk_write ct_Disk_write : Value} {od_Disk_write an_Disk_write : Option Addr} {sl_Disk_write : Array (Option Value)} {cdv_Disk_write : Value} {A_Disk_check : Addr} {oc_Disk_check doc_Disk_check pm_Disk_check ct_Disk_check : Value} {od_Disk_check an_Disk_check : Option Addr} {sl_Disk_check : Array (Option Value)} {KD_Disk_check : Addr} {cdv_Disk_check : Value} {A_Disk_sync : Addr} {oc_Disk_sync kV_Disk_sync doc_Disk_sync pm_Disk_sync ct_Disk_sync : Value} {od_Disk_sync an_Disk_sync : Option Addr} {sl_Disk_sync : Array (Option Value)} {cdv_Disk_sync : Value} {A_Disk_table : Addr} {oc_Disk_table kV_Disk_table doc_Disk_table pm_Disk_table ct_Disk_table : Value} {od_Disk_table an_Disk_table : Option Addr} {sl_Disk_table : Array (Option Value)} {cdv_Disk_table : Value} {A_Disk_areas : Addr} {oc_Disk_areas kV_Disk_areas doc_Disk_areas pm_Disk_areas ct_Disk_areas : Value} {od_Disk_areas an_Disk_areas : Option Addr} {sl_Disk_areas : Array (Option Value)} {cdv_Disk_areas : Value} {A_Disk_unsynced : Addr} {oc_Disk_unsynced kV_Disk_unsynced doc_Disk_unsynced pm_Disk_unsynced ct_Disk_unsynced : Value} {od_Disk_unsynced an_Disk_unsynced : Option Addr} {sl_Disk_unsynced : Array (Option Value)} {cdv_Disk_unsynced : Value} {A_Disk_syncs : Addr} {oc_Disk_syncs kV_Disk_syncs doc_Disk_syncs pm_Disk_syncs ct_Disk_syncs : Value} {od_Disk_syncs an_Disk_syncs : Option Addr} {sl_Disk_syncs : Array (Option Value)} {PP_Disk_syncs : Addr} {RS_Disk_syncs : List Value} {cdv_Disk_syncs : Value} {A_Disk_fallen : Addr} {oc_Disk_fallen kV_Disk_fallen doc_Disk_fallen pm_Disk_fallen ct_Disk_fallen : Value} {od_Disk_fallen an_Disk_fallen : Option Addr} {sl_Disk_fallen : Array (Option Value)} {PP_Disk_fallen : Addr} {RS_Disk_fallen : List Value} {cdv_Disk_fallen : Value} {A_Disk_copy : Addr} {oc_Disk_copy kV_Disk_copy doc_Disk_copy pm_Disk_copy ct_Disk_copy : Value} {od_Disk_copy an_Disk_copy : Option Addr} {sl_Disk_copy : Array (Option Value)} {cdv_Disk_copy : Value} {A_bag : Addr} {oc_bag kV_bag doc_bag pm_bag ct_bag : Value} {od_bag an_bag : Option Addr} {sl_bag : Array (Option Value)} {cdv_bag : Value} {A_draw : Addr} {oc_draw kV_draw doc_draw pm_draw ct_draw : Value} {od_draw an_draw : Option Addr} {sl_draw : Array (Option Value)} {cdv_draw : Value} {A_of : Addr} {oc_of kV_of doc_of pm_of ct_of : Value} {od_of an_of : Option Addr} {sl_of : Array (Option Value)} {cdv_of : Value} {A_like : Addr} {oc_like kV_like doc_like pm_like ct_like : Value} {od_like an_like : Option Addr} {sl_like : Array (Option Value)} {cdv_like : Value} {A_odd : Addr} {oc_odd kV_odd doc_odd pm_odd ct_odd : Value} {od_odd an_odd : Option Addr} {sl_odd : Array (Option Value)} {cdv_odd : Value} {A_cut : Addr} {oc_cut kV_cut doc_cut pm_cut ct_cut : Value} {od_cut an_cut : Option Addr} {sl_cut : Array (Option Value)} {cdv_cut : Value} {A_written : Addr} {oc_written kV_written doc_written pm_written ct_written : Value} {od_written an_written : Option Addr} {sl_written : Array (Option Value)} {cdv_written : Value} {A_recorded : Addr} {oc_recorded kV_recorded doc_recorded pm_recorded ct_recorded : Value} {od_recorded an_recorded : Option Addr} {sl_recorded : Array (Option Value)} {cdv_recorded : Value} {A_new : Addr} {oc_new kV_new doc_new pm_new ct_new : Value} {od_new an_new : Option Addr} {sl_new : Array (Option Value)} {cdv_new : Value} {A_copy : Addr} {oc_copy kV_copy doc_copy pm_copy ct_copy : Value} {od_copy an_copy : Option Addr} {sl_copy : Array (Option Value)} {cdv_copy : Value} {A_sync : Addr} {oc_sync kV_sync doc_sync pm_sync ct_sync : Value} {od_sync an_sync : Option Addr} {sl_sync : Array (Option Value)} {cdv_sync : Value} {A_check : Addr} {oc_check kV_check doc_check pm_check ct_check : Value} {od_check an_check : Option Addr} {sl_check : Array (Option Value)} {cdv_check : Value} {A_write : Addr} {oc_write kV_write doc_write pm_write ct_write : Value} {od_write an_write : Option Addr} {sl_write : Array (Option Value)} {cdv_write : Value} {A_areas : Addr} {oc_areas kV_areas doc_areas pm_areas ct_areas : Value} {od_areas an_areas : Option Addr} {sl_areas : Array (Option Value)} {cdv_areas : Value} {A_key : Addr} {oc_key kV_key doc_key pm_key ct_key : Value} {od_key an_key : Option Addr} {sl_key : Array (Option Value)} {cdv_key : Value} {A_long : Addr} {oc_long kV_long doc_long pm_long ct_long : Value} {od_long an_long : Option Addr} {sl_long : Array (Option Value)} {cdv_long : Value} {A_value : Addr} {oc_value kV_value doc_value pm_value ct_value : Value} {od_value an_value : Option Addr} {sl_value : Array (Option Value)} {cdv_value : Value} {A_changes : Addr} {oc_changes kV_changes doc_changes pm_changes ct_changes : Value} {od_changes an_changes : Option Addr} {sl_changes : Array (Option Value)} {cdv_changes : Value} {A_shelf : Addr} {oc_shelf kV_shelf doc_shelf pm_shelf ct_shelf : Value} {od_shelf an_shelf : Option Addr} {sl_shelf : Array (Option Value)} {cdv_shelf : Value} {A_most : Addr} {oc_most kV_most doc_most pm_most ct_most : Value} {od_most an_most : Option Addr} {sl_most : Array (Option Value)} {cdv_most : Value} {A_pairs : Addr} {oc_pairs kV_pairs doc_pairs pm_pairs ct_pairs : Value} {od_pairs an_pairs : Option Addr} {sl_pairs : Array (Option Value)} {cdv_pairs : Value} {A_disk_so : Addr} {oc_disk_so kV_disk_so doc_disk_so pm_disk_so ct_disk_so : Value} {od_disk_so an_disk_so : Option Addr} {sl_disk_so : Array (Option Value)} {cdv_disk_so : Value} {A_ask : Addr} {oc_ask kV_ask doc_ask pm_ask ct_ask : Value} {od_ask an_ask : Option Addr} {sl_ask : Array (Option Value)} {cdv_ask : Value} {A_deed : Addr} {oc_deed kV_deed doc_deed pm_deed ct_deed : Value} {od_deed an_deed : Option Addr} {sl_deed : Array (Option Value)} {cdv_deed : Value} {A_twin : Addr} {oc_twin kV_twin doc_twin pm_twin ct_twin : Value} {od_twin an_twin : Option Addr} {sl_twin : Array (Option Value)} {cdv_twin : Value} {A_spoilt_so : Addr} {oc_spoilt_so kV_spoilt_so doc_spoilt_so pm_spoilt_so ct_spoilt_so : Value} {od_spoilt_so an_spoilt_so : Option Addr} {sl_spoilt_so : Array (Option Value)} {cdv_spoilt_so : Value} {A_size_so : Addr} {oc_size_so kV_size_so doc_size_so pm_size_so ct_size_so : Value} {od_size_so an_size_so : Option Addr} {sl_size_so : Array (Option Value)} {cda_size_so tb_size_so : Addr} {tcl_size_so : Value} {tcd_size_so : Option Addr} {tvs_size_so : Array Value} {tsl_size_so : Array (Option Value)} {A_full_so : Addr} {oc_full_so kV_full_so doc_full_so pm_full_so ct_full_so : Value} {od_full_so an_full_so : Option Addr} {sl_full_so : Array (Option Value)} {cdv_full_so : Value} {A_law : Addr} {oc_law kV_law doc_law pm_law ct_law : Value} {od_law an_law : Option Addr} {sl_law : Array (Option Value)} {cdv_law : Value} {nm_InvalidNumber q_InvalidNumber : Str} {N_InvalidNumber : Addr} {bs_InvalidNumber : List Value} {sn_InvalidNumber : List Str} {sb_InvalidNumber : List Value} {ab_InvalidNumber : Bool} {co_InvalidNumber : Option Bool} {dd_InvalidNumber : Option Addr} {e0_InvalidNumber e1_InvalidNumber e2_InvalidNumber e3_InvalidNumber e5_InvalidNumber : Option Value} {tcv_Disk_STRETCH : Tok}
    (aC_SureletError : PySem.W.nsIn K mainGlobals "SureletError" = some (some (.ref C_SureletError))) (aC_InvalidNumber : PySem.W.nsIn K mainGlobals "InvalidNumber" = some (some (.ref C_InvalidNumber))) (aC_Disk : PySem.W.nsIn K mainGlobals "Disk" = some (some (.ref C_Disk))) (a_InvalidNumber_init : PySem.W.findIn K (.ref C_InvalidNumber) "__init__" = some (some (.ref A_InvalidNumber_init))) (i_InvalidNumber_init : PySem.W.isFn K (.ref A_InvalidNumber_init) = true) (l_InvalidNumber_init : K.lookup A_InvalidNumber_init = some ⟨oc_InvalidNumber_init, od_InvalidNumber_init, .func (PySem.W.fnX "__init__" "InvalidNumber.__init__" (defArgs s_InvalidNumber_init) (defBody s_InvalidNumber_init) (defScope s_InvalidNumber_init) [("__class__", cc_InvalidNumber_init)] .none kV_InvalidNumber_init doc_InvalidNumber_init pm_InvalidNumber_init an_InvalidNumber_init (.ref cda_InvalidNumber_init) ct_InvalidNumber_init), sl_InvalidNumber_init⟩) (c_InvalidNumber_init : PySem.W.codeIn K (.ref cda_InvalidNumber_init) "InvalidNumber.__init__" = true) (k_InvalidNumber_init : PySem.W.keepIn K (.ref A_InvalidNumber_init) = true) (cell_InvalidNumber_init : K.lookup cc_InvalidNumber_init = some ⟨cl_InvalidNumber_init, cld_InvalidNumber_init, .cell (some (.ref C_InvalidNumber)), csl_InvalidNumber_init⟩) (code_InvalidNumber_init : K.lookup cda_InvalidNumber_init = some ⟨ccl_InvalidNumber_init, cdd_InvalidNumber_init, .fields vs_InvalidNumber_init, ccs_InvalidNumber_init⟩) (vs_InvalidNumber_init : vs_InvalidNumber_init[2]? = some (.str file_InvalidNumber_init tf_InvalidNumber_init)) (fl_InvalidNumber_init : ((P.main.file : Str) == file_InvalidNumber_init) = true) (cd_InvalidNumber_init : PySem.W.clsIn K C_InvalidNumber = some cd_InvalidNumber_init) (a_is_number : PySem.W.nsIn K mainGlobals "is_number" = some (some (.ref A_is_number))) (l_is_number : K.lookup A_is_number = some ⟨oc_is_number, od_is_number, .func (PySem.W.fnOf "is_number" "is_number" (defArgs s_is_number) (defBody s_is_number) (defScope s_is_number) .none kV_is_number doc_is_number pm_is_number an_is_number cdv_is_number ct_is_number), sl_is_number⟩) (c_is_number : PySem.W.codeIn K cdv_is_number "is_number" = true) (k_is_number : PySem.W.keepIn K (.ref A_is_number) = true) (a_stretches_of : PySem.W.nsIn K mainGlobals "stretches_of" = some (some (.ref A_stretches_of))) (l_stretches_of : K.lookup A_stretches_of = some ⟨oc_stretches_of, od_stretches_of, .func (PySem.W.fnOf "stretches_of" "stretches_of" (defArgs s_stretches_of) (defBody s_stretches_of) (defScope s_stretches_of) .none kV_stretches_of doc_stretches_of pm_stretches_of an_stretches_of cdv_stretches_of ct_stretches_of), sl_stretches_of⟩) (c_stretches_of : PySem.W.codeIn K cdv_stretches_of "stretches_of" = true) (k_stretches_of : PySem.W.keepIn K (.ref A_stretches_of) = true) (a_text_of : PySem.W.nsIn K mainGlobals "text_of" = some (some (.ref A_text_of))) (l_text_of : K.lookup A_text_of = some ⟨oc_text_of, od_text_of, .func (PySem.W.fnOf "text_of" "text_of" (defArgs s_text_of) (defBody s_text_of) (defScope s_text_of) .none kV_text_of doc_text_of pm_text_of an_text_of cdv_text_of ct_text_of), sl_text_of⟩) (c_text_of : PySem.W.codeIn K cdv_text_of "text_of" = true) (k_text_of : PySem.W.keepIn K (.ref A_text_of) = true) (a_words_of : PySem.W.nsIn K mainGlobals "words_of" = some (some (.ref A_words_of))) (l_words_of : K.lookup A_words_of = some ⟨oc_words_of, od_words_of, .func (PySem.W.fnOf "words_of" "words_of" (defArgs s_words_of) (defBody s_words_of) (defScope s_words_of) .none kV_words_of doc_words_of pm_words_of an_words_of cdv_words_of ct_words_of), sl_words_of⟩) (c_words_of : PySem.W.codeIn K cdv_words_of "words_of" = true) (k_words_of : PySem.W.keepIn K (.ref A_words_of) = true) (a_generation_of : PySem.W.nsIn K mainGlobals "generation_of" = some (some (.ref A_generation_of))) (l_generation_of : K.lookup A_generation_of = some ⟨oc_generation_of, od_generation_of, .func (PySem.W.fnOf "generation_of" "generation_of" (defArgs s_generation_of) (defBody s_generation_of) (defScope s_generation_of) .none kV_generation_of doc_generation_of pm_generation_of an_generation_of cdv_generation_of ct_generation_of), sl_generation_of⟩) (c_generation_of : PySem.W.codeIn K cdv_generation_of "generation_of" = true) (k_generation_of : PySem.W.keepIn K (.ref A_generation_of) = true) (a_Disk_init : PySem.W.findIn K (.ref C_Disk) "__init__" = some (some (.ref A_Disk_init))) (i_Disk_init : PySem.W.isFn K (.ref A_Disk_init) = true) (l_Disk_init : K.lookup A_Disk_init = some ⟨oc_Disk_init, od_Disk_init, .func (PySem.W.fnOf "__init__" "Disk.__init__" (defArgs s_Disk_init) (defBody s_Disk_init) (defScope s_Disk_init) .none (.ref KD_Disk_init) doc_Disk_init pm_Disk_init an_Disk_init cdv_Disk_init ct_Disk_init), sl_Disk_init⟩) (c_Disk_init : PySem.W.codeIn K cdv_Disk_init "Disk.__init__" = true) (k_Disk_init : PySem.W.keepIn K (.ref A_Disk_init) = true) (kd_Disk_init_rows : PySem.W.nsIn K KD_Disk_init "rows" = some (some (.int 16 dtk_Disk_init_rows))) (a_Disk_put : PySem.W.findIn K (.ref C_Disk) "_put" = some (some (.ref A_Disk_put))) (i_Disk_put : PySem.W.isFn K (.ref A_Disk_put) = true) (l_Disk_put : K.lookup A_Disk_put = some ⟨oc_Disk_put, od_Disk_put, .func (PySem.W.fnOf "_put" "Disk._put" (defArgs s_Disk_put) (defBody s_Disk_put) (defScope s_Disk_put) .none kV_Disk_put doc_Disk_put pm_Disk_put an_Disk_put cdv_Disk_put ct_Disk_put), sl_Disk_put⟩) (c_Disk_put : PySem.W.codeIn K cdv_Disk_put "Disk._put" = true) (k_Disk_put : PySem.W.keepIn K (.ref A_Disk_put) = true) (a_Disk_take_area : PySem.W.findIn K (.ref C_Disk) "_take_area" = some (some (.ref A_Disk_take_area))) (i_Disk_take_area : PySem.W.isFn K (.ref A_Disk_take_area) = true) (l_Disk_take_area : K.lookup A_Disk_take_area = some ⟨oc_Disk_take_area, od_Disk_take_area, .func (PySem.W.fnOf "_take_area" "Disk._take_area" (defArgs s_Disk_take_area) (defBody s_Disk_take_area) (defScope s_Disk_take_area) .none kV_Disk_take_area doc_Disk_take_area pm_Disk_take_area an_Disk_take_area cdv_Disk_take_area ct_Disk_take_area), sl_Disk_take_area⟩) (c_Disk_take_area : PySem.W.codeIn K cdv_Disk_take_area "Disk._take_area" = true) (k_Disk_take_area : PySem.W.keepIn K (.ref A_Disk_take_area) = true) (a_Disk_greatest : PySem.W.findIn K (.ref C_Disk) "_greatest" = some (some (.ref A_Disk_greatest))) (i_Disk_greatest : PySem.W.isFn K (.ref A_Disk_greatest) = true) (l_Disk_greatest : K.lookup A_Disk_greatest = some ⟨oc_Disk_greatest, od_Disk_greatest, .func (PySem.W.fnOf "_greatest" "Disk._greatest" (defArgs s_Disk_greatest) (defBody s_Disk_greatest) (defScope s_Disk_greatest) .none kV_Disk_greatest doc_Disk_greatest pm_Disk_greatest an_Disk_greatest cdv_Disk_greatest ct_Disk_greatest), sl_Disk_greatest⟩) (c_Disk_greatest : PySem.W.codeIn K cdv_Disk_greatest "Disk._greatest" = true) (k_Disk_greatest : PySem.W.keepIn K (.ref A_Disk_greatest) = true) (a_Disk_write : PySem.W.findIn K (.ref C_Disk) "write" = some (some (.ref A_Disk_write))) (i_Disk_write : PySem.W.isFn K (.ref A_Disk_write) = true) (l_Disk_write : K.lookup A_Disk_write = some ⟨oc_Disk_write, od_Disk_write, .func (PySem.W.fnOf "write" "Disk.write" (defArgs s_Disk_write) (defBody s_Disk_write) (defScope s_Disk_write) .none kV_Disk_write doc_Disk_write pm_Disk_write an_Disk_write cdv_Disk_write ct_Disk_write), sl_Disk_write⟩) (c_Disk_write : PySem.W.codeIn K cdv_Disk_write "Disk.write" = true) (k_Disk_write : PySem.W.keepIn K (.ref A_Disk_write) = true) (a_Disk_check : PySem.W.findIn K (.ref C_Disk) "check" = some (some (.ref A_Disk_check))) (i_Disk_check : PySem.W.isFn K (.ref A_Disk_check) = true) (l_Disk_check : K.lookup A_Disk_check = some ⟨oc_Disk_check, od_Disk_check, .func (PySem.W.fnOf "check" "Disk.check" (defArgs s_Disk_check) (defBody s_Disk_check) (defScope s_Disk_check) .none (.ref KD_Disk_check) doc_Disk_check pm_Disk_check an_Disk_check cdv_Disk_check ct_Disk_check), sl_Disk_check⟩) (c_Disk_check : PySem.W.codeIn K cdv_Disk_check "Disk.check" = true) (k_Disk_check : PySem.W.keepIn K (.ref A_Disk_check) = true) (kd_Disk_check_synced : PySem.W.nsIn K KD_Disk_check "synced" = some (some (.bool true))) (a_Disk_sync : PySem.W.findIn K (.ref C_Disk) "sync" = some (some (.ref A_Disk_sync))) (i_Disk_sync : PySem.W.isFn K (.ref A_Disk_sync) = true) (l_Disk_sync : K.lookup A_Disk_sync = some ⟨oc_Disk_sync, od_Disk_sync, .func (PySem.W.fnOf "sync" "Disk.sync" (defArgs s_Disk_sync) (defBody s_Disk_sync) (defScope s_Disk_sync) .none kV_Disk_sync doc_Disk_sync pm_Disk_sync an_Disk_sync cdv_Disk_sync ct_Disk_sync), sl_Disk_sync⟩) (c_Disk_sync : PySem.W.codeIn K cdv_Disk_sync "Disk.sync" = true) (k_Disk_sync : PySem.W.keepIn K (.ref A_Disk_sync) = true) (a_Disk_table : PySem.W.findIn K (.ref C_Disk) "table" = some (some (.ref A_Disk_table))) (i_Disk_table : PySem.W.isFn K (.ref A_Disk_table) = true) (l_Disk_table : K.lookup A_Disk_table = some ⟨oc_Disk_table, od_Disk_table, .func (PySem.W.fnOf "table" "Disk.table" (defArgs s_Disk_table) (defBody s_Disk_table) (defScope s_Disk_table) .none kV_Disk_table doc_Disk_table pm_Disk_table an_Disk_table cdv_Disk_table ct_Disk_table), sl_Disk_table⟩) (c_Disk_table : PySem.W.codeIn K cdv_Disk_table "Disk.table" = true) (k_Disk_table : PySem.W.keepIn K (.ref A_Disk_table) = true) (a_Disk_areas : PySem.W.findIn K (.ref C_Disk) "areas" = some (some (.ref A_Disk_areas))) (i_Disk_areas : PySem.W.isFn K (.ref A_Disk_areas) = true) (l_Disk_areas : K.lookup A_Disk_areas = some ⟨oc_Disk_areas, od_Disk_areas, .func (PySem.W.fnOf "areas" "Disk.areas" (defArgs s_Disk_areas) (defBody s_Disk_areas) (defScope s_Disk_areas) .none kV_Disk_areas doc_Disk_areas pm_Disk_areas an_Disk_areas cdv_Disk_areas ct_Disk_areas), sl_Disk_areas⟩) (c_Disk_areas : PySem.W.codeIn K cdv_Disk_areas "Disk.areas" = true) (k_Disk_areas : PySem.W.keepIn K (.ref A_Disk_areas) = true) (a_Disk_unsynced : PySem.W.findIn K (.ref C_Disk) "unsynced" = some (some (.ref A_Disk_unsynced))) (i_Disk_unsynced : PySem.W.isFn K (.ref A_Disk_unsynced) = true) (l_Disk_unsynced : K.lookup A_Disk_unsynced = some ⟨oc_Disk_unsynced, od_Disk_unsynced, .func (PySem.W.fnOf "unsynced" "Disk.unsynced" (defArgs s_Disk_unsynced) (defBody s_Disk_unsynced) (defScope s_Disk_unsynced) .none kV_Disk_unsynced doc_Disk_unsynced pm_Disk_unsynced an_Disk_unsynced cdv_Disk_unsynced ct_Disk_unsynced), sl_Disk_unsynced⟩) (c_Disk_unsynced : PySem.W.codeIn K cdv_Disk_unsynced "Disk.unsynced" = true) (k_Disk_unsynced : PySem.W.keepIn K (.ref A_Disk_unsynced) = true) (pa_Disk_syncs : PySem.W.findIn K (.ref C_Disk) "syncs" = some (some (.ref PP_Disk_syncs))) (pr_Disk_syncs : PySem.W.recIn K PP_Disk_syncs "property" = some (.ref A_Disk_syncs :: RS_Disk_syncs)) (pg_Disk_syncs : PySem.W.specialIn K (.ref PP_Disk_syncs) "__get__" = some (some (.builtin "property.__get__"))) (pt_Disk_syncs : PySem.W.takesIn K (.ref PP_Disk_syncs) = some true) (l_Disk_syncs : K.lookup A_Disk_syncs = some ⟨oc_Disk_syncs, od_Disk_syncs, .func (PySem.W.fnOf "syncs" "Disk.syncs" (defArgs s_Disk_syncs) (defBody s_Disk_syncs) (defScope s_Disk_syncs) .none kV_Disk_syncs doc_Disk_syncs pm_Disk_syncs an_Disk_syncs cdv_Disk_syncs ct_Disk_syncs), sl_Disk_syncs⟩) (c_Disk_syncs : PySem.W.codeIn K cdv_Disk_syncs "Disk.syncs" = true) (k_Disk_syncs : PySem.W.keepIn K (.ref A_Disk_syncs) = true) (pa_Disk_fallen : PySem.W.findIn K (.ref C_Disk) "fallen" = some (some (.ref PP_Disk_fallen))) (pr_Disk_fallen : PySem.W.recIn K PP_Disk_fallen "property" = some (.ref A_Disk_fallen :: RS_Disk_fallen)) (pg_Disk_fallen : PySem.W.specialIn K (.ref PP_Disk_fallen) "__get__" = some (some (.builtin "property.__get__"))) (pt_Disk_fallen : PySem.W.takesIn K (.ref PP_Disk_fallen) = some true) (l_Disk_fallen : K.lookup A_Disk_fallen = some ⟨oc_Disk_fallen, od_Disk_fallen, .func (PySem.W.fnOf "fallen" "Disk.fallen" (defArgs s_Disk_fallen) (defBody s_Disk_fallen) (defScope s_Disk_fallen) .none kV_Disk_fallen doc_Disk_fallen pm_Disk_fallen an_Disk_fallen cdv_Disk_fallen ct_Disk_fallen), sl_Disk_fallen⟩) (c_Disk_fallen : PySem.W.codeIn K cdv_Disk_fallen "Disk.fallen" = true) (k_Disk_fallen : PySem.W.keepIn K (.ref A_Disk_fallen) = true) (a_Disk_copy : PySem.W.findIn K (.ref C_Disk) "copy" = some (some (.ref A_Disk_copy))) (i_Disk_copy : PySem.W.isFn K (.ref A_Disk_copy) = true) (l_Disk_copy : K.lookup A_Disk_copy = some ⟨oc_Disk_copy, od_Disk_copy, .func (PySem.W.fnOf "copy" "Disk.copy" (defArgs s_Disk_copy) (defBody s_Disk_copy) (defScope s_Disk_copy) .none kV_Disk_copy doc_Disk_copy pm_Disk_copy an_Disk_copy cdv_Disk_copy ct_Disk_copy), sl_Disk_copy⟩) (c_Disk_copy : PySem.W.codeIn K cdv_Disk_copy "Disk.copy" = true) (k_Disk_copy : PySem.W.keepIn K (.ref A_Disk_copy) = true) (a_bag : PySem.W.nsIn K mainGlobals "_law_bag" = some (some (.ref A_bag))) (l_bag : K.lookup A_bag = some ⟨oc_bag, od_bag, .func (PySem.W.fnOf "_law_bag" "_law_bag" (defArgs s_bag) (defBody s_bag) (defScope s_bag) .none kV_bag doc_bag pm_bag an_bag cdv_bag ct_bag), sl_bag⟩) (c_bag : PySem.W.codeIn K cdv_bag "_law_bag" = true) (k_bag : PySem.W.keepIn K (.ref A_bag) = true) (a_draw : PySem.W.nsIn K mainGlobals "_law_draw" = some (some (.ref A_draw))) (l_draw : K.lookup A_draw = some ⟨oc_draw, od_draw, .func (PySem.W.fnOf "_law_draw" "_law_draw" (defArgs s_draw) (defBody s_draw) (defScope s_draw) .none kV_draw doc_draw pm_draw an_draw cdv_draw ct_draw), sl_draw⟩) (c_draw : PySem.W.codeIn K cdv_draw "_law_draw" = true) (k_draw : PySem.W.keepIn K (.ref A_draw) = true) (a_of : PySem.W.nsIn K mainGlobals "_law_of" = some (some (.ref A_of))) (l_of : K.lookup A_of = some ⟨oc_of, od_of, .func (PySem.W.fnOf "_law_of" "_law_of" (defArgs s_of) (defBody s_of) (defScope s_of) .none kV_of doc_of pm_of an_of cdv_of ct_of), sl_of⟩) (c_of : PySem.W.codeIn K cdv_of "_law_of" = true) (k_of : PySem.W.keepIn K (.ref A_of) = true) (a_like : PySem.W.nsIn K mainGlobals "_law_like" = some (some (.ref A_like))) (l_like : K.lookup A_like = some ⟨oc_like, od_like, .func (PySem.W.fnOf "_law_like" "_law_like" (defArgs s_like) (defBody s_like) (defScope s_like) .none kV_like doc_like pm_like an_like cdv_like ct_like), sl_like⟩) (c_like : PySem.W.codeIn K cdv_like "_law_like" = true) (k_like : PySem.W.keepIn K (.ref A_like) = true) (a_odd : PySem.W.nsIn K mainGlobals "_law_odd" = some (some (.ref A_odd))) (l_odd : K.lookup A_odd = some ⟨oc_odd, od_odd, .func (PySem.W.fnOf "_law_odd" "_law_odd" (defArgs s_odd) (defBody s_odd) (defScope s_odd) .none kV_odd doc_odd pm_odd an_odd cdv_odd ct_odd), sl_odd⟩) (c_odd : PySem.W.codeIn K cdv_odd "_law_odd" = true) (k_odd : PySem.W.keepIn K (.ref A_odd) = true) (a_cut : PySem.W.nsIn K mainGlobals "_law_cut" = some (some (.ref A_cut))) (l_cut : K.lookup A_cut = some ⟨oc_cut, od_cut, .func (PySem.W.fnOf "_law_cut" "_law_cut" (defArgs s_cut) (defBody s_cut) (defScope s_cut) .none kV_cut doc_cut pm_cut an_cut cdv_cut ct_cut), sl_cut⟩) (c_cut : PySem.W.codeIn K cdv_cut "_law_cut" = true) (k_cut : PySem.W.keepIn K (.ref A_cut) = true) (a_written : PySem.W.nsIn K mainGlobals "_law_written" = some (some (.ref A_written))) (l_written : K.lookup A_written = some ⟨oc_written, od_written, .func (PySem.W.fnOf "_law_written" "_law_written" (defArgs s_written) (defBody s_written) (defScope s_written) .none kV_written doc_written pm_written an_written cdv_written ct_written), sl_written⟩) (c_written : PySem.W.codeIn K cdv_written "_law_written" = true) (k_written : PySem.W.keepIn K (.ref A_written) = true) (a_recorded : PySem.W.nsIn K mainGlobals "_law_recorded" = some (some (.ref A_recorded))) (l_recorded : K.lookup A_recorded = some ⟨oc_recorded, od_recorded, .func (PySem.W.fnOf "_law_recorded" "_law_recorded" (defArgs s_recorded) (defBody s_recorded) (defScope s_recorded) .none kV_recorded doc_recorded pm_recorded an_recorded cdv_recorded ct_recorded), sl_recorded⟩) (c_recorded : PySem.W.codeIn K cdv_recorded "_law_recorded" = true) (k_recorded : PySem.W.keepIn K (.ref A_recorded) = true) (a_new : PySem.W.nsIn K mainGlobals "_law_new" = some (some (.ref A_new))) (l_new : K.lookup A_new = some ⟨oc_new, od_new, .func (PySem.W.fnOf "_law_new" "_law_new" (defArgs s_new) (defBody s_new) (defScope s_new) .none kV_new doc_new pm_new an_new cdv_new ct_new), sl_new⟩) (c_new : PySem.W.codeIn K cdv_new "_law_new" = true) (k_new : PySem.W.keepIn K (.ref A_new) = true) (a_copy : PySem.W.nsIn K mainGlobals "_law_copy" = some (some (.ref A_copy))) (l_copy : K.lookup A_copy = some ⟨oc_copy, od_copy, .func (PySem.W.fnOf "_law_copy" "_law_copy" (defArgs s_copy) (defBody s_copy) (defScope s_copy) .none kV_copy doc_copy pm_copy an_copy cdv_copy ct_copy), sl_copy⟩) (c_copy : PySem.W.codeIn K cdv_copy "_law_copy" = true) (k_copy : PySem.W.keepIn K (.ref A_copy) = true) (a_sync : PySem.W.nsIn K mainGlobals "_law_sync" = some (some (.ref A_sync))) (l_sync : K.lookup A_sync = some ⟨oc_sync, od_sync, .func (PySem.W.fnOf "_law_sync" "_law_sync" (defArgs s_sync) (defBody s_sync) (defScope s_sync) .none kV_sync doc_sync pm_sync an_sync cdv_sync ct_sync), sl_sync⟩) (c_sync : PySem.W.codeIn K cdv_sync "_law_sync" = true) (k_sync : PySem.W.keepIn K (.ref A_sync) = true) (a_check : PySem.W.nsIn K mainGlobals "_law_check" = some (some (.ref A_check))) (l_check : K.lookup A_check = some ⟨oc_check, od_check, .func (PySem.W.fnOf "_law_check" "_law_check" (defArgs s_check) (defBody s_check) (defScope s_check) .none kV_check doc_check pm_check an_check cdv_check ct_check), sl_check⟩) (c_check : PySem.W.codeIn K cdv_check "_law_check" = true) (k_check : PySem.W.keepIn K (.ref A_check) = true) (a_write : PySem.W.nsIn K mainGlobals "_law_write" = some (some (.ref A_write))) (l_write : K.lookup A_write = some ⟨oc_write, od_write, .func (PySem.W.fnOf "_law_write" "_law_write" (defArgs s_write) (defBody s_write) (defScope s_write) .none kV_write doc_write pm_write an_write cdv_write ct_write), sl_write⟩) (c_write : PySem.W.codeIn K cdv_write "_law_write" = true) (k_write : PySem.W.keepIn K (.ref A_write) = true) (a_areas : PySem.W.nsIn K mainGlobals "_law_areas" = some (some (.ref A_areas))) (l_areas : K.lookup A_areas = some ⟨oc_areas, od_areas, .func (PySem.W.fnOf "_law_areas" "_law_areas" (defArgs s_areas) (defBody s_areas) (defScope s_areas) .none kV_areas doc_areas pm_areas an_areas cdv_areas ct_areas), sl_areas⟩) (c_areas : PySem.W.codeIn K cdv_areas "_law_areas" = true) (k_areas : PySem.W.keepIn K (.ref A_areas) = true) (a_key : PySem.W.nsIn K mainGlobals "_law_key" = some (some (.ref A_key))) (l_key : K.lookup A_key = some ⟨oc_key, od_key, .func (PySem.W.fnOf "_law_key" "_law_key" (defArgs s_key) (defBody s_key) (defScope s_key) .none kV_key doc_key pm_key an_key cdv_key ct_key), sl_key⟩) (c_key : PySem.W.codeIn K cdv_key "_law_key" = true) (k_key : PySem.W.keepIn K (.ref A_key) = true) (a_long : PySem.W.nsIn K mainGlobals "_law_long" = some (some (.ref A_long))) (l_long : K.lookup A_long = some ⟨oc_long, od_long, .func (PySem.W.fnOf "_law_long" "_law_long" (defArgs s_long) (defBody s_long) (defScope s_long) .none kV_long doc_long pm_long an_long cdv_long ct_long), sl_long⟩) (c_long : PySem.W.codeIn K cdv_long "_law_long" = true) (k_long : PySem.W.keepIn K (.ref A_long) = true) (a_value : PySem.W.nsIn K mainGlobals "_law_value" = some (some (.ref A_value))) (l_value : K.lookup A_value = some ⟨oc_value, od_value, .func (PySem.W.fnOf "_law_value" "_law_value" (defArgs s_value) (defBody s_value) (defScope s_value) .none kV_value doc_value pm_value an_value cdv_value ct_value), sl_value⟩) (c_value : PySem.W.codeIn K cdv_value "_law_value" = true) (k_value : PySem.W.keepIn K (.ref A_value) = true) (a_changes : PySem.W.nsIn K mainGlobals "_law_changes" = some (some (.ref A_changes))) (l_changes : K.lookup A_changes = some ⟨oc_changes, od_changes, .func (PySem.W.fnOf "_law_changes" "_law_changes" (defArgs s_changes) (defBody s_changes) (defScope s_changes) .none kV_changes doc_changes pm_changes an_changes cdv_changes ct_changes), sl_changes⟩) (c_changes : PySem.W.codeIn K cdv_changes "_law_changes" = true) (k_changes : PySem.W.keepIn K (.ref A_changes) = true) (a_shelf : PySem.W.nsIn K mainGlobals "_law_shelf" = some (some (.ref A_shelf))) (l_shelf : K.lookup A_shelf = some ⟨oc_shelf, od_shelf, .func (PySem.W.fnOf "_law_shelf" "_law_shelf" (defArgs s_shelf) (defBody s_shelf) (defScope s_shelf) .none kV_shelf doc_shelf pm_shelf an_shelf cdv_shelf ct_shelf), sl_shelf⟩) (c_shelf : PySem.W.codeIn K cdv_shelf "_law_shelf" = true) (k_shelf : PySem.W.keepIn K (.ref A_shelf) = true) (a_most : PySem.W.nsIn K mainGlobals "_law_most" = some (some (.ref A_most))) (l_most : K.lookup A_most = some ⟨oc_most, od_most, .func (PySem.W.fnOf "_law_most" "_law_most" (defArgs s_most) (defBody s_most) (defScope s_most) .none kV_most doc_most pm_most an_most cdv_most ct_most), sl_most⟩) (c_most : PySem.W.codeIn K cdv_most "_law_most" = true) (k_most : PySem.W.keepIn K (.ref A_most) = true) (a_pairs : PySem.W.nsIn K mainGlobals "_law_pairs" = some (some (.ref A_pairs))) (l_pairs : K.lookup A_pairs = some ⟨oc_pairs, od_pairs, .func (PySem.W.fnOf "_law_pairs" "_law_pairs" (defArgs s_pairs) (defBody s_pairs) (defScope s_pairs) .none kV_pairs doc_pairs pm_pairs an_pairs cdv_pairs ct_pairs), sl_pairs⟩) (c_pairs : PySem.W.codeIn K cdv_pairs "_law_pairs" = true) (k_pairs : PySem.W.keepIn K (.ref A_pairs) = true) (a_disk_so : PySem.W.nsIn K mainGlobals "_law_disk_so" = some (some (.ref A_disk_so))) (l_disk_so : K.lookup A_disk_so = some ⟨oc_disk_so, od_disk_so, .func (PySem.W.fnOf "_law_disk_so" "_law_disk_so" (defArgs s_disk_so) (defBody s_disk_so) (defScope s_disk_so) .none kV_disk_so doc_disk_so pm_disk_so an_disk_so cdv_disk_so ct_disk_so), sl_disk_so⟩) (c_disk_so : PySem.W.codeIn K cdv_disk_so "_law_disk_so" = true) (k_disk_so : PySem.W.keepIn K (.ref A_disk_so) = true) (a_ask : PySem.W.nsIn K mainGlobals "_law_ask" = some (some (.ref A_ask))) (l_ask : K.lookup A_ask = some ⟨oc_ask, od_ask, .func (PySem.W.fnOf "_law_ask" "_law_ask" (defArgs s_ask) (defBody s_ask) (defScope s_ask) .none kV_ask doc_ask pm_ask an_ask cdv_ask ct_ask), sl_ask⟩) (c_ask : PySem.W.codeIn K cdv_ask "_law_ask" = true) (k_ask : PySem.W.keepIn K (.ref A_ask) = true) (a_deed : PySem.W.nsIn K mainGlobals "_law_deed" = some (some (.ref A_deed))) (l_deed : K.lookup A_deed = some ⟨oc_deed, od_deed, .func (PySem.W.fnOf "_law_deed" "_law_deed" (defArgs s_deed) (defBody s_deed) (defScope s_deed) .none kV_deed doc_deed pm_deed an_deed cdv_deed ct_deed), sl_deed⟩) (c_deed : PySem.W.codeIn K cdv_deed "_law_deed" = true) (k_deed : PySem.W.keepIn K (.ref A_deed) = true) (a_twin : PySem.W.nsIn K mainGlobals "_law_twin" = some (some (.ref A_twin))) (l_twin : K.lookup A_twin = some ⟨oc_twin, od_twin, .func (PySem.W.fnOf "_law_twin" "_law_twin" (defArgs s_twin) (defBody s_twin) (defScope s_twin) .none kV_twin doc_twin pm_twin an_twin cdv_twin ct_twin), sl_twin⟩) (c_twin : PySem.W.codeIn K cdv_twin "_law_twin" = true) (k_twin : PySem.W.keepIn K (.ref A_twin) = true) (a_spoilt_so : PySem.W.nsIn K mainGlobals "_law_spoilt_so" = some (some (.ref A_spoilt_so))) (l_spoilt_so : K.lookup A_spoilt_so = some ⟨oc_spoilt_so, od_spoilt_so, .func (PySem.W.fnOf "_law_spoilt_so" "_law_spoilt_so" (defArgs s_spoilt_so) (defBody s_spoilt_so) (defScope s_spoilt_so) .none kV_spoilt_so doc_spoilt_so pm_spoilt_so an_spoilt_so cdv_spoilt_so ct_spoilt_so), sl_spoilt_so⟩) (c_spoilt_so : PySem.W.codeIn K cdv_spoilt_so "_law_spoilt_so" = true) (k_spoilt_so : PySem.W.keepIn K (.ref A_spoilt_so) = true) (a_size_so : PySem.W.nsIn K mainGlobals "_law_size_so" = some (some (.ref A_size_so))) (l_size_so : K.lookup A_size_so = some ⟨oc_size_so, od_size_so, .func (PySem.W.fnOf "_law_size_so" "_law_size_so" (defArgs s_size_so) (defBody s_size_so) (defScope s_size_so) .none kV_size_so doc_size_so pm_size_so an_size_so (.ref cda_size_so) ct_size_so), sl_size_so⟩) (c_size_so : PySem.W.codeIn K (.ref cda_size_so) "_law_size_so" = true) (k_size_so : PySem.W.keepIn K (.ref A_size_so) = true) (td_size_so : K.lookup cda_size_so = some ⟨tcl_size_so, tcd_size_so, .fields tvs_size_so, tsl_size_so⟩) (tp_size_so : tvs_size_so[11]? = some (.ref tb_size_so)) (tn_size_so : K.lookup tb_size_so = none) (a_full_so : PySem.W.nsIn K mainGlobals "_law_full_so" = some (some (.ref A_full_so))) (l_full_so : K.lookup A_full_so = some ⟨oc_full_so, od_full_so, .func (PySem.W.fnOf "_law_full_so" "_law_full_so" (defArgs s_full_so) (defBody s_full_so) (defScope s_full_so) .none kV_full_so doc_full_so pm_full_so an_full_so cdv_full_so ct_full_so), sl_full_so⟩) (c_full_so : PySem.W.codeIn K cdv_full_so "_law_full_so" = true) (k_full_so : PySem.W.keepIn K (.ref A_full_so) = true) (a_law : PySem.W.nsIn K mainGlobals "law" = some (some (.ref A_law))) (l_law : K.lookup A_law = some ⟨oc_law, od_law, .func (PySem.W.fnOf "law" "law" (defArgs s_law) (defBody s_law) (defScope s_law) .none kV_law doc_law pm_law an_law cdv_law ct_law), sl_law⟩) (c_law : PySem.W.codeIn K cdv_law "law" = true) (k_law : PySem.W.keepIn K (.ref A_law) = true) (top_super : (P.main.scope.names.lookup ("super" : Str)).isSome = false) (st_thirdparty : PySem.W.nsIn K cStatics "thirdparty.any" = some none) (z_all : PySem.W.nsIn K mainGlobals "all" = some none) (z_bool : PySem.W.nsIn K mainGlobals "bool" = some none) (z_dict : PySem.W.nsIn K mainGlobals "dict" = some none) (z_enumerate : PySem.W.nsIn K mainGlobals "enumerate" = some none) (z_int : PySem.W.nsIn K mainGlobals "int" = some none) (z_isinstance : PySem.W.nsIn K mainGlobals "isinstance" = some none) (z_len : PySem.W.nsIn K mainGlobals "len" = some none) (z_list : PySem.W.nsIn K mainGlobals "list" = some none) (z_max : PySem.W.nsIn K mainGlobals "max" = some none) (z_range : PySem.W.nsIn K mainGlobals "range" = some none) (z_sorted : PySem.W.nsIn K mainGlobals "sorted" = some none) (z_str : PySem.W.nsIn K mainGlobals "str" = some none) (z_super : PySem.W.nsIn K mainGlobals "super" = some none) (z_tuple : PySem.W.nsIn K mainGlobals "tuple" = some none) (z_zip : PySem.W.nsIn K mainGlobals "zip" = some none) (el_InvalidNumber : K.lookup C_InvalidNumber = some (excClassObj nm_InvalidNumber q_InvalidNumber C_InvalidNumber N_InvalidNumber bs_InvalidNumber [.ref C_SureletError, .type "ValueError", .type "Exception", .type "BaseException", .type "object"] true sn_InvalidNumber sb_InvalidNumber ab_InvalidNumber co_InvalidNumber dd_InvalidNumber e0_InvalidNumber e1_InvalidNumber e2_InvalidNumber e3_InvalidNumber e5_InvalidNumber "ValueError.__new__")) (es_InvalidNumber : PySem.W.findIn K (.ref C_InvalidNumber) "__setattr__" = some (some (.builtin "object.__setattr__"))) (eb_InvalidNumber : PySem.W.subIn K (.ref C_InvalidNumber) (.type "BaseException") = some true) (et_InvalidNumber : PySem.W.typeIn K (.ref C_InvalidNumber) = some (.type "type")) (ek_InvalidNumber : PySem.W.keepIn K (.ref C_InvalidNumber) = true) (em_InvalidNumber : PySem.W.mroIn K C_InvalidNumber (.ref C_InvalidNumber) = some true) (eu_InvalidNumber : PySem.W.ks_superIn K C_InvalidNumber C_InvalidNumber "__init__" = some (some (.builtin "ValueError.__init__"))) (ev_InvalidNumber : PySem.W.subIn K (.ref C_InvalidNumber) (.type "ValueError") = some true) (ega_InvalidNumber : PySem.W.findIn K (.ref C_InvalidNumber) "__getattribute__" = some (some (.builtin "BaseException.__getattribute__"))) (egg_InvalidNumber : PySem.W.findIn K (.ref C_InvalidNumber) "__getattr__" = some none) (ehd_InvalidNumber : PySem.W.hasDictIn K C_InvalidNumber = true) (eti_InvalidNumber : PySem.W.typeIn K (.ref A_InvalidNumber_init) = some (.type "function")) (xb_InvalidNumber_InvalidNumber : PySem.W.subIn K (.ref C_InvalidNumber) (.type "BaseException") = some true) (xi_InvalidNumber_InvalidNumber : PySem.W.isClsIn K C_InvalidNumber = true) (xt_InvalidNumber_InvalidNumber : PySem.W.typeIn K (.ref C_InvalidNumber) = some (.type "type")) (xs_InvalidNumber_InvalidNumber : PySem.W.subIn K (.ref C_InvalidNumber) (.ref C_InvalidNumber) = some true) (no_InvalidNumber_value : PySem.W.findIn K (.ref C_InvalidNumber) "value" = some none) (no_InvalidNumber_code : PySem.W.findIn K (.ref C_InvalidNumber) "code" = some none) (pg_Disk : PySem.W.plainGet K C_Disk Str.empty = true) (hd_Disk : PySem.W.hasDictIn K C_Disk = true) (po_Disk : PySem.W.plainOver K C_Disk = true) (sa_Disk : PySem.W.findIn K (.ref C_Disk) "__setattr__" = some (some (.builtin "object.__setattr__"))) (mk_Disk : PySem.W.makesIn K C_Disk = true) (kc_Disk : PySem.W.keepIn K (.ref C_Disk) = true) (th_Disk : PySem.W.findIn K (.ref C_Disk) "__class__" = some (some (.builtin "object.__class__"))) (tn_Disk : PySem.W.specialIn K (.builtin "object.__class__") "__get__" = some (some (.builtin "getset_descriptor.__get__"))) (tk_Disk : PySem.W.takesIn K (.builtin "object.__class__") = some true) (tm_Disk : PySem.W.mroIn K C_Disk (.type "object") = some true) (kt_Disk_Disk : PySem.W.kitOne K (.ref C_Disk) (.ref C_Disk) = some true) (no_Disk_most : PySem.W.findIn K (.ref C_Disk) "_most" = some none) (no_Disk_table : PySem.W.findIn K (.ref C_Disk) "_table" = some none) (no_Disk_areas : PySem.W.findIn K (.ref C_Disk) "_areas" = some none) (no_Disk_unsynced : PySem.W.findIn K (.ref C_Disk) "_unsynced" = some none) (no_Disk_syncs : PySem.W.findIn K (.ref C_Disk) "_syncs" = some none) (no_Disk_fallen : PySem.W.findIn K (.ref C_Disk) "_fallen" = some none) (no_Disk_area : PySem.W.findIn K (.ref C_Disk) "_area" = some none) (no_Disk_generation : PySem.W.findIn K (.ref C_Disk) "_generation" = some none) (no_Disk_pieces : PySem.W.findIn K (.ref C_Disk) "_pieces" = some none) (no_Disk_rows : PySem.W.findIn K (.ref C_Disk) "_rows" = some none) (me_Disk_put : PySem.W.findIn K (.ref C_Disk) "_put" = some (some (.ref A_Disk_put))) (mi_Disk_put : PySem.W.isFn K (.ref A_Disk_put) = true) (me_Disk_take_area : PySem.W.findIn K (.ref C_Disk) "_take_area" = some (some (.ref A_Disk_take_area))) (mi_Disk_take_area : PySem.W.isFn K (.ref A_Disk_take_area) = true) (me_Disk_greatest : PySem.W.findIn K (.ref C_Disk) "_greatest" = some (some (.ref A_Disk_greatest))) (mi_Disk_greatest : PySem.W.isFn K (.ref A_Disk_greatest) = true) (me_Disk_write : PySem.W.findIn K (.ref C_Disk) "write" = some (some (.ref A_Disk_write))) (mi_Disk_write : PySem.W.isFn K (.ref A_Disk_write) = true) (me_Disk_check : PySem.W.findIn K (.ref C_Disk) "check" = some (some (.ref A_Disk_check))) (mi_Disk_check : PySem.W.isFn K (.ref A_Disk_check) = true) (me_Disk_sync : PySem.W.findIn K (.ref C_Disk) "sync" = some (some (.ref A_Disk_sync))) (mi_Disk_sync : PySem.W.isFn K (.ref A_Disk_sync) = true) (me_Disk_table : PySem.W.findIn K (.ref C_Disk) "table" = some (some (.ref A_Disk_table))) (mi_Disk_table : PySem.W.isFn K (.ref A_Disk_table) = true) (me_Disk_areas : PySem.W.findIn K (.ref C_Disk) "areas" = some (some (.ref A_Disk_areas))) (mi_Disk_areas : PySem.W.isFn K (.ref A_Disk_areas) = true) (me_Disk_unsynced : PySem.W.findIn K (.ref C_Disk) "unsynced" = some (some (.ref A_Disk_unsynced))) (mi_Disk_unsynced : PySem.W.isFn K (.ref A_Disk_unsynced) = true) (me_Disk_copy : PySem.W.findIn K (.ref C_Disk) "copy" = some (some (.ref A_Disk_copy))) (mi_Disk_copy : PySem.W.isFn K (.ref A_Disk_copy) = true) (rd_Disk : PySem.W.readsIn K C_Disk (.type "type") = true) (gat_Disk : PySem.W.specialIn K (.ref C_Disk) "__getattribute__" = some (some (.builtin "type.__getattribute__"))) (cvl_Disk_STRETCH : PySem.W.findCls K (.ref C_Disk) (.type "type") "STRETCH" = some (.val (.int 60 tcv_Disk_STRETCH))) : Tx K mg where
  C_SureletError := C_SureletError
  m_SureletError := PySem.W.mg_of X G aC_SureletError
  C_InvalidNumber := C_InvalidNumber
  m_InvalidNumber := PySem.W.mg_of X G aC_InvalidNumber
  C_Disk := C_Disk
  m_Disk := PySem.W.mg_of X G aC_Disk
  a_InvalidNumber_init := A_InvalidNumber_init
  cc_InvalidNumber_init := cc_InvalidNumber_init
  cda_InvalidNumber_init := cda_InvalidNumber_init
  fd_InvalidNumber_init := PySem.W.fnX "__init__" "InvalidNumber.__init__" (defArgs s_InvalidNumber_init) (defBody s_InvalidNumber_init) (defScope s_InvalidNumber_init) [("__class__", cc_InvalidNumber_init)] .none kV_InvalidNumber_init doc_InvalidNumber_init pm_InvalidNumber_init an_InvalidNumber_init (.ref cda_InvalidNumber_init) ct_InvalidNumber_init
  F_InvalidNumber_init := funS_mk l_InvalidNumber_init c_InvalidNumber_init k_InvalidNumber_init
  b_InvalidNumber_init := (funS_mk l_InvalidNumber_init c_InvalidNumber_init k_InvalidNumber_init).binds (st := s_InvalidNumber_init) (ps := P_InvalidNumber_init) fun _ _ _ _ _ us hl => match us, hl with | [_, _], _ => rfl
  ce_InvalidNumber_init := ⟨_, _, _, cell_InvalidNumber_init⟩
  sd_InvalidNumber_init := ⟨⟨_, _, _, _, _, l_InvalidNumber_init, rfl, rfl⟩, ⟨_, _, _, _, _, _, code_InvalidNumber_init, vs_InvalidNumber_init, fl_InvalidNumber_init⟩, ⟨_, _, _, cell_InvalidNumber_init⟩, ⟨_, cd_InvalidNumber_init⟩, PySem.W.mg_none_of X G z_super, top_super, st_thirdparty⟩
  k_InvalidNumber_init := k_InvalidNumber_init
  a_is_number := A_is_number
  fd_is_number := PySem.W.fnOf "is_number" "is_number" (defArgs s_is_number) (defBody s_is_number) (defScope s_is_number) .none kV_is_number doc_is_number pm_is_number an_is_number cdv_is_number ct_is_number
  F_is_number := fun_mk (st := s_is_number) l_is_number c_is_number k_is_number
  b_is_number := (fun_mk (st := s_is_number) l_is_number c_is_number k_is_number).binds (ps := P_is_number) fun _ _ _ _ _ _ us hl => match us, hl with | [_, _, _], _ => rfl
  k_is_number := k_is_number
  m_is_number := PySem.W.mg_of X G a_is_number
  a_stretches_of := A_stretches_of
  fd_stretches_of := PySem.W.fnOf "stretches_of" "stretches_of" (defArgs s_stretches_of) (defBody s_stretches_of) (defScope s_stretches_of) .none kV_stretches_of doc_stretches_of pm_stretches_of an_stretches_of cdv_stretches_of ct_stretches_of
  F_stretches_of := fun_mk (st := s_stretches_of) l_stretches_of c_stretches_of k_stretches_of
  b_stretches_of := (fun_mk (st := s_stretches_of) l_stretches_of c_stretches_of k_stretches_of).binds (ps := P_stretches_of) fun _ _ _ _ _ _ us hl => match us, hl with | [_, _], _ => rfl
  k_stretches_of := k_stretches_of
  m_stretches_of := PySem.W.mg_of X G a_stretches_of
  a_text_of := A_text_of
  fd_text_of := PySem.W.fnOf "text_of" "text_of" (defArgs s_text_of) (defBody s_text_of) (defScope s_text_of) .none kV_text_of doc_text_of pm_text_of an_text_of cdv_text_of ct_text_of
  F_text_of := fun_mk (st := s_text_of) l_text_of c_text_of k_text_of
  b_text_of := (fun_mk (st := s_text_of) l_text_of c_text_of k_text_of).binds (ps := P_text_of) fun _ _ _ _ _ _ us hl => match us, hl with | [_], _ => rfl
  k_text_of := k_text_of
  m_text_of := PySem.W.mg_of X G a_text_of
  a_words_of := A_words_of
  fd_words_of := PySem.W.fnOf "words_of" "words_of" (defArgs s_words_of) (defBody s_words_of) (defScope s_words_of) .none kV_words_of doc_words_of pm_words_of an_words_of cdv_words_of ct_words_of
  F_words_of := fun_mk (st := s_words_of) l_words_of c_words_of k_words_of
  b_words_of := (fun_mk (st := s_words_of) l_words_of c_words_of k_words_of).binds (ps := P_words_of) fun _ _ _ _ _ _ us hl => match us, hl with | [_, _], _ => rfl
  k_words_of := k_words_of
  m_words_of := PySem.W.mg_of X G a_words_of
  a_generation_of := A_generation_of
  fd_generation_of := PySem.W.fnOf "generation_of" "generation_of" (defArgs s_generation_of) (defBody s_generation_of) (defScope s_generation_of) .none kV_generation_of doc_generation_of pm_generation_of an_generation_of cdv_generation_of ct_generation_of
  F_generation_of := fun_mk (st := s_generation_of) l_generation_of c_generation_of k_generation_of
  b_generation_of := (fun_mk (st := s_generation_of) l_generation_of c_generation_of k_generation_of).binds (ps := P_generation_of) fun _ _ _ _ _ _ us hl => match us, hl with | [_], _ => rfl
  k_generation_of := k_generation_of
  m_generation_of := PySem.W.mg_of X G a_generation_of
  a_Disk_init := A_Disk_init
  fd_Disk_init := PySem.W.fnOf "__init__" "Disk.__init__" (defArgs s_Disk_init) (defBody s_Disk_init) (defScope s_Disk_init) .none (.ref KD_Disk_init) doc_Disk_init pm_Disk_init an_Disk_init cdv_Disk_init ct_Disk_init
  F_Disk_init := funD_mk0 l_Disk_init c_Disk_init k_Disk_init (fun q hq => by (simp only [List.mem_cons, List.not_mem_nil, or_false] at hq; rcases hq with rfl <;> first | exact ⟨_, kd_Disk_init_rows, rfl⟩ | exact ⟨_, kd_Disk_init_rows, ⟨_, rfl⟩⟩))
  k_Disk_init := k_Disk_init
  a_Disk_put := A_Disk_put
  fd_Disk_put := PySem.W.fnOf "_put" "Disk._put" (defArgs s_Disk_put) (defBody s_Disk_put) (defScope s_Disk_put) .none kV_Disk_put doc_Disk_put pm_Disk_put an_Disk_put cdv_Disk_put ct_Disk_put
  F_Disk_put := fun_mk (st := s_Disk_put) l_Disk_put c_Disk_put k_Disk_put
  b_Disk_put := (fun_mk (st := s_Disk_put) l_Disk_put c_Disk_put k_Disk_put).binds (ps := P_Disk_put) fun _ _ _ _ _ _ us hl => match us, hl with | [_, _, _, _], _ => rfl
  k_Disk_put := k_Disk_put
  a_Disk_take_area := A_Disk_take_area
  fd_Disk_take_area := PySem.W.fnOf "_take_area" "Disk._take_area" (defArgs s_Disk_take_area) (defBody s_Disk_take_area) (defScope s_Disk_take_area) .none kV_Disk_take_area doc_Disk_take_area pm_Disk_take_area an_Disk_take_area cdv_Disk_take_area ct_Disk_take_area
  F_Disk_take_area := fun_mk (st := s_Disk_take_area) l_Disk_take_area c_Disk_take_area k_Disk_take_area
  b_Disk_take_area := (fun_mk (st := s_Disk_take_area) l_Disk_take_area c_Disk_take_area k_Disk_take_area).binds (ps := P_Disk_take_area) fun _ _ _ _ _ _ us hl => match us, hl with | [_, _, _], _ => rfl
  k_Disk_take_area := k_Disk_take_area
  a_Disk_greatest := A_Disk_greatest
  fd_Disk_greatest := PySem.W.fnOf "_greatest" "Disk._greatest" (defArgs s_Disk_greatest) (defBody s_Disk_greatest) (defScope s_Disk_greatest) .none kV_Disk_greatest doc_Disk_greatest pm_Disk_greatest an_Disk_greatest cdv_Disk_greatest ct_Disk_greatest
  F_Disk_greatest := fun_mk (st := s_Disk_greatest) l_Disk_greatest c_Disk_greatest k_Disk_greatest
  b_Disk_greatest := (fun_mk (st := s_Disk_greatest) l_Disk_greatest c_Disk_greatest k_Disk_greatest).binds (ps := P_Disk_greatest) fun _ _ _ _ _ _ us hl => match us, hl with | [_], _ => rfl
  k_Disk_greatest := k_Disk_greatest
  a_Disk_write := A_Disk_write
  fd_Disk_write := PySem.W.fnOf "write" "Disk.write" (defArgs s_Disk_write) (defBody s_Disk_write) (defScope s_Disk_write) .none kV_Disk_write doc_Disk_write pm_Disk_write an_Disk_write cdv_Disk_write ct_Disk_write
  F_Disk_write := fun_mk (st := s_Disk_write) l_Disk_write c_Disk_write k_Disk_write
  b_Disk_write := (fun_mk (st := s_Disk_write) l_Disk_write c_Disk_write k_Disk_write).binds (ps := P_Disk_write) fun _ _ _ _ _ _ us hl => match us, hl with | [_, _], _ => rfl
  k_Disk_write := k_Disk_write
  a_Disk_check := A_Disk_check
  fd_Disk_check := PySem.W.fnOf "check" "Disk.check" (defArgs s_Disk_check) (defBody s_Disk_check) (defScope s_Disk_check) .none (.ref KD_Disk_check) doc_Disk_check pm_Disk_check an_Disk_check cdv_Disk_check ct_Disk_check
  F_Disk_check := funD_mk0 l_Disk_check c_Disk_check k_Disk_check (fun q hq => by (simp only [List.mem_cons, List.not_mem_nil, or_false] at hq; rcases hq with rfl <;> first | exact ⟨_, kd_Disk_check_synced, rfl⟩ | exact ⟨_, kd_Disk_check_synced, ⟨_, rfl⟩⟩))
  k_Disk_check := k_Disk_check
  a_Disk_sync := A_Disk_sync
  fd_Disk_sync := PySem.W.fnOf "sync" "Disk.sync" (defArgs s_Disk_sync) (defBody s_Disk_sync) (defScope s_Disk_sync) .none kV_Disk_sync doc_Disk_sync pm_Disk_sync an_Disk_sync cdv_Disk_sync ct_Disk_sync
  F_Disk_sync := fun_mk (st := s_Disk_sync) l_Disk_sync c_Disk_sync k_Disk_sync
  b_Disk_sync := (fun_mk (st := s_Disk_sync) l_Disk_sync c_Disk_sync k_Disk_sync).binds (ps := P_Disk_sync) fun _ _ _ _ _ _ us hl => match us, hl with | [_], _ => rfl
  k_Disk_sync := k_Disk_sync
  a_Disk_table := A_Disk_table
  fd_Disk_table := PySem.W.fnOf "table" "Disk.table" (defArgs s_Disk_table) (defBody s_Disk_table) (defScope s_Disk_table) .none kV_Disk_table doc_Disk_table pm_Disk_table an_Disk_table cdv_Disk_table ct_Disk_table
  F_Disk_table := fun_mk (st := s_Disk_table) l_Disk_table c_Disk_table k_Disk_table
  b_Disk_table := (fun_mk (st := s_Disk_table) l_Disk_table c_Disk_table k_Disk_table).binds (ps := P_Disk_table) fun _ _ _ _ _ _ us hl => match us, hl with | [_], _ => rfl
  k_Disk_table := k_Disk_table
  a_Disk_areas := A_Disk_areas
  fd_Disk_areas := PySem.W.fnOf "areas" "Disk.areas" (defArgs s_Disk_areas) (defBody s_Disk_areas) (defScope s_Disk_areas) .none kV_Disk_areas doc_Disk_areas pm_Disk_areas an_Disk_areas cdv_Disk_areas ct_Disk_areas
  F_Disk_areas := fun_mk (st := s_Disk_areas) l_Disk_areas c_Disk_areas k_Disk_areas
  b_Disk_areas := (fun_mk (st := s_Disk_areas) l_Disk_areas c_Disk_areas k_Disk_areas).binds (ps := P_Disk_areas) fun _ _ _ _ _ _ us hl => match us, hl with | [_], _ => rfl
  k_Disk_areas := k_Disk_areas
  a_Disk_unsynced := A_Disk_unsynced
  fd_Disk_unsynced := PySem.W.fnOf "unsynced" "Disk.unsynced" (defArgs s_Disk_unsynced) (defBody s_Disk_unsynced) (defScope s_Disk_unsynced) .none kV_Disk_unsynced doc_Disk_unsynced pm_Disk_unsynced an_Disk_unsynced cdv_Disk_unsynced ct_Disk_unsynced
  F_Disk_unsynced := fun_mk (st := s_Disk_unsynced) l_Disk_unsynced c_Disk_unsynced k_Disk_unsynced
  b_Disk_unsynced := (fun_mk (st := s_Disk_unsynced) l_Disk_unsynced c_Disk_unsynced k_Disk_unsynced).binds (ps := P_Disk_unsynced) fun _ _ _ _ _ _ us hl => match us, hl with | [_], _ => rfl
  k_Disk_unsynced := k_Disk_unsynced
  a_Disk_syncs := A_Disk_syncs
  a_Disk_syncs_p := PP_Disk_syncs
  fd_Disk_syncs := PySem.W.fnOf "syncs" "Disk.syncs" (defArgs s_Disk_syncs) (defBody s_Disk_syncs) (defScope s_Disk_syncs) .none kV_Disk_syncs doc_Disk_syncs pm_Disk_syncs an_Disk_syncs cdv_Disk_syncs ct_Disk_syncs
  F_Disk_syncs := fun_mk (st := s_Disk_syncs) l_Disk_syncs c_Disk_syncs k_Disk_syncs
  b_Disk_syncs := (fun_mk (st := s_Disk_syncs) l_Disk_syncs c_Disk_syncs k_Disk_syncs).binds (ps := P_Disk_syncs) fun _ _ _ _ _ _ us hl => match us, hl with | [_], _ => rfl
  k_Disk_syncs := k_Disk_syncs
  a_Disk_fallen := A_Disk_fallen
  a_Disk_fallen_p := PP_Disk_fallen
  fd_Disk_fallen := PySem.W.fnOf "fallen" "Disk.fallen" (defArgs s_Disk_fallen) (defBody s_Disk_fallen) (defScope s_Disk_fallen) .none kV_Disk_fallen doc_Disk_fallen pm_Disk_fallen an_Disk_fallen cdv_Disk_fallen ct_Disk_fallen
  F_Disk_fallen := fun_mk (st := s_Disk_fallen) l_Disk_fallen c_Disk_fallen k_Disk_fallen
  b_Disk_fallen := (fun_mk (st := s_Disk_fallen) l_Disk_fallen c_Disk_fallen k_Disk_fallen).binds (ps := P_Disk_fallen) fun _ _ _ _ _ _ us hl => match us, hl with | [_], _ => rfl
  k_Disk_fallen := k_Disk_fallen
  a_Disk_copy := A_Disk_copy
  fd_Disk_copy := PySem.W.fnOf "copy" "Disk.copy" (defArgs s_Disk_copy) (defBody s_Disk_copy) (defScope s_Disk_copy) .none kV_Disk_copy doc_Disk_copy pm_Disk_copy an_Disk_copy cdv_Disk_copy ct_Disk_copy
  F_Disk_copy := fun_mk (st := s_Disk_copy) l_Disk_copy c_Disk_copy k_Disk_copy
  b_Disk_copy := (fun_mk (st := s_Disk_copy) l_Disk_copy c_Disk_copy k_Disk_copy).binds (ps := P_Disk_copy) fun _ _ _ _ _ _ us hl => match us, hl with | [_], _ => rfl
  k_Disk_copy := k_Disk_copy
  a_bag := A_bag
  fd_bag := PySem.W.fnOf "_law_bag" "_law_bag" (defArgs s_bag) (defBody s_bag) (defScope s_bag) .none kV_bag doc_bag pm_bag an_bag cdv_bag ct_bag
  F_bag := fun_mk (st := s_bag) l_bag c_bag k_bag
  b_bag := (fun_mk (st := s_bag) l_bag c_bag k_bag).binds (ps := P_bag) fun _ _ _ _ _ _ us hl => match us, hl with | [_], _ => rfl
  k_bag := k_bag
  m_bag := PySem.W.mg_of X G a_bag
  a_draw := A_draw
  fd_draw := PySem.W.fnOf "_law_draw" "_law_draw" (defArgs s_draw) (defBody s_draw) (defScope s_draw) .none kV_draw doc_draw pm_draw an_draw cdv_draw ct_draw
  F_draw := fun_mk (st := s_draw) l_draw c_draw k_draw
  b_draw := (fun_mk (st := s_draw) l_draw c_draw k_draw).binds (ps := P_draw) fun _ _ _ _ _ _ us hl => match us, hl with | [_, _], _ => rfl
  k_draw := k_draw
  m_draw := PySem.W.mg_of X G a_draw
  a_of := A_of
  fd_of := PySem.W.fnOf "_law_of" "_law_of" (defArgs s_of) (defBody s_of) (defScope s_of) .none kV_of doc_of pm_of an_of cdv_of ct_of
  F_of := fun_mk (st := s_of) l_of c_of k_of
  b_of := (fun_mk (st := s_of) l_of c_of k_of).binds (ps := P_of) fun _ _ _ _ _ _ us hl => match us, hl with | [_, _], _ => rfl
  k_of := k_of
  m_of := PySem.W.mg_of X G a_of
  a_like := A_like
  fd_like := PySem.W.fnOf "_law_like" "_law_like" (defArgs s_like) (defBody s_like) (defScope s_like) .none kV_like doc_like pm_like an_like cdv_like ct_like
  F_like := fun_mk (st := s_like) l_like c_like k_like
  b_like := (fun_mk (st := s_like) l_like c_like k_like).binds (ps := P_like) fun _ _ _ _ _ _ us hl => match us, hl with | [_, _], _ => rfl
  k_like := k_like
  m_like := PySem.W.mg_of X G a_like
  a_odd := A_odd
  fd_odd := PySem.W.fnOf "_law_odd" "_law_odd" (defArgs s_odd) (defBody s_odd) (defScope s_odd) .none kV_odd doc_odd pm_odd an_odd cdv_odd ct_odd
  F_odd := fun_mk (st := s_odd) l_odd c_odd k_odd
  b_odd := (fun_mk (st := s_odd) l_odd c_odd k_odd).binds (ps := P_odd) fun _ _ _ _ _ _ us hl => match us, hl with | [_], _ => rfl
  k_odd := k_odd
  m_odd := PySem.W.mg_of X G a_odd
  a_cut := A_cut
  fd_cut := PySem.W.fnOf "_law_cut" "_law_cut" (defArgs s_cut) (defBody s_cut) (defScope s_cut) .none kV_cut doc_cut pm_cut an_cut cdv_cut ct_cut
  F_cut := fun_mk (st := s_cut) l_cut c_cut k_cut
  b_cut := (fun_mk (st := s_cut) l_cut c_cut k_cut).binds (ps := P_cut) fun _ _ _ _ _ _ us hl => match us, hl with | [_], _ => rfl
  k_cut := k_cut
  m_cut := PySem.W.mg_of X G a_cut
  a_written := A_written
  fd_written := PySem.W.fnOf "_law_written" "_law_written" (defArgs s_written) (defBody s_written) (defScope s_written) .none kV_written doc_written pm_written an_written cdv_written ct_written
  F_written := fun_mk (st := s_written) l_written c_written k_written
  b_written := (fun_mk (st := s_written) l_written c_written k_written).binds (ps := P_written) fun _ _ _ _ _ _ us hl => match us, hl with | [_], _ => rfl
  k_written := k_written
  m_written := PySem.W.mg_of X G a_written
  a_recorded := A_recorded
  fd_recorded := PySem.W.fnOf "_law_recorded" "_law_recorded" (defArgs s_recorded) (defBody s_recorded) (defScope s_recorded) .none kV_recorded doc_recorded pm_recorded an_recorded cdv_recorded ct_recorded
  F_recorded := fun_mk (st := s_recorded) l_recorded c_recorded k_recorded
  b_recorded := (fun_mk (st := s_recorded) l_recorded c_recorded k_recorded).binds (ps := P_recorded) fun _ _ _ _ _ _ us hl => match us, hl with | [_], _ => rfl
  k_recorded := k_recorded
  m_recorded := PySem.W.mg_of X G a_recorded
  a_new := A_new
  fd_new := PySem.W.fnOf "_law_new" "_law_new" (defArgs s_new) (defBody s_new) (defScope s_new) .none kV_new doc_new pm_new an_new cdv_new ct_new
  F_new := fun_mk (st := s_new) l_new c_new k_new
  b_new := (fun_mk (st := s_new) l_new c_new k_new).binds (ps := P_new) fun _ _ _ _ _ _ us hl => match us, hl with | [_, _], _ => rfl
  k_new := k_new
  m_new := PySem.W.mg_of X G a_new
  a_copy := A_copy
  fd_copy := PySem.W.fnOf "_law_copy" "_law_copy" (defArgs s_copy) (defBody s_copy) (defScope s_copy) .none kV_copy doc_copy pm_copy an_copy cdv_copy ct_copy
  F_copy := fun_mk (st := s_copy) l_copy c_copy k_copy
  b_copy := (fun_mk (st := s_copy) l_copy c_copy k_copy).binds (ps := P_copy) fun _ _ _ _ _ _ us hl => match us, hl with | [_], _ => rfl
  k_copy := k_copy
  m_copy := PySem.W.mg_of X G a_copy
  a_sync := A_sync
  fd_sync := PySem.W.fnOf "_law_sync" "_law_sync" (defArgs s_sync) (defBody s_sync) (defScope s_sync) .none kV_sync doc_sync pm_sync an_sync cdv_sync ct_sync
  F_sync := fun_mk (st := s_sync) l_sync c_sync k_sync
  b_sync := (fun_mk (st := s_sync) l_sync c_sync k_sync).binds (ps := P_sync) fun _ _ _ _ _ _ us hl => match us, hl with | [_], _ => rfl
  k_sync := k_sync
  m_sync := PySem.W.mg_of X G a_sync
  a_check := A_check
  fd_check := PySem.W.fnOf "_law_check" "_law_check" (defArgs s_check) (defBody s_check) (defScope s_check) .none kV_check doc_check pm_check an_check cdv_check ct_check
  F_check := fun_mk (st := s_check) l_check c_check k_check
  b_check := (fun_mk (st := s_check) l_check c_check k_check).binds (ps := P_check) fun _ _ _ _ _ _ us hl => match us, hl with | [_, _], _ => rfl
  k_check := k_check
  m_check := PySem.W.mg_of X G a_check
  a_write := A_write
  fd_write := PySem.W.fnOf "_law_write" "_law_write" (defArgs s_write) (defBody s_write) (defScope s_write) .none kV_write doc_write pm_write an_write cdv_write ct_write
  F_write := fun_mk (st := s_write) l_write c_write k_write
  b_write := (fun_mk (st := s_write) l_write c_write k_write).binds (ps := P_write) fun _ _ _ _ _ _ us hl => match us, hl with | [_, _], _ => rfl
  k_write := k_write
  m_write := PySem.W.mg_of X G a_write
  a_areas := A_areas
  fd_areas := PySem.W.fnOf "_law_areas" "_law_areas" (defArgs s_areas) (defBody s_areas) (defScope s_areas) .none kV_areas doc_areas pm_areas an_areas cdv_areas ct_areas
  F_areas := fun_mk (st := s_areas) l_areas c_areas k_areas
  b_areas := (fun_mk (st := s_areas) l_areas c_areas k_areas).binds (ps := P_areas) fun _ _ _ _ _ _ us hl => match us, hl with | [_], _ => rfl
  k_areas := k_areas
  m_areas := PySem.W.mg_of X G a_areas
  a_key := A_key
  fd_key := PySem.W.fnOf "_law_key" "_law_key" (defArgs s_key) (defBody s_key) (defScope s_key) .none kV_key doc_key pm_key an_key cdv_key ct_key
  F_key := fun_mk (st := s_key) l_key c_key k_key
  b_key := (fun_mk (st := s_key) l_key c_key k_key).binds (ps := P_key) fun _ _ _ _ _ _ us hl => match us, hl with | [_], _ => rfl
  k_key := k_key
  m_key := PySem.W.mg_of X G a_key
  a_long := A_long
  fd_long := PySem.W.fnOf "_law_long" "_law_long" (defArgs s_long) (defBody s_long) (defScope s_long) .none kV_long doc_long pm_long an_long cdv_long ct_long
  F_long := fun_mk (st := s_long) l_long c_long k_long
  b_long := (fun_mk (st := s_long) l_long c_long k_long).binds (ps := P_long) fun _ _ _ _ _ _ us hl => match us, hl with | [_, _], _ => rfl
  k_long := k_long
  m_long := PySem.W.mg_of X G a_long
  a_value := A_value
  fd_value := PySem.W.fnOf "_law_value" "_law_value" (defArgs s_value) (defBody s_value) (defScope s_value) .none kV_value doc_value pm_value an_value cdv_value ct_value
  F_value := fun_mk (st := s_value) l_value c_value k_value
  b_value := (fun_mk (st := s_value) l_value c_value k_value).binds (ps := P_value) fun _ _ _ _ _ _ us hl => match us, hl with | [_, _], _ => rfl
  k_value := k_value
  m_value := PySem.W.mg_of X G a_value
  a_changes := A_changes
  fd_changes := PySem.W.fnOf "_law_changes" "_law_changes" (defArgs s_changes) (defBody s_changes) (defScope s_changes) .none kV_changes doc_changes pm_changes an_changes cdv_changes ct_changes
  F_changes := fun_mk (st := s_changes) l_changes c_changes k_changes
  b_changes := (fun_mk (st := s_changes) l_changes c_changes k_changes).binds (ps := P_changes) fun _ _ _ _ _ _ us hl => match us, hl with | [_, _], _ => rfl
  k_changes := k_changes
  m_changes := PySem.W.mg_of X G a_changes
  a_shelf := A_shelf
  fd_shelf := PySem.W.fnOf "_law_shelf" "_law_shelf" (defArgs s_shelf) (defBody s_shelf) (defScope s_shelf) .none kV_shelf doc_shelf pm_shelf an_shelf cdv_shelf ct_shelf
  F_shelf := fun_mk (st := s_shelf) l_shelf c_shelf k_shelf
  b_shelf := (fun_mk (st := s_shelf) l_shelf c_shelf k_shelf).binds (ps := P_shelf) fun _ _ _ _ _ _ us hl => match us, hl with | [_], _ => rfl
  k_shelf := k_shelf
  m_shelf := PySem.W.mg_of X G a_shelf
  a_most := A_most
  fd_most := PySem.W.fnOf "_law_most" "_law_most" (defArgs s_most) (defBody s_most) (defScope s_most) .none kV_most doc_most pm_most an_most cdv_most ct_most
  F_most := fun_mk (st := s_most) l_most c_most k_most
  b_most := (fun_mk (st := s_most) l_most c_most k_most).binds (ps := P_most) fun _ _ _ _ _ _ us hl => match us, hl with | [_], _ => rfl
  k_most := k_most
  m_most := PySem.W.mg_of X G a_most
  a_pairs := A_pairs
  fd_pairs := PySem.W.fnOf "_law_pairs" "_law_pairs" (defArgs s_pairs) (defBody s_pairs) (defScope s_pairs) .none kV_pairs doc_pairs pm_pairs an_pairs cdv_pairs ct_pairs
  F_pairs := fun_mk (st := s_pairs) l_pairs c_pairs k_pairs
  b_pairs := (fun_mk (st := s_pairs) l_pairs c_pairs k_pairs).binds (ps := P_pairs) fun _ _ _ _ _ _ us hl => match us, hl with | [_], _ => rfl
  k_pairs := k_pairs
  m_pairs := PySem.W.mg_of X G a_pairs
  a_disk_so := A_disk_so
  fd_disk_so := PySem.W.fnOf "_law_disk_so" "_law_disk_so" (defArgs s_disk_so) (defBody s_disk_so) (defScope s_disk_so) .none kV_disk_so doc_disk_so pm_disk_so an_disk_so cdv_disk_so ct_disk_so
  F_disk_so := fun_mk (st := s_disk_so) l_disk_so c_disk_so k_disk_so
  b_disk_so := (fun_mk (st := s_disk_so) l_disk_so c_disk_so k_disk_so).binds (ps := P_disk_so) fun _ _ _ _ _ _ us hl => match us, hl with | [_, _], _ => rfl
  k_disk_so := k_disk_so
  m_disk_so := PySem.W.mg_of X G a_disk_so
  a_ask := A_ask
  fd_ask := PySem.W.fnOf "_law_ask" "_law_ask" (defArgs s_ask) (defBody s_ask) (defScope s_ask) .none kV_ask doc_ask pm_ask an_ask cdv_ask ct_ask
  F_ask := fun_mk (st := s_ask) l_ask c_ask k_ask
  b_ask := (fun_mk (st := s_ask) l_ask c_ask k_ask).binds (ps := P_ask) fun _ _ _ _ _ _ us hl => match us, hl with | [_], _ => rfl
  k_ask := k_ask
  m_ask := PySem.W.mg_of X G a_ask
  a_deed := A_deed
  fd_deed := PySem.W.fnOf "_law_deed" "_law_deed" (defArgs s_deed) (defBody s_deed) (defScope s_deed) .none kV_deed doc_deed pm_deed an_deed cdv_deed ct_deed
  F_deed := fun_mk (st := s_deed) l_deed c_deed k_deed
  b_deed := (fun_mk (st := s_deed) l_deed c_deed k_deed).binds (ps := P_deed) fun _ _ _ _ _ _ us hl => match us, hl with | [_, _, _], _ => rfl
  k_deed := k_deed
  m_deed := PySem.W.mg_of X G a_deed
  a_twin := A_twin
  fd_twin := PySem.W.fnOf "_law_twin" "_law_twin" (defArgs s_twin) (defBody s_twin) (defScope s_twin) .none kV_twin doc_twin pm_twin an_twin cdv_twin ct_twin
  F_twin := fun_mk (st := s_twin) l_twin c_twin k_twin
  b_twin := (fun_mk (st := s_twin) l_twin c_twin k_twin).binds (ps := P_twin) fun _ _ _ _ _ _ us hl => match us, hl with | [_], _ => rfl
  k_twin := k_twin
  m_twin := PySem.W.mg_of X G a_twin
  a_spoilt_so := A_spoilt_so
  fd_spoilt_so := PySem.W.fnOf "_law_spoilt_so" "_law_spoilt_so" (defArgs s_spoilt_so) (defBody s_spoilt_so) (defScope s_spoilt_so) .none kV_spoilt_so doc_spoilt_so pm_spoilt_so an_spoilt_so cdv_spoilt_so ct_spoilt_so
  F_spoilt_so := fun_mk (st := s_spoilt_so) l_spoilt_so c_spoilt_so k_spoilt_so
  b_spoilt_so := (fun_mk (st := s_spoilt_so) l_spoilt_so c_spoilt_so k_spoilt_so).binds (ps := P_spoilt_so) fun _ _ _ _ _ _ us hl => match us, hl with | [_, _], _ => rfl
  k_spoilt_so := k_spoilt_so
  m_spoilt_so := PySem.W.mg_of X G a_spoilt_so
  a_size_so := A_size_so
  fd_size_so := PySem.W.fnOf "_law_size_so" "_law_size_so" (defArgs s_size_so) (defBody s_size_so) (defScope s_size_so) .none kV_size_so doc_size_so pm_size_so an_size_so (.ref cda_size_so) ct_size_so
  cda_size_so := cda_size_so
  tb_size_so := tb_size_so
  F_size_so := funL_mk (st := s_size_so) l_size_so c_size_so k_size_so
  b_size_so := (funL_mk (st := s_size_so) l_size_so c_size_so k_size_so).fn.binds (ps := P_size_so) fun _ _ _ _ _ _ us hl => match us, hl with | [_], _ => rfl
  k_size_so := k_size_so
  m_size_so := PySem.W.mg_of X G a_size_so
  a_full_so := A_full_so
  fd_full_so := PySem.W.fnOf "_law_full_so" "_law_full_so" (defArgs s_full_so) (defBody s_full_so) (defScope s_full_so) .none kV_full_so doc_full_so pm_full_so an_full_so cdv_full_so ct_full_so
  F_full_so := fun_mk (st := s_full_so) l_full_so c_full_so k_full_so
  b_full_so := (fun_mk (st := s_full_so) l_full_so c_full_so k_full_so).binds (ps := P_full_so) fun _ _ _ _ _ _ us hl => match us, hl with | [_], _ => rfl
  k_full_so := k_full_so
  m_full_so := PySem.W.mg_of X G a_full_so
  a_law := A_law
  fd_law := PySem.W.fnOf "law" "law" (defArgs s_law) (defBody s_law) (defScope s_law) .none kV_law doc_law pm_law an_law cdv_law ct_law
  F_law := fun_mk (st := s_law) l_law c_law k_law
  b_law := (fun_mk (st := s_law) l_law c_law k_law).binds (ps := P_law) fun _ _ _ _ _ _ us hl => match us, hl with | [_], _ => rfl
  k_law := k_law
  m_law := PySem.W.mg_of X G a_law
  n_all := PySem.W.mg_none_of X G z_all
  n_bool := PySem.W.mg_none_of X G z_bool
  n_dict := PySem.W.mg_none_of X G z_dict
  n_enumerate := PySem.W.mg_none_of X G z_enumerate
  n_int := PySem.W.mg_none_of X G z_int
  n_isinstance := PySem.W.mg_none_of X G z_isinstance
  n_len := PySem.W.mg_none_of X G z_len
  n_list := PySem.W.mg_none_of X G z_list
  n_max := PySem.W.mg_none_of X G z_max
  n_range := PySem.W.mg_none_of X G z_range
  n_sorted := PySem.W.mg_none_of X G z_sorted
  n_str := PySem.W.mg_none_of X G z_str
  n_super := PySem.W.mg_none_of X G z_super
  n_tuple := PySem.W.mg_none_of X G z_tuple
  n_zip := PySem.W.mg_none_of X G z_zip
  kb_Disk_write_changes := ⟨fun s us ws _ h => by (rcases us with _ | ⟨u0, _ | ⟨zz, us⟩⟩ <;> rcases ws with _ | ⟨w0, _ | ⟨z, ws⟩⟩ <;> first | exact absurd h (fun z => Nat.noConfusion (show (0 : Nat) = Nat.succ _ from z)) | exact .of_eq rfl), fun r1 r2 => by (cases r1 with | nil => exact .nil | cons g0 r1 => (cases r1 with | nil => (cases r2 with | nil => exact .nil | cons h0 r2 => (cases r2 with | nil => exact (.cons g0 (.cons h0 .nil)) | cons _ _ => exact .nil)) | cons _ _ => exact .nil))⟩
  oex_InvalidNumber := ⟨⟨_, _, _, _, _, _, _, _, _, _, _, _, _, _, _, el_InvalidNumber, rfl⟩, es_InvalidNumber, eb_InvalidNumber, et_InvalidNumber, ek_InvalidNumber⟩
  se_InvalidNumber := ⟨⟨⟨_, _, _, _, _, _, _, _, _, _, _, _, _, _, _, el_InvalidNumber, rfl⟩, es_InvalidNumber, eb_InvalidNumber, et_InvalidNumber, ek_InvalidNumber⟩, em_InvalidNumber, eu_InvalidNumber, ev_InvalidNumber⟩
  xf_InvalidNumber := ⟨ega_InvalidNumber, egg_InvalidNumber, eb_InvalidNumber, ehd_InvalidNumber⟩
  ii_InvalidNumber := a_InvalidNumber_init
  ti_InvalidNumber := eti_InvalidNumber
  exm_InvalidNumber_InvalidNumber := exm_selfE xb_InvalidNumber_InvalidNumber xi_InvalidNumber_InvalidNumber xt_InvalidNumber_InvalidNumber xs_InvalidNumber_InvalidNumber
  no_InvalidNumber_value := no_InvalidNumber_value
  no_InvalidNumber_code := no_InvalidNumber_code
  cl_Disk := ⟨pg_Disk, hd_Disk, po_Disk, sa_Disk⟩
  mk_Disk := ⟨mk_Disk, a_Disk_init, i_Disk_init, kc_Disk⟩
  ty_Disk := ⟨⟨pg_Disk, hd_Disk, po_Disk, sa_Disk⟩, th_Disk, tn_Disk, tk_Disk, tm_Disk⟩
  kt_Disk_Disk := kt_Disk_Disk
  no_Disk_most := no_Disk_most
  no_Disk_table := no_Disk_table
  no_Disk_areas := no_Disk_areas
  no_Disk_unsynced := no_Disk_unsynced
  no_Disk_syncs := no_Disk_syncs
  no_Disk_fallen := no_Disk_fallen
  no_Disk_area := no_Disk_area
  no_Disk_generation := no_Disk_generation
  no_Disk_pieces := no_Disk_pieces
  no_Disk_rows := no_Disk_rows
  me_Disk_put := ⟨me_Disk_put, mi_Disk_put, k_Disk_put⟩
  me_Disk_take_area := ⟨me_Disk_take_area, mi_Disk_take_area, k_Disk_take_area⟩
  me_Disk_greatest := ⟨me_Disk_greatest, mi_Disk_greatest, k_Disk_greatest⟩
  me_Disk_write := ⟨me_Disk_write, mi_Disk_write, k_Disk_write⟩
  me_Disk_check := ⟨me_Disk_check, mi_Disk_check, k_Disk_check⟩
  me_Disk_sync := ⟨me_Disk_sync, mi_Disk_sync, k_Disk_sync⟩
  me_Disk_table := ⟨me_Disk_table, mi_Disk_table, k_Disk_table⟩
  me_Disk_areas := ⟨me_Disk_areas, mi_Disk_areas, k_Disk_areas⟩
  me_Disk_unsynced := ⟨me_Disk_unsynced, mi_Disk_unsynced, k_Disk_unsynced⟩
  me_Disk_copy := ⟨me_Disk_copy, mi_Disk_copy, k_Disk_copy⟩
  pr_Disk_syncs := ⟨pa_Disk_syncs, pg_Disk_syncs, pt_Disk_syncs, _, pr_Disk_syncs⟩
  pr_Disk_fallen := ⟨pa_Disk_fallen, pg_Disk_fallen, pt_Disk_fallen, _, pr_Disk_fallen⟩
  cr_Disk := ⟨rd_Disk, gat_Disk⟩
  cv_Disk_STRETCH := ⟨_, cvl_Disk_STRETCH, ⟨_, rfl⟩⟩
theorem tabIn_of {K : PySem.W.Frag} {x : Str} {f cda P : Addr} {oc : Value} {od : Option Addr} {fd : FuncData} {sl sl2 : Array (Option Value)} {e : Value} {dd : Option Addr} {vs : Array Value} (h1 : PySem.W.nsIn K mainGlobals x = some (some (.ref f))) (h2 : K.lookup f = some ⟨oc, od, .func fd, sl⟩)
    (h3 : fd.code = .ref cda) (h4 : K.lookup cda = some ⟨e, dd, .fields vs, sl2⟩) (h5 : vs[11]? = some (.ref P)) : PySem.W.tabIn K x = some (cda, P) := by
  unfold PySem.W.tabIn
  rw [h1]
  simp only [h2, h3, h4, h5]
abbrev TabsTold (q : Program) (K : PySem.W.Frag) (h : Heap) : Prop := ∀ (x : Str) (c P : Addr), ((recsOf q).find? fun e => e.name == x).isSome = true → PySem.W.tabIn K x = some (c, P) → PySem.W.CodeHd h c P ∧ h.get? P = some (PySem.W.tabObj #[])
theorem all_mk {q : Program} {w : World} {K : PySem.W.Frag} {h : Heap} {mg : Str → Option Value} {fa : Addr} (X : K.In h) (G : h.Ns mainGlobals mg) (hfa : mg "law" = some (.ref fa)) (tab : TabsTold q K h) (rc_size_so : ((recsOf q).find? fun e => e.name == ("_law_size_so" : Str)).isSome = true) {C_SureletError : Addr} {C_InvalidNumber : Addr} {C_Disk : Addr} {A_InvalidNumber_init : Addr} {oc_InvalidNumber_init kV_InvalidNumber_init doc_InvalidNumber_init pm_InvalidNumber_init ct_InvalidNumber_init : Value} {od_InvalidNumber_init an_InvalidNumber_init : Option Addr} {sl_InvalidNumber_init : Array (Option Value)} {cc_InvalidNumber_init cda_InvalidNumber_init : Addr} {cl_InvalidNumber_init ccl_InvalidNumber_init : Value} {cld_InvalidNumber_init cdd_InvalidNumber_init : Option Addr} {csl_InvalidNumber_init ccs_InvalidNumber_init : Array (Option Value)} {vs_InvalidNumber_init : Array Value} {file_InvalidNumber_init : Str} {tf_InvalidNumber_init : Tok} {cd_InvalidNumber_init : PySem.ClassData} {A_is_number : Addr} {oc_is_number kV_is_number doc_is_number pm_is_number ct_is_number : Value} {od_is_number an_is_number : Option Addr} {sl_is_number : Array (Option Value)} {cdv_is_number : Value} {A_stretches_of : Addr} {oc_stretches_of kV_stretches_of doc_stretches_of pm_stretches_of ct_stretches_of : Value} {od_stretches_of an_stretches_of : Option Addr} {sl_stretches_of : Array (Option Value)} {cdv_stretches_of : Value} {A_text_of : Addr} {oc_text_of kV_text_of doc_text_of pm_text_of ct_text_of : Value} {od_text_of an_text_of : Option Addr} {sl_text_of : Array (Option Value)} {cdv_text_of : Value} {A_words_of : Addr} {oc_words_of kV_words_of doc_words_of pm_words_of ct_words_of : Value} {od_words_of an_words_of : Option Addr} {sl_words_of : Array (Option Value)} {cdv_words_of : Value} {A_generation_of : Addr} {oc_generation_of kV_generation_of doc_generation_of pm_generation_of ct_generation_of : Value} {od_generation_of an_generation_of : Option Addr} {sl_generation_of : Array (Option Value)} {cdv_generation_of : Value} {A_Disk_init : Addr} {oc_Disk_init doc_Disk_init pm_Disk_init ct_Disk_init : Value} {od_Disk_init an_Disk_init : Option Addr} {sl_Disk_init : Array (Option Value)} {dtk_Disk_init_rows : Tok} {KD_Disk_init : Addr} {cdv_Disk_init : Value} {A_Disk_put : Addr} {oc_Disk_put kV_Disk_put doc_Disk_put pm_Disk_put ct_Disk_put : Value} {od_Disk_put an_Disk_put : Option Addr} {sl_Disk_put : Array (Option Value)} {cdv_Disk_put : Value} {A_Disk_take_area : Addr} {oc_Disk_take_area kV_Disk_take_area doc_Disk_take_area pm_Disk_take_area ct_Disk_take_area : Value} {od_Disk_take_area an_Disk_take_area : Option Addr} {sl_Disk_take_area : Array (Option Value)} {cdv_Disk_take_area : Value} {A_Disk_greatest : Addr} {oc_Disk_greatest kV_Disk_greatest doc_Disk_greatest pm_Disk_greatest ct_Disk_greatest : Value} {od_Disk_greatest an_Disk_greatest : Option Addr} {sl_Disk_greatest : Array (Option Value)} {cdv_Disk_greatest : Value} {A_Disk_write : Addr} {oc_Disk_write kV_Disk_write doc_Disk_write pm_Disk_write ct_Disk_write : Value} {od_Disk_write an_Disk_write : Option Addr} {sl_Disk_write : Array (Option Value)} {cdv_Disk_write : Value} {A_Disk_check : Addr} {oc_Disk_check doc_Disk_check pm_Disk_check ct_Disk_check : Value} {od_Disk_check an_Disk_check : Option Addr} {sl_Disk_check : Array (Option Value)} {KD_Disk_check : Addr} {cdv_Disk_check : Value} {A_Disk_sync : Addr} {oc_Disk_sync kV_Disk_sync doc_Disk_sync pm_Disk_sync ct_Disk_sync : Value} {od_Disk_sync an_Disk_sync : Option Addr} {sl_Disk_sync : Array (Option Value)} {cdv_Disk_sync : Value} {A_Disk_table : Addr} {oc_Disk_table kV_Disk_table doc_Disk_table pm_Disk_table ct_Disk_table : Value} {od_Disk_table an_Disk_table : Option Addr} {sl_Disk_table : Array (Option Value)} {cdv_Disk_table : Value} {A_Disk_areas : Addr} {oc_Disk_areas kV_Disk_areas doc_Disk_areas pm_Disk_areas ct_Disk_areas : Value} {od_Disk_areas an_Disk_areas : Option Addr} {sl_Disk_areas : Array (Option Value)} {cdv_Disk_areas : Value} {A_Disk_unsynced : Addr} {oc_Disk_unsynced kV_Disk_unsynced doc_Disk_unsynced pm_Disk_unsynced ct_Disk_unsynced : Value} {od_Disk_unsynced an_Disk_unsynced : Option Addr} {sl_Disk_unsynced : Array (Option Value)} {cdv_Disk_unsynced : Value} {A_Disk_syncs : Addr} {oc_Disk_syncs kV_Disk_syncs doc_Disk_syncs pm_Disk_syncs ct_Disk_syncs : Value} {od_Disk_syncs an_Disk_syncs : Option Addr} {sl_Disk_syncs : Array (Option Value)} {PP_Disk_syncs : Addr} {RS_Disk_syncs : List Value} {cdv_Disk_syncs : Value} {A_Disk_fallen : Addr} {oc_Disk_fallen kV_Disk_fallen doc_Disk_fallen pm_Disk_fallen ct_Disk_fallen : Value} {od_Disk_fallen an_Disk_fallen : Option Addr} {sl_Disk_fallen : Array (Option Value)} {PP_Disk_fallen : Addr} {RS_Disk_fallen : List Value} {cdv_Disk_fallen : Value} {A_Disk_copy : Addr} {oc_Disk_copy kV_Disk_copy doc_Disk_copy pm_Disk_copy ct_Disk_copy : Value} {od_Disk_copy an_Disk_copy : Option Addr} {sl_Disk_copy : Array (Option Value)} {cdv_Disk_copy : Value} {A_bag : Addr} {oc_bag kV_bag doc_bag pm_bag ct_bag : Value} {od_bag an_bag : Option Addr} {sl_bag : Array (Option Value)} {cdv_bag : Value} {A_draw : Addr} {oc_draw kV_draw doc_draw pm_draw ct_draw : Value} {od_draw an_draw : Option Addr} {sl_draw : Array (Option Value)} {cdv_draw : Value} {A_of : Addr} {oc_of kV_of doc_of pm_of ct_of : Value} {od_of an_of : Option Addr} {sl_of : Array (Option Value)} {cdv_of : Value} {A_like : Addr} {oc_like kV_like doc_like pm_like ct_like : Value} {od_like an_like : Option Addr} {sl_like : Array (Option Value)} {cdv_like : Value} {A_odd : Addr} {oc_odd kV_odd doc_odd pm_odd ct_odd : Value} {od_odd an_odd : Option Addr} {sl_odd : Array (Option Value)} {cdv_odd : Value} {A_cut : Addr} {oc_cut kV_cut doc_cut pm_cut ct_cut : Value} {od_cut an_cut : Option Addr} {sl_cut : Array (Option Value)} {cdv_cut : Value} {A_written : Addr} {oc_written kV_written doc_written pm_written ct_written : Value} {od_written an_written : Option Addr} {sl_written : Array (Option Value)} {cdv_written : Value} {A_recorded : Addr} {oc_recorded kV_recorded doc_recorded pm_recorded ct_recorded : Value} {od_recorded an_recorded : Option Addr} {sl_recorded : Array (Option Value)} {cdv_recorded : Value} {A_new : Addr} {oc_new kV_new doc_new pm_new ct_new : Value} {od_new an_new : Option Addr} {sl_new : Array (Option Value)} {cdv_new : Value} {A_copy : Addr} {oc_copy kV_copy doc_copy pm_copy ct_copy : Value} {od_copy an_copy : Option Addr} {sl_copy : Array (Option Value)} {cdv_copy : Value} {A_sync : Addr} {oc_sync kV_sync doc_sync pm_sync ct_sync : Value} {od_sync an_sync : Option Addr} {sl_sync : Array (Option Value)} {cdv_sync : Value} {A_check : Addr} {oc_check kV_check doc_check pm_check ct_check : Value} {od_check an_check : Option Addr} {sl_check : Array (Option Value)} {cdv_check : Value} {A_write : Addr} {oc_write kV_write doc_write pm_write ct_write : Value} {od_write an_write : Option Addr} {sl_write : Array (Option Value)} {cdv_write : Value} {A_areas : Addr} {oc_areas kV_areas doc_areas pm_areas ct_areas : Value} {od_areas an_areas : Option Addr} {sl_areas : Array (Option Value)} {cdv_areas : Value} {A_key : Addr} {oc_key kV_key doc_key pm_key ct_key : Value} {od_key an_key : Option Addr} {sl_key : Array (Option Value)} {cdv_key : Value} {A_long : Addr} {oc_long kV_long doc_long pm_long ct_long : Value} {od_long an_long : Option Addr} {sl_long : Array (Option Value)} {cdv_long : Value} {A_value : Addr} {oc_value kV_value doc_value pm_value ct_value : Value} {od_value an_value : Option Addr} {sl_value : Array (Option Value)} {cdv_value : Value} {A_changes : Addr} {oc_changes kV_changes doc_changes pm_changes ct_changes : Value} {od_changes an_changes : Option Addr} {sl_changes : Array (Option Value)} {cdv_changes : Value} {A_shelf : Addr} {oc_shelf kV_shelf doc_shelf pm_shelf ct_shelf : Value} {od_shelf an_shelf : Option Addr} {sl_shelf : Array (Option Value)} {cdv_shelf : Value} {A_most : Addr} {oc_most kV_most doc_most pm_most ct_most : Value} {od_most an_most : Option Addr} {sl_most : Array (Option Value)} {cdv_most : Value} {A_pairs : Addr} {oc_pairs kV_pairs doc_pairs pm_pairs ct_pairs : Value} {od_pairs an_pairs : Option Addr} {sl_pairs : Array (Option Value)} {cdv_pairs : Value} {A_disk_so : Addr} {oc_disk_so kV_disk_so doc_disk_so pm_disk_so ct_disk_so : Value} {od_disk_so an_disk_so : Option Addr} {sl_disk_so : Array (Option Value)} {cdv_disk_so : Value} {A_ask : Addr} {oc_ask kV_ask doc_ask pm_ask ct_ask : Value} {od_ask an_ask : Option Addr} {sl_ask : Array (Option Value)} {cdv_ask : Value} {A_deed : Addr} {oc_deed kV_deed doc_deed pm_deed ct_deed : Value} {od_deed an_deed : Option Addr} {sl_deed : Array (Option Value)} {cdv_deed : Value} {A_twin : Addr} {oc_twin kV_twin doc_twin pm_twin ct_twin : Value} {od_twin an_twin : Option Addr} {sl_twin : Array (Option Value)} {cdv_twin : Value} {A_spoilt_so : Addr} {oc_spoilt_so kV_spoilt_so doc_spoilt_so pm_spoilt_so ct_spoilt_so : Value} {od_spoilt_so an_spoilt_so : Option Addr} {sl_spoilt_so : Array (Option Value)} {cdv_spoilt_so : Value} {A_size_so : Addr} {oc_size_so kV_size_so doc_size_so pm_size_so ct_size_so : Value} {od_size_so an_size_so : Option Addr} {sl_size_so : Array (Option Value)} {cda_size_so tb_size_so : Addr} {tcl_size_so : Value} {tcd_size_so : Option Addr} {tvs_size_so : Array Value} {tsl_size_so : Array (Option Value)} {A_full_so : Addr} {oc_full_so kV_full_so doc_full_so pm_full_so ct_full_so : Value} {od_full_so an_full_so : Option Addr} {sl_full_so : Array (Option Value)} {cdv_full_so : Value} {A_law : Addr} {oc_law kV_law doc_law pm_law ct_law : Value} {od_law an_law : Option Addr} {sl_law : Array (Option Value)} {cdv_law : Value} {nm_InvalidNumber q_InvalidNumber : Str} {N_InvalidNumber : Addr} {bs_InvalidNumber : List Value} {sn_InvalidNumber : List Str} {sb_InvalidNumber : List Value} {ab_InvalidNumber : Bool} {co_InvalidNumber : Option Bool} {dd_InvalidNumber : Option Addr} {e0_InvalidNumber e1_InvalidNumber e2_InvalidNumber e3_InvalidNumber e5_InvalidNumber : Option Value} {tcv_Disk_STRETCH : Tok}
    (aC_SureletError : PySem.W.nsIn K mainGlobals "SureletError" = some (some (.ref C_SureletError))) (aC_InvalidNumber : PySem.W.nsIn K mainGlobals "InvalidNumber" = some (some (.ref C_InvalidNumber))) (aC_Disk : PySem.W.nsIn K mainGlobals "Disk" = some (some (.ref C_Disk))) (a_InvalidNumber_init : PySem.W.findIn K (.ref C_InvalidNumber) "__init__" = some (some (.ref A_InvalidNumber_init))) (i_InvalidNumber_init : PySem.W.isFn K (.ref A_InvalidNumber_init) = true) (l_InvalidNumber_init : K.lookup A_InvalidNumber_init = some ⟨oc_InvalidNumber_init, od_InvalidNumber_init, .func (PySem.W.fnX "__init__" "InvalidNumber.__init__" (defArgs s_InvalidNumber_init) (defBody s_InvalidNumber_init) (defScope s_InvalidNumber_init) [("__class__", cc_InvalidNumber_init)] .none kV_InvalidNumber_init doc_InvalidNumber_init pm_InvalidNumber_init an_InvalidNumber_init (.ref cda_InvalidNumber_init) ct_InvalidNumber_init), sl_InvalidNumber_init⟩) (c_InvalidNumber_init : PySem.W.codeIn K (.ref cda_InvalidNumber_init) "InvalidNumber.__init__" = true) (k_InvalidNumber_init : PySem.W.keepIn K (.ref A_InvalidNumber_init) = true) (cell_InvalidNumber_init : K.lookup cc_InvalidNumber_init = some ⟨cl_InvalidNumber_init, cld_InvalidNumber_init, .cell (some (.ref C_InvalidNumber)), csl_InvalidNumber_init⟩) (code_InvalidNumber_init : K.lookup cda_InvalidNumber_init = some ⟨ccl_InvalidNumber_init, cdd_InvalidNumber_init, .fields vs_InvalidNumber_init, ccs_InvalidNumber_init⟩) (vs_InvalidNumber_init : vs_InvalidNumber_init[2]? = some (.str file_InvalidNumber_init tf_InvalidNumber_init)) (fl_InvalidNumber_init : ((P.main.file : Str) == file_InvalidNumber_init) = true) (cd_InvalidNumber_init : PySem.W.clsIn K C_InvalidNumber = some cd_InvalidNumber_init) (a_is_number : PySem.W.nsIn K mainGlobals "is_number" = some (some (.ref A_is_number))) (l_is_number : K.lookup A_is_number = some ⟨oc_is_number, od_is_number, .func (PySem.W.fnOf "is_number" "is_number" (defArgs s_is_number) (defBody s_is_number) (defScope s_is_number) .none kV_is_number doc_is_number pm_is_number an_is_number cdv_is_number ct_is_number), sl_is_number⟩) (c_is_number : PySem.W.codeIn K cdv_is_number "is_number" = true) (k_is_number : PySem.W.keepIn K (.ref A_is_number) = true) (a_stretches_of : PySem.W.nsIn K mainGlobals "stretches_of" = some (some (.ref A_stretches_of))) (l_stretches_of : K.lookup A_stretches_of = some ⟨oc_stretches_of, od_stretches_of, .func (PySem.W.fnOf "stretches_of" "stretches_of" (defArgs s_stretches_of) (defBody s_stretches_of) (defScope s_stretches_of) .none kV_stretches_of doc_stretches_of pm_stretches_of an_stretches_of cdv_stretches_of ct_stretches_of), sl_stretches_of⟩) (c_stretches_of : PySem.W.codeIn K cdv_stretches_of "stretches_of" = true) (k_stretches_of : PySem.W.keepIn K (.ref A_stretches_of) = true) (a_text_of : PySem.W.nsIn K mainGlobals "text_of" = some (some (.ref A_text_of))) (l_text_of : K.lookup A_text_of = some ⟨oc_text_of, od_text_of, .func (PySem.W.fnOf "text_of" "text_of" (defArgs s_text_of) (defBody s_text_of) (defScope s_text_of) .none kV_text_of doc_text_of pm_text_of an_text_of cdv_text_of ct_text_of), sl_text_of⟩) (c_text_of : PySem.W.codeIn K cdv_text_of "text_of" = true) (k_text_of : PySem.W.keepIn K (.ref A_text_of) = true) (a_words_of : PySem.W.nsIn K mainGlobals "words_of" = some (some (.ref A_words_of))) (l_words_of : K.lookup A_words_of = some ⟨oc_words_of, od_words_of, .func (PySem.W.fnOf "words_of" "words_of" (defArgs s_words_of) (defBody s_words_of) (defScope s_words_of) .none kV_words_of doc_words_of pm_words_of an_words_of cdv_words_of ct_words_of), sl_words_of⟩) (c_words_of : PySem.W.codeIn K cdv_words_of "words_of" = true) (k_words_of : PySem.W.keepIn K (.ref A_words_of) = true) (a_generation_of : PySem.W.nsIn K mainGlobals "generation_of" = some (some (.ref A_generation_of))) (l_generation_of : K.lookup A_generation_of = some ⟨oc_generation_of, od_generation_of, .func (PySem.W.fnOf "generation_of" "generation_of" (defArgs s_generation_of) (defBody s_generation_of) (defScope s_generation_of) .none kV_generation_of doc_generation_of pm_generation_of an_generation_of cdv_generation_of ct_generation_of), sl_generation_of⟩) (c_generation_of : PySem.W.codeIn K cdv_generation_of "generation_of" = true) (k_generation_of : PySem.W.keepIn K (.ref A_generation_of) = true) (a_Disk_init : PySem.W.findIn K (.ref C_Disk) "__init__" = some (some (.ref A_Disk_init))) (i_Disk_init : PySem.W.isFn K (.ref A_Disk_init) = true) (l_Disk_init : K.lookup A_Disk_init = some ⟨oc_Disk_init, od_Disk_init, .func (PySem.W.fnOf "__init__" "Disk.__init__" (defArgs s_Disk_init) (defBody s_Disk_init) (defScope s_Disk_init) .none (.ref KD_Disk_init) doc_Disk_init pm_Disk_init an_Disk_init cdv_Disk_init ct_Disk_init), sl_Disk_init⟩) (c_Disk_init : PySem.W.codeIn K cdv_Disk_init "Disk.__init__" = true) (k_Disk_init : PySem.W.keepIn K (.ref A_Disk_init) = true) (kd_Disk_init_rows : PySem.W.nsIn K KD_Disk_init "rows" = some (some (.int 16 dtk_Disk_init_rows))) (a_Disk_put : PySem.W.findIn K (.ref C_Disk) "_put" = some (some (.ref A_Disk_put))) (i_Disk_put : PySem.W.isFn K (.ref A_Disk_put) = true) (l_Disk_put : K.lookup A_Disk_put = some ⟨oc_Disk_put, od_Disk_put, .func (PySem.W.fnOf "_put" "Disk._put" (defArgs s_Disk_put) (defBody s_Disk_put) (defScope s_Disk_put) .none kV_Disk_put doc_Disk_put pm_Disk_put an_Disk_put cdv_Disk_put ct_Disk_put), sl_Disk_put⟩) (c_Disk_put : PySem.W.codeIn K cdv_Disk_put "Disk._put" = true) (k_Disk_put : PySem.W.keepIn K (.ref A_Disk_put) = true) (a_Disk_take_area : PySem.W.findIn K (.ref C_Disk) "_take_area" = some (some (.ref A_Disk_take_area))) (i_Disk_take_area : PySem.W.isFn K (.ref A_Disk_take_area) = true) (l_Disk_take_area : K.lookup A_Disk_take_area = some ⟨oc_Disk_take_area, od_Disk_take_area, .func (PySem.W.fnOf "_take_area" "Disk._take_area" (defArgs s_Disk_take_area) (defBody s_Disk_take_area) (defScope s_Disk_take_area) .none kV_Disk_take_area doc_Disk_take_area pm_Disk_take_area an_Disk_take_area cdv_Disk_take_area ct_Disk_take_area), sl_Disk_take_area⟩) (c_Disk_take_area : PySem.W.codeIn K cdv_Disk_take_area "Disk._take_area" = true) (k_Disk_take_area : PySem.W.keepIn K (.ref A_Disk_take_area) = true) (a_Disk_greatest : PySem.W.findIn K (.ref C_Disk) "_greatest" = some (some (.ref A_Disk_greatest))) (i_Disk_greatest : PySem.W.isFn K (.ref A_Disk_greatest) = true) (l_Disk_greatest : K.lookup A_Disk_greatest = some ⟨oc_Disk_greatest, od_Disk_greatest, .func (PySem.W.fnOf "_greatest" "Disk._greatest" (defArgs s_Disk_greatest) (defBody s_Disk_greatest) (defScope s_Disk_greatest) .none kV_Disk_greatest doc_Disk_greatest pm_Disk_greatest an_Disk_greatest cdv_Disk_greatest ct_Disk_greatest), sl_Disk_greatest⟩) (c_Disk_greatest : PySem.W.codeIn K cdv_Disk_greatest "Disk._greatest" = true) (k_Disk_greatest : PySem.W.keepIn K (.ref A_Disk_greatest) = true) (a_Disk_write : PySem.W.findIn K (.ref C_Disk) "write" = some (some (.ref A_Disk_write))) (i_Disk_write : PySem.W.isFn K (.ref A_Disk_write) = true) (l_Disk_write : K.lookup A_Disk_write = some ⟨oc_Disk_write, od_Disk_write, .func (PySem.W.fnOf "write" "Disk.write" (defArgs s_Disk_write) (defBody s_Disk_write) (defScope s_Disk_write) .none kV_Disk_write doc_Disk_write pm_Disk_write an_Disk_write cdv_Disk_write ct_Disk_write), sl_Disk_write⟩) (c_Disk_write : PySem.W.codeIn K cdv_Disk_write "Disk.write" = true) (k_Disk_write : PySem.W.keepIn K (.ref A_Disk_write) = true) (a_Disk_check : PySem.W.findIn K (.ref C_Disk) "check" = some (some (.ref A_Disk_check))) (i_Disk_check : PySem.W.isFn K (.ref A_Disk_check) = true) (l_Disk_check : K.lookup A_Disk_check = some ⟨oc_Disk_check, od_Disk_check, .func (PySem.W.fnOf "check" "Disk.check" (defArgs s_Disk_check) (defBody s_Disk_check) (defScope s_Disk_check) .none (.ref KD_Disk_check) doc_Disk_check pm_Disk_check an_Disk_check cdv_Disk_check ct_Disk_check), sl_Disk_check⟩) (c_Disk_check : PySem.W.codeIn K cdv_Disk_check "Disk.check" = true) (k_Disk_check : PySem.W.keepIn K (.ref A_Disk_check) = true) (kd_Disk_check_synced : PySem.W.nsIn K KD_Disk_check "synced" = some (some (.bool true))) (a_Disk_sync : PySem.W.findIn K (.ref C_Disk) "sync" = some (some (.ref A_Disk_sync))) (i_Disk_sync : PySem.W.isFn K (.ref A_Disk_sync) = true) (l_Disk_sync : K.lookup A_Disk_sync = some ⟨oc_Disk_sync, od_Disk_sync, .func (PySem.W.fnOf "sync" "Disk.sync" (defArgs s_Disk_sync) (defBody s_Disk_sync) (defScope s_Disk_sync) .none kV_Disk_sync doc_Disk_sync pm_Disk_sync an_Disk_sync cdv_Disk_sync ct_Disk_sync), sl_Disk_sync⟩) (c_Disk_sync : PySem.W.codeIn K cdv_Disk_sync "Disk.sync" = true) (k_Disk_sync : PySem.W.keepIn K (.ref A_Disk_sync) = true) (a_Disk_table : PySem.W.findIn K (.ref C_Disk) "table" = some (some (.ref A_Disk_table))) (i_Disk_table : PySem.W.isFn K (.ref A_Disk_table) = true) (l_Disk_table : K.lookup A_Disk_table = some ⟨oc_Disk_table, od_Disk_table, .func (PySem.W.fnOf "table" "Disk.table" (defArgs s_Disk_table) (defBody s_Disk_table) (defScope s_Disk_table) .none kV_Disk_table doc_Disk_table pm_Disk_table an_Disk_table cdv_Disk_table ct_Disk_table), sl_Disk_table⟩) (c_Disk_table : PySem.W.codeIn K cdv_Disk_table "Disk.table" = true) (k_Disk_table : PySem.W.keepIn K (.ref A_Disk_table) = true) (a_Disk_areas : PySem.W.findIn K (.ref C_Disk) "areas" = some (some (.ref A_Disk_areas))) (i_Disk_areas : PySem.W.isFn K (.ref A_Disk_areas) = true) (l_Disk_areas : K.lookup A_Disk_areas = some ⟨oc_Disk_areas, od_Disk_areas, .func (PySem.W.fnOf "areas" "Disk.areas" (defArgs s_Disk_areas) (defBody s_Disk_areas) (defScope s_Disk_areas) .none kV_Disk_areas doc_Disk_areas pm_Disk_areas an_Disk_areas cdv_Disk_areas ct_Disk_areas), sl_Disk_areas⟩) (c_Disk_areas : PySem.W.codeIn K cdv_Disk_areas "Disk.areas" = true) (k_Disk_areas : PySem.W.keepIn K (.ref A_Disk_areas) = true) (a_Disk_unsynced : PySem.W.findIn K (.ref C_Disk) "unsynced" = some (some (.ref A_Disk_unsynced))) (i_Disk_unsynced : PySem.W.isFn K (.ref A_Disk_unsynced) = true) (l_Disk_unsynced : K.lookup A_Disk_unsynced = some ⟨oc_Disk_unsynced, od_Disk_unsynced, .func (PySem.W.fnOf "unsynced" "Disk.unsynced" (defArgs s_Disk_unsynced) (defBody s_Disk_unsynced) (defScope s_Disk_unsynced) .none kV_Disk_unsynced doc_Disk_unsynced pm_Disk_unsynced an_Disk_unsynced cdv_Disk_unsynced ct_Disk_unsynced), sl_Disk_unsynced⟩) (c_Disk_unsynced : PySem.W.codeIn K cdv_Disk_unsynced "Disk.unsynced" = true) (k_Disk_unsynced : PySem.W.keepIn K (.ref A_Disk_unsynced) = true) (pa_Disk_syncs : PySem.W.findIn K (.ref C_Disk) "syncs" = some (some (.ref PP_Disk_syncs))) (pr_Disk_syncs : PySem.W.recIn K PP_Disk_syncs "property" = some (.ref A_Disk_syncs :: RS_Disk_syncs)) (pg_Disk_syncs : PySem.W.specialIn K (.ref PP_Disk_syncs) "__get__" = some (some (.builtin "property.__get__"))) (pt_Disk_syncs : PySem.W.takesIn K (.ref PP_Disk_syncs) = some true) (l_Disk_syncs : K.lookup A_Disk_syncs = some ⟨oc_Disk_syncs, od_Disk_syncs, .func (PySem.W.fnOf "syncs" "Disk.syncs" (defArgs s_Disk_syncs) (defBody s_Disk_syncs) (defScope s_Disk_syncs) .none kV_Disk_syncs doc_Disk_syncs pm_Disk_syncs an_Disk_syncs cdv_Disk_syncs ct_Disk_syncs), sl_Disk_syncs⟩) (c_Disk_syncs : PySem.W.codeIn K cdv_Disk_syncs "Disk.syncs" = true) (k_Disk_syncs : PySem.W.keepIn K (.ref A_Disk_syncs) = true) (pa_Disk_fallen : PySem.W.findIn K (.ref C_Disk) "fallen" = some (some (.ref PP_Disk_fallen))) (pr_Disk_fallen : PySem.W.recIn K PP_Disk_fallen "property" = some (.ref A_Disk_fallen :: RS_Disk_fallen)) (pg_Disk_fallen : PySem.W.specialIn K (.ref PP_Disk_fallen) "__get__" = some (some (.builtin "property.__get__"))) (pt_Disk_fallen : PySem.W.takesIn K (.ref PP_Disk_fallen) = some true) (l_Disk_fallen : K.lookup A_Disk_fallen = some ⟨oc_Disk_fallen, od_Disk_fallen, .func (PySem.W.fnOf "fallen" "Disk.fallen" (defArgs s_Disk_fallen) (defBody s_Disk_fallen) (defScope s_Disk_fallen) .none kV_Disk_fallen doc_Disk_fallen pm_Disk_fallen an_Disk_fallen cdv_Disk_fallen ct_Disk_fallen), sl_Disk_fallen⟩) (c_Disk_fallen : PySem.W.codeIn K cdv_Disk_fallen "Disk.fallen" = true) (k_Disk_fallen : PySem.W.keepIn K (.ref A_Disk_fallen) = true) (a_Disk_copy : PySem.W.findIn K (.ref C_Disk) "copy" = some (some (.ref A_Disk_copy))) (i_Disk_copy : PySem.W.isFn K (.ref A_Disk_copy) = true) (l_Disk_copy : K.lookup A_Disk_copy = some ⟨oc_Disk_copy, od_Disk_copy, .func (PySem.W.fnOf "copy" "Disk.copy" (defArgs s_Disk_copy) (defBody s_Disk_copy) (defScope s_Disk_copy) .none kV_Disk_copy doc_Disk_copy pm_Disk_copy an_Disk_copy cdv_Disk_copy ct_Disk_copy), sl_Disk_copy⟩) (c_Disk_copy : PySem.W.codeIn K cdv_Disk_copy "Disk.copy" = true) (k_Disk_copy : PySem.W.keepIn K (.ref A_Disk_copy) = true) (a_bag : PySem.W.nsIn K mainGlobals "_law_bag" = some (some (.ref A_bag))) (l_bag : K.lookup A_bag = some ⟨oc_bag, od_bag, .func (PySem.W.fnOf "_law_bag" "_law_bag" (defArgs s_bag) (defBody s_bag) (defScope s_bag) .none kV_bag doc_bag pm_bag an_bag cdv_bag ct_bag), sl_bag⟩) (c_bag : PySem.W.codeIn K cdv_bag "_law_bag" = true) (k_bag : PySem.W.keepIn K (.ref A_bag) = true) (a_draw : PySem.W.nsIn K mainGlobals "_law_draw" = some (some (.ref A_draw))) (l_draw : K.lookup A_draw = some ⟨oc_draw, od_draw, .func (PySem.W.fnOf "_law_draw" "_law_draw" (defArgs s_draw) (defBody s_draw) (defScope s_draw) .none kV_draw doc_draw pm_draw an_draw cdv_draw ct_draw), sl_draw⟩) (c_draw : PySem.W.codeIn K cdv_draw "_law_draw" = true) (k_draw : PySem.W.keepIn K (.ref A_draw) = true) (a_of : PySem.W.nsIn K mainGlobals "_law_of" = some (some (.ref A_of))) (l_of : K.lookup A_of = some ⟨oc_of, od_of, .func (PySem.W.fnOf "_law_of" "_law_of" (defArgs s_of) (defBody s_of) (defScope s_of) .none kV_of doc_of pm_of an_of cdv_of ct_of), sl_of⟩) (c_of : PySem.W.codeIn K cdv_of "_law_of" = true) (k_of : PySem.W.keepIn K (.ref A_of) = true) (a_like : PySem.W.nsIn K mainGlobals "_law_like" = some (some (.ref A_like))) (l_like : K.lookup A_like = some ⟨oc_like, od_like, .func (PySem.W.fnOf "_law_like" "_law_like" (defArgs s_like) (defBody s_like) (defScope s_like) .none kV_like doc_like pm_like an_like cdv_like ct_like), sl_like⟩) (c_like : PySem.W.codeIn K cdv_like "_law_like" = true) (k_like : PySem.W.keepIn K (.ref A_like) = true) (a_odd : PySem.W.nsIn K mainGlobals "_law_odd" = some (some (.ref A_odd))) (l_odd : K.lookup A_odd = some ⟨oc_odd, od_odd, .func (PySem.W.fnOf "_law_odd" "_law_odd" (defArgs s_odd) (defBody s_odd) (defScope s_odd) .none kV_odd doc_odd pm_odd an_odd cdv_odd ct_odd), sl_odd⟩) (c_odd : PySem.W.codeIn K cdv_odd "_law_odd" = true) (k_odd : PySem.W.keepIn K (.ref A_odd) = true) (a_cut : PySem.W.nsIn K mainGlobals "_law_cut" = some (some (.ref A_cut))) (l_cut : K.lookup A_cut = some ⟨oc_cut, od_cut, .func (PySem.W.fnOf "_law_cut" "_law_cut" (defArgs s_cut) (defBody s_cut) (defScope s_cut) .none kV_cut doc_cut pm_cut an_cut cdv_cut ct_cut), sl_cut⟩) (c_cut : PySem.W.codeIn K cdv_cut "_law_cut" = true) (k_cut : PySem.W.keepIn K (.ref A_cut) = true) (a_written : PySem.W.nsIn K mainGlobals "_law_written" = some (some (.ref A_written))) (l_written : K.lookup A_written = some ⟨oc_written, od_written, .func (PySem.W.fnOf "_law_written" "_law_written" (defArgs s_written) (defBody s_written) (defScope s_written) .none kV_written doc_written pm_written an_written cdv_written ct_written), sl_written⟩) (c_written : PySem.W.codeIn K cdv_written "_law_written" = true) (k_written : PySem.W.keepIn K (.ref A_written) = true) (a_recorded : PySem.W.nsIn K mainGlobals "_law_recorded" = some (some (.ref A_recorded))) (l_recorded : K.lookup A_recorded = some ⟨oc_recorded, od_recorded, .func (PySem.W.fnOf "_law_recorded" "_law_recorded" (defArgs s_recorded) (defBody s_recorded) (defScope s_recorded) .none kV_recorded doc_recorded pm_recorded an_recorded cdv_recorded ct_recorded), sl_recorded⟩) (c_recorded : PySem.W.codeIn K cdv_recorded "_law_recorded" = true) (k_recorded : PySem.W.keepIn K (.ref A_recorded) = true) (a_new : PySem.W.nsIn K mainGlobals "_law_new" = some (some (.ref A_new))) (l_new : K.lookup A_new = some ⟨oc_new, od_new, .func (PySem.W.fnOf "_law_new" "_law_new" (defArgs s_new) (defBody s_new) (defScope s_new) .none kV_new doc_new pm_new an_new cdv_new ct_new), sl_new⟩) (c_new : PySem.W.codeIn K cdv_new "_law_new" = true) (k_new : PySem.W.keepIn K (.ref A_new) = true) (a_copy : PySem.W.nsIn K mainGlobals "_law_copy" = some (some (.ref A_copy))) (l_copy : K.lookup A_copy = some ⟨oc_copy, od_copy, .func (PySem.W.fnOf "_law_copy" "_law_copy" (defArgs s_copy) (defBody s_copy) (defScope s_copy) .none kV_copy doc_copy pm_copy an_copy cdv_copy ct_copy), sl_copy⟩) (c_copy : PySem.W.codeIn K cdv_copy "_law_copy" = true) (k_copy : PySem.W.keepIn K (.ref A_copy) = true) (a_sync : PySem.W.nsIn K mainGlobals "_law_sync" = some (some (.ref A_sync))) (l_sync : K.lookup A_sync = some ⟨oc_sync, od_sync, .func (PySem.W.fnOf "_law_sync" "_law_sync" (defArgs s_sync) (defBody s_sync) (defScope s_sync) .none kV_sync doc_sync pm_sync an_sync cdv_sync ct_sync), sl_sync⟩) (c_sync : PySem.W.codeIn K cdv_sync "_law_sync" = true) (k_sync : PySem.W.keepIn K (.ref A_sync) = true) (a_check : PySem.W.nsIn K mainGlobals "_law_check" = some (some (.ref A_check))) (l_check : K.lookup A_check = some ⟨oc_check, od_check, .func (PySem.W.fnOf "_law_check" "_law_check" (defArgs s_check) (defBody s_check) (defScope s_check) .none kV_check doc_check pm_check an_check cdv_check ct_check), sl_check⟩) (c_check : PySem.W.codeIn K cdv_check "_law_check" = true) (k_check : PySem.W.keepIn K (.ref A_check) = true) (a_write : PySem.W.nsIn K mainGlobals "_law_write" = some (some (.ref A_write))) (l_write : K.lookup A_write = some ⟨oc_write, od_write, .func (PySem.W.fnOf "_law_write" "_law_write" (defArgs s_write) (defBody s_write) (defScope s_write) .none kV_write doc_write pm_write an_write cdv_write ct_write), sl_write⟩) (c_write : PySem.W.codeIn K cdv_write "_law_write" = true) (k_write : PySem.W.keepIn K (.ref A_write) = true) (a_areas : PySem.W.nsIn K mainGlobals "_law_areas" = some (some (.ref A_areas))) (l_areas : K.lookup A_areas = some ⟨oc_areas, od_areas, .func (PySem.W.fnOf "_law_areas" "_law_areas" (defArgs s_areas) (defBody s_areas) (defScope s_areas) .none kV_areas doc_areas pm_areas an_areas cdv_areas ct_areas), sl_areas⟩) (c_areas : PySem.W.codeIn K cdv_areas "_law_areas" = true) (k_areas : PySem.W.keepIn K (.ref A_areas) = true) (a_key : PySem.W.nsIn K mainGlobals "_law_key" = some (some (.ref A_key))) (l_key : K.lookup A_key = some ⟨oc_key, od_key, .func (PySem.W.fnOf "_law_key" "_law_key" (defArgs s_key) (defBody s_key) (defScope s_key) .none kV_key doc_key pm_key an_key cdv_key ct_key), sl_key⟩) (c_key : PySem.W.codeIn K cdv_key "_law_key" = true) (k_key : PySem.W.keepIn K (.ref A_key) = true) (a_long : PySem.W.nsIn K mainGlobals "_law_long" = some (some (.ref A_long))) (l_long : K.lookup A_long = some ⟨oc_long, od_long, .func (PySem.W.fnOf "_law_long" "_law_long" (defArgs s_long) (defBody s_long) (defScope s_long) .none kV_long doc_long pm_long an_long cdv_long ct_long), sl_long⟩) (c_long : PySem.W.codeIn K cdv_long "_law_long" = true) (k_long : PySem.W.keepIn K (.ref A_long) = true) (a_value : PySem.W.nsIn K mainGlobals "_law_value" = some (some (.ref A_value))) (l_value : K.lookup A_value = some ⟨oc_value, od_value, .func (PySem.W.fnOf "_law_value" "_law_value" (defArgs s_value) (defBody s_value) (defScope s_value) .none kV_value doc_value pm_value an_value cdv_value ct_value), sl_value⟩) (c_value : PySem.W.codeIn K cdv_value "_law_value" = true) (k_value : PySem.W.keepIn K (.ref A_value) = true) (a_changes : PySem.W.nsIn K mainGlobals "_law_changes" = some (some (.ref A_changes))) (l_changes : K.lookup A_changes = some ⟨oc_changes, od_changes, .func (PySem.W.fnOf "_law_changes" "_law_changes" (defArgs s_changes) (defBody s_changes) (defScope s_changes) .none kV_changes doc_changes pm_changes an_changes cdv_changes ct_changes), sl_changes⟩) (c_changes : PySem.W.codeIn K cdv_changes "_law_changes" = true) (k_changes : PySem.W.keepIn K (.ref A_changes) = true) (a_shelf : PySem.W.nsIn K mainGlobals "_law_shelf" = some (some (.ref A_shelf))) (l_shelf : K.lookup A_shelf = some ⟨oc_shelf, od_shelf, .func (PySem.W.fnOf "_law_shelf" "_law_shelf" (defArgs s_shelf) (defBody s_shelf) (defScope s_shelf) .none kV_shelf doc_shelf pm_shelf an_shelf cdv_shelf ct_shelf), sl_shelf⟩) (c_shelf : PySem.W.codeIn K cdv_shelf "_law_shelf" = true) (k_shelf : PySem.W.keepIn K (.ref A_shelf) = true) (a_most : PySem.W.nsIn K mainGlobals "_law_most" = some (some (.ref A_most))) (l_most : K.lookup A_most = some ⟨oc_most, od_most, .func (PySem.W.fnOf "_law_most" "_law_most" (defArgs s_most) (defBody s_most) (defScope s_most) .none kV_most doc_most pm_most an_most cdv_most ct_most), sl_most⟩) (c_most : PySem.W.codeIn K cdv_most "_law_most" = true) (k_most : PySem.W.keepIn K (.ref A_most) = true) (a_pairs : PySem.W.nsIn K mainGlobals "_law_pairs" = some (some (.ref A_pairs))) (l_pairs : K.lookup A_pairs = some ⟨oc_pairs, od_pairs, .func (PySem.W.fnOf "_law_pairs" "_law_pairs" (defArgs s_pairs) (defBody s_pairs) (defScope s_pairs) .none kV_pairs doc_pairs pm_pairs an_pairs cdv_pairs ct_pairs), sl_pairs⟩) (c_pairs : PySem.W.codeIn K cdv_pairs "_law_pairs" = true) (k_pairs : PySem.W.keepIn K (.ref A_pairs) = true) (a_disk_so : PySem.W.nsIn K mainGlobals "_law_disk_so" = some (some (.ref A_disk_so))) (l_disk_so : K.lookup A_disk_so = some ⟨oc_disk_so, od_disk_so, .func (PySem.W.fnOf "_law_disk_so" "_law_disk_so" (defArgs s_disk_so) (defBody s_disk_so) (defScope s_disk_so) .none kV_disk_so doc_disk_so pm_disk_so an_disk_so cdv_disk_so ct_disk_so), sl_disk_so⟩) (c_disk_so : PySem.W.codeIn K cdv_disk_so "_law_disk_so" = true) (k_disk_so : PySem.W.keepIn K (.ref A_disk_so) = true) (a_ask : PySem.W.nsIn K mainGlobals "_law_ask" = some (some (.ref A_ask))) (l_ask : K.lookup A_ask = some ⟨oc_ask, od_ask, .func (PySem.W.fnOf "_law_ask" "_law_ask" (defArgs s_ask) (defBody s_ask) (defScope s_ask) .none kV_ask doc_ask pm_ask an_ask cdv_ask ct_ask), sl_ask⟩) (c_ask : PySem.W.codeIn K cdv_ask "_law_ask" = true) (k_ask : PySem.W.keepIn K (.ref A_ask) = true) (a_deed : PySem.W.nsIn K mainGlobals "_law_deed" = some (some (.ref A_deed))) (l_deed : K.lookup A_deed = some ⟨oc_deed, od_deed, .func (PySem.W.fnOf "_law_deed" "_law_deed" (defArgs s_deed) (defBody s_deed) (defScope s_deed) .none kV_deed doc_deed pm_deed an_deed cdv_deed ct_deed), sl_deed⟩) (c_deed : PySem.W.codeIn K cdv_deed "_law_deed" = true) (k_deed : PySem.W.keepIn K (.ref A_deed) = true) (a_twin : PySem.W.nsIn K mainGlobals "_law_twin" = some (some (.ref A_twin))) (l_twin : K.lookup A_twin = some ⟨oc_twin, od_twin, .func (PySem.W.fnOf "_law_twin" "_law_twin" (defArgs s_twin) (defBody s_twin) (defScope s_twin) .none kV_twin doc_twin pm_twin an_twin cdv_twin ct_twin), sl_twin⟩) (c_twin : PySem.W.codeIn K cdv_twin "_law_twin" = true) (k_twin : PySem.W.keepIn K (.ref A_twin) = true) (a_spoilt_so : PySem.W.nsIn K mainGlobals "_law_spoilt_so" = some (some (.ref A_spoilt_so))) (l_spoilt_so : K.lookup A_spoilt_so = some ⟨oc_spoilt_so, od_spoilt_so, .func (PySem.W.fnOf "_law_spoilt_so" "_law_spoilt_so" (defArgs s_spoilt_so) (defBody s_spoilt_so) (defScope s_spoilt_so) .none kV_spoilt_so doc_spoilt_so pm_spoilt_so an_spoilt_so cdv_spoilt_so ct_spoilt_so), sl_spoilt_so⟩) (c_spoilt_so : PySem.W.codeIn K cdv_spoilt_so "_law_spoilt_so" = true) (k_spoilt_so : PySem.W.keepIn K (.ref A_spoilt_so) = true) (a_size_so : PySem.W.nsIn K mainGlobals "_law_size_so" = some (some (.ref A_size_so))) (l_size_so : K.lookup A_size_so = some ⟨oc_size_so, od_size_so, .func (PySem.W.fnOf "_law_size_so" "_law_size_so" (defArgs s_size_so) (defBody s_size_so) (defScope s_size_so) .none kV_size_so doc_size_so pm_size_so an_size_so (.ref cda_size_so) ct_size_so), sl_size_so⟩) (c_size_so : PySem.W.codeIn K (.ref cda_size_so) "_law_size_so" = true) (k_size_so : PySem.W.keepIn K (.ref A_size_so) = true) (td_size_so : K.lookup cda_size_so = some ⟨tcl_size_so, tcd_size_so, .fields tvs_size_so, tsl_size_so⟩) (tp_size_so : tvs_size_so[11]? = some (.ref tb_size_so)) (tn_size_so : K.lookup tb_size_so = none) (a_full_so : PySem.W.nsIn K mainGlobals "_law_full_so" = some (some (.ref A_full_so))) (l_full_so : K.lookup A_full_so = some ⟨oc_full_so, od_full_so, .func (PySem.W.fnOf "_law_full_so" "_law_full_so" (defArgs s_full_so) (defBody s_full_so) (defScope s_full_so) .none kV_full_so doc_full_so pm_full_so an_full_so cdv_full_so ct_full_so), sl_full_so⟩) (c_full_so : PySem.W.codeIn K cdv_full_so "_law_full_so" = true) (k_full_so : PySem.W.keepIn K (.ref A_full_so) = true) (a_law : PySem.W.nsIn K mainGlobals "law" = some (some (.ref A_law))) (l_law : K.lookup A_law = some ⟨oc_law, od_law, .func (PySem.W.fnOf "law" "law" (defArgs s_law) (defBody s_law) (defScope s_law) .none kV_law doc_law pm_law an_law cdv_law ct_law), sl_law⟩) (c_law : PySem.W.codeIn K cdv_law "law" = true) (k_law : PySem.W.keepIn K (.ref A_law) = true) (top_super : (P.main.scope.names.lookup ("super" : Str)).isSome = false) (st_thirdparty : PySem.W.nsIn K cStatics "thirdparty.any" = some none) (z_all : PySem.W.nsIn K mainGlobals "all" = some none) (z_bool : PySem.W.nsIn K mainGlobals "bool" = some none) (z_dict : PySem.W.nsIn K mainGlobals "dict" = some none) (z_enumerate : PySem.W.nsIn K mainGlobals "enumerate" = some none) (z_int : PySem.W.nsIn K mainGlobals "int" = some none) (z_isinstance : PySem.W.nsIn K mainGlobals "isinstance" = some none) (z_len : PySem.W.nsIn K mainGlobals "len" = some none) (z_list : PySem.W.nsIn K mainGlobals "list" = some none) (z_max : PySem.W.nsIn K mainGlobals "max" = some none) (z_range : PySem.W.nsIn K mainGlobals "range" = some none) (z_sorted : PySem.W.nsIn K mainGlobals "sorted" = some none) (z_str : PySem.W.nsIn K mainGlobals "str" = some none) (z_super : PySem.W.nsIn K mainGlobals "super" = some none) (z_tuple : PySem.W.nsIn K mainGlobals "tuple" = some none) (z_zip : PySem.W.nsIn K mainGlobals "zip" = some none) (el_InvalidNumber : K.lookup C_InvalidNumber = some (excClassObj nm_InvalidNumber q_InvalidNumber C_InvalidNumber N_InvalidNumber bs_InvalidNumber [.ref C_SureletError, .type "ValueError", .type "Exception", .type "BaseException", .type "object"] true sn_InvalidNumber sb_InvalidNumber ab_InvalidNumber co_InvalidNumber dd_InvalidNumber e0_InvalidNumber e1_InvalidNumber e2_InvalidNumber e3_InvalidNumber e5_InvalidNumber "ValueError.__new__")) (es_InvalidNumber : PySem.W.findIn K (.ref C_InvalidNumber) "__setattr__" = some (some (.builtin "object.__setattr__"))) (eb_InvalidNumber : PySem.W.subIn K (.ref C_InvalidNumber) (.type "BaseException") = some true) (et_InvalidNumber : PySem.W.typeIn K (.ref C_InvalidNumber) = some (.type "type")) (ek_InvalidNumber : PySem.W.keepIn K (.ref C_InvalidNumber) = true) (em_InvalidNumber : PySem.W.mroIn K C_InvalidNumber (.ref C_InvalidNumber) = some true) (eu_InvalidNumber : PySem.W.ks_superIn K C_InvalidNumber C_InvalidNumber "__init__" = some (some (.builtin "ValueError.__init__"))) (ev_InvalidNumber : PySem.W.subIn K (.ref C_InvalidNumber) (.type "ValueError") = some true) (ega_InvalidNumber : PySem.W.findIn K (.ref C_InvalidNumber) "__getattribute__" = some (some (.builtin "BaseException.__getattribute__"))) (egg_InvalidNumber : PySem.W.findIn K (.ref C_InvalidNumber) "__getattr__" = some none) (ehd_InvalidNumber : PySem.W.hasDictIn K C_InvalidNumber = true) (eti_InvalidNumber : PySem.W.typeIn K (.ref A_InvalidNumber_init) = some (.type "function")) (xb_InvalidNumber_InvalidNumber : PySem.W.subIn K (.ref C_InvalidNumber) (.type "BaseException") = some true) (xi_InvalidNumber_InvalidNumber : PySem.W.isClsIn K C_InvalidNumber = true) (xt_InvalidNumber_InvalidNumber : PySem.W.typeIn K (.ref C_InvalidNumber) = some (.type "type")) (xs_InvalidNumber_InvalidNumber : PySem.W.subIn K (.ref C_InvalidNumber) (.ref C_InvalidNumber) = some true) (no_InvalidNumber_value : PySem.W.findIn K (.ref C_InvalidNumber) "value" = some none) (no_InvalidNumber_code : PySem.W.findIn K (.ref C_InvalidNumber) "code" = some none) (pg_Disk : PySem.W.plainGet K C_Disk Str.empty = true) (hd_Disk : PySem.W.hasDictIn K C_Disk = true) (po_Disk : PySem.W.plainOver K C_Disk = true) (sa_Disk : PySem.W.findIn K (.ref C_Disk) "__setattr__" = some (some (.builtin "object.__setattr__"))) (mk_Disk : PySem.W.makesIn K C_Disk = true) (kc_Disk : PySem.W.keepIn K (.ref C_Disk) = true) (th_Disk : PySem.W.findIn K (.ref C_Disk) "__class__" = some (some (.builtin "object.__class__"))) (tn_Disk : PySem.W.specialIn K (.builtin "object.__class__") "__get__" = some (some (.builtin "getset_descriptor.__get__"))) (tk_Disk : PySem.W.takesIn K (.builtin "object.__class__") = some true) (tm_Disk : PySem.W.mroIn K C_Disk (.type "object") = some true) (kt_Disk_Disk : PySem.W.kitOne K (.ref C_Disk) (.ref C_Disk) = some true) (no_Disk_most : PySem.W.findIn K (.ref C_Disk) "_most" = some none) (no_Disk_table : PySem.W.findIn K (.ref C_Disk) "_table" = some none) (no_Disk_areas : PySem.W.findIn K (.ref C_Disk) "_areas" = some none) (no_Disk_unsynced : PySem.W.findIn K (.ref C_Disk) "_unsynced" = some none) (no_Disk_syncs : PySem.W.findIn K (.ref C_Disk) "_syncs" = some none) (no_Disk_fallen : PySem.W.findIn K (.ref C_Disk) "_fallen" = some none) (no_Disk_area : PySem.W.findIn K (.ref C_Disk) "_area" = some none) (no_Disk_generation : PySem.W.findIn K (.ref C_Disk) "_generation" = some none) (no_Disk_pieces : PySem.W.findIn K (.ref C_Disk) "_pieces" = some none) (no_Disk_rows : PySem.W.findIn K (.ref C_Disk) "_rows" = some none) (me_Disk_put : PySem.W.findIn K (.ref C_Disk) "_put" = some (some (.ref A_Disk_put))) (mi_Disk_put : PySem.W.isFn K (.ref A_Disk_put) = true) (me_Disk_take_area : PySem.W.findIn K (.ref C_Disk) "_take_area" = some (some (.ref A_Disk_take_area))) (mi_Disk_take_area : PySem.W.isFn K (.ref A_Disk_take_area) = true) (me_Disk_greatest : PySem.W.findIn K (.ref C_Disk) "_greatest" = some (some (.ref A_Disk_greatest))) (mi_Disk_greatest : PySem.W.isFn K (.ref A_Disk_greatest) = true) (me_Disk_write : PySem.W.findIn K (.ref C_Disk) "write" = some (some (.ref A_Disk_write))) (mi_Disk_write : PySem.W.isFn K (.ref A_Disk_write) = true) (me_Disk_check : PySem.W.findIn K (.ref C_Disk) "check" = some (some (.ref A_Disk_check))) (mi_Disk_check : PySem.W.isFn K (.ref A_Disk_check) = true) (me_Disk_sync : PySem.W.findIn K (.ref C_Disk) "sync" = some (some (.ref A_Disk_sync))) (mi_Disk_sync : PySem.W.isFn K (.ref A_Disk_sync) = true) (me_Disk_table : PySem.W.findIn K (.ref C_Disk) "table" = some (some (.ref A_Disk_table))) (mi_Disk_table : PySem.W.isFn K (.ref A_Disk_table) = true) (me_Disk_areas : PySem.W.findIn K (.ref C_Disk) "areas" = some (some (.ref A_Disk_areas))) (mi_Disk_areas : PySem.W.isFn K (.ref A_Disk_areas) = true) (me_Disk_unsynced : PySem.W.findIn K (.ref C_Disk) "unsynced" = some (some (.ref A_Disk_unsynced))) (mi_Disk_unsynced : PySem.W.isFn K (.ref A_Disk_unsynced) = true) (me_Disk_copy : PySem.W.findIn K (.ref C_Disk) "copy" = some (some (.ref A_Disk_copy))) (mi_Disk_copy : PySem.W.isFn K (.ref A_Disk_copy) = true) (rd_Disk : PySem.W.readsIn K C_Disk (.type "type") = true) (gat_Disk : PySem.W.specialIn K (.ref C_Disk) "__getattribute__" = some (some (.builtin "type.__getattribute__"))) (cvl_Disk_STRETCH : PySem.W.findCls K (.ref C_Disk) (.type "type") "STRETCH" = some (.val (.int 60 tcv_Disk_STRETCH))) :
    LamX.LawAtS PySem.Challenge.rw_surelet_k14_whole_disk_cells w K CX0 16 63 "_law_script" mg fa h := by
  have e := hfa.symm.trans (PySem.W.mg_of X G a_law)
  cases e
  let T := tx_mk X G aC_SureletError aC_InvalidNumber aC_Disk a_InvalidNumber_init i_InvalidNumber_init l_InvalidNumber_init c_InvalidNumber_init k_InvalidNumber_init cell_InvalidNumber_init code_InvalidNumber_init vs_InvalidNumber_init fl_InvalidNumber_init cd_InvalidNumber_init a_is_number l_is_number c_is_number k_is_number a_stretches_of l_stretches_of c_stretches_of k_stretches_of a_text_of l_text_of c_text_of k_text_of a_words_of l_words_of c_words_of k_words_of a_generation_of l_generation_of c_generation_of k_generation_of a_Disk_init i_Disk_init l_Disk_init c_Disk_init k_Disk_init kd_Disk_init_rows a_Disk_put i_Disk_put l_Disk_put c_Disk_put k_Disk_put a_Disk_take_area i_Disk_take_area l_Disk_take_area c_Disk_take_area k_Disk_take_area a_Disk_greatest i_Disk_greatest l_Disk_greatest c_Disk_greatest k_Disk_greatest a_Disk_write i_Disk_write l_Disk_write c_Disk_write k_Disk_write a_Disk_check i_Disk_check l_Disk_check c_Disk_check k_Disk_check kd_Disk_check_synced a_Disk_sync i_Disk_sync l_Disk_sync c_Disk_sync k_Disk_sync a_Disk_table i_Disk_table l_Disk_table c_Disk_table k_Disk_table a_Disk_areas i_Disk_areas l_Disk_areas c_Disk_areas k_Disk_areas a_Disk_unsynced i_Disk_unsynced l_Disk_unsynced c_Disk_unsynced k_Disk_unsynced pa_Disk_syncs pr_Disk_syncs pg_Disk_syncs pt_Disk_syncs l_Disk_syncs c_Disk_syncs k_Disk_syncs pa_Disk_fallen pr_Disk_fallen pg_Disk_fallen pt_Disk_fallen l_Disk_fallen c_Disk_fallen k_Disk_fallen a_Disk_copy i_Disk_copy l_Disk_copy c_Disk_copy k_Disk_copy a_bag l_bag c_bag k_bag a_draw l_draw c_draw k_draw a_of l_of c_of k_of a_like l_like c_like k_like a_odd l_odd c_odd k_odd a_cut l_cut c_cut k_cut a_written l_written c_written k_written a_recorded l_recorded c_recorded k_recorded a_new l_new c_new k_new a_copy l_copy c_copy k_copy a_sync l_sync c_sync k_sync a_check l_check c_check k_check a_write l_write c_write k_write a_areas l_areas c_areas k_areas a_key l_key c_key k_key a_long l_long c_long k_long a_value l_value c_value k_value a_changes l_changes c_changes k_changes a_shelf l_shelf c_shelf k_shelf a_most l_most c_most k_most a_pairs l_pairs c_pairs k_pairs a_disk_so l_disk_so c_disk_so k_disk_so a_ask l_ask c_ask k_ask a_deed l_deed c_deed k_deed a_twin l_twin c_twin k_twin a_spoilt_so l_spoilt_so c_spoilt_so k_spoilt_so a_size_so l_size_so c_size_so k_size_so td_size_so tp_size_so tn_size_so a_full_so l_full_so c_full_so k_full_so a_law l_law c_law k_law top_super st_thirdparty z_all z_bool z_dict z_enumerate z_int z_isinstance z_len z_list z_max z_range z_sorted z_str z_super z_tuple z_zip el_InvalidNumber es_InvalidNumber eb_InvalidNumber et_InvalidNumber ek_InvalidNumber em_InvalidNumber eu_InvalidNumber ev_InvalidNumber ega_InvalidNumber egg_InvalidNumber ehd_InvalidNumber eti_InvalidNumber xb_InvalidNumber_InvalidNumber xi_InvalidNumber_InvalidNumber xt_InvalidNumber_InvalidNumber xs_InvalidNumber_InvalidNumber no_InvalidNumber_value no_InvalidNumber_code pg_Disk hd_Disk po_Disk sa_Disk mk_Disk kc_Disk th_Disk tn_Disk tk_Disk tm_Disk kt_Disk_Disk no_Disk_most no_Disk_table no_Disk_areas no_Disk_unsynced no_Disk_syncs no_Disk_fallen no_Disk_area no_Disk_generation no_Disk_pieces no_Disk_rows me_Disk_put mi_Disk_put me_Disk_take_area mi_Disk_take_area me_Disk_greatest mi_Disk_greatest me_Disk_write mi_Disk_write me_Disk_check mi_Disk_check me_Disk_sync mi_Disk_sync me_Disk_table mi_Disk_table me_Disk_areas mi_Disk_areas me_Disk_unsynced mi_Disk_unsynced me_Disk_copy mi_Disk_copy rd_Disk gat_Disk cvl_Disk_STRETCH
  have at_size_so := tab _ _ _ rc_size_so (tabIn_of a_size_so l_size_so rfl td_size_so tp_size_so)
  have c1 : ∀ p ∈ ([(cda_size_so, tb_size_so)] : List (Addr × Addr)), h.get? p.2 = some { cls := .none, data := .fields #[] } := fun p hp => by
    rcases List.mem_cons.mp hp with rfl | hp
    · exact at_size_so.2
    cases hp
  have c2 : ∀ p ∈ ([(cda_size_so, tb_size_so)] : List (Addr × Addr)), K.lookup p.2 = none := fun p hp => by
    rcases List.mem_cons.mp hp with rfl | hp
    · exact tn_size_so
    cases hp
  have c3 : ∀ p ∈ ([(cda_size_so, tb_size_so)] : List (Addr × Addr)), PySem.W.CodeHd h p.1 p.2 := fun p hp => by
    rcases List.mem_cons.mp hp with rfl | hp
    · exact at_size_so.1
    cases hp
  refine ⟨_, [(cda_size_so, tb_size_so)], spLaw T, c1, c2, c3, fun s v => .of_eq rfl, fun H a ns _ _ ht hS => ⟨a, ns, rfl, hS, fun p hp => ?_, fun _ => rfl⟩, fun base _ _ TB => ok_law T (TB (cda_size_so, tb_size_so) ((.head _)))⟩
  have ht2 := fun (p : Addr × Addr) (hp : p ∈ ([(cda_size_so, tb_size_so)] : List (Addr × Addr))) => ht p hp
  have key : H p.1 = some (.tbl #[]) := by
    have h_size_so : H tb_size_so = some (.tbl #[]) := ht2 (cda_size_so, tb_size_so) ((.head _))
    rcases mem_TL hp with e <;> rw [e] <;> assumption
  exact LamX.TabS.nil key
theorem walk {q : Program} {loose : List Str} {XP : (Str → Option Value) → Heap → Prop} {YP : World → Heap → Prop} {d : DefRec} {K : Params → PySem.W.Frag} (hn : PySem.Challenge.rw_surelet_k14_whole_disk_cells.most = some 63) (hdf : d.params.defaults = [])
    (hY : ∀ (w : World) (h : Heap), YP w h → (K w.params).In h)
    (F : ∀ (w : World) (mg : Str → Option Value) (fa : Addr) (h : Heap), (K w.params).In h → h.Ns mainGlobals mg → mg d.name = some (.ref fa) → TabsTold q (K w.params) h → LamX.LawAtS PySem.Challenge.rw_surelet_k14_whole_disk_cells w (K w.params) CX0 16 63 "_law_script" mg fa h) :
    PySem.W.WalkO q loose XP YP PySem.Challenge.rw_surelet_k14_whole_disk_cells.row.toRowW d [] (fun f vs => PySem.call f vs) := by
  refine Att.attach_callB hn hdf fun w z0 z1 mg mb fa ob pm cd doc a us ns GT Y ho hd hcd hmg hobj hints hlen hbits hgens => ?_
  have KX := hY w _ Y
  obtain ⟨fd, cs, sp, a1, a2, a3, a4, a5, a6⟩ := F w mg fa _ KX GT.T.g hmg fun x c P hr ht => by
    obtain ⟨d2, hd2⟩ := Option.isSome_iff_exists.mp hr
    exact PySem.W.tab_of GT.T KX hd2 ht
  have small : ns.length ≤ sizeLine := Nat.le_trans hlen (by decide)
  exact LamX.law_callTs KX GT.T.g GT.T.b GT.T.builtins GT.T.nolimit hgens a1 a2 a3 GT.T.bmain hobj hints small ⟨rfl, by decide, by decide⟩ a6 a4 (fun H hH hS => a5 H a ns hlen hbits hH hS) fun _ _ _ z => z
end Law

open PySem PySem.W PyProof.Rows in
set_option maxRecDepth 100000 in
set_option maxHeartbeats 0 in
theorem PySem.Challenge.cw_surelet_k14_whole_disk_cells_holds : PySem.Challenge.rw_surelet_k14_whole_disk_cells.Holds := by
  w_on; o_law; k_head; (case hw => w_witness2)
  k_fill
  refine Law.walk rfl rfl (fun w h Y => PySem.W.km_in_of Y) ?F
  case F =>
    intro w mg fa h KX G hmg tab
    refine' Law.all_mk KX G hmg tab ?rc_size_so ?aC_SureletError ?aC_InvalidNumber ?aC_Disk ?a_InvalidNumber_init ?i_InvalidNumber_init ?l_InvalidNumber_init ?c_InvalidNumber_init ?k_InvalidNumber_init ?cell_InvalidNumber_init ?code_InvalidNumber_init ?vs_InvalidNumber_init ?fl_InvalidNumber_init ?cd_InvalidNumber_init ?a_is_number ?l_is_number ?c_is_number ?k_is_number ?a_stretches_of ?l_stretches_of ?c_stretches_of ?k_stretches_of ?a_text_of ?l_text_of ?c_text_of ?k_text_of ?a_words_of ?l_words_of ?c_words_of ?k_words_of ?a_generation_of ?l_generation_of ?c_generation_of ?k_generation_of ?a_Disk_init ?i_Disk_init ?l_Disk_init ?c_Disk_init ?k_Disk_init ?kd_Disk_init_rows ?a_Disk_put ?i_Disk_put ?l_Disk_put ?c_Disk_put ?k_Disk_put ?a_Disk_take_area ?i_Disk_take_area ?l_Disk_take_area ?c_Disk_take_area ?k_Disk_take_area ?a_Disk_greatest ?i_Disk_greatest ?l_Disk_greatest ?c_Disk_greatest ?k_Disk_greatest ?a_Disk_write ?i_Disk_write ?l_Disk_write ?c_Disk_write ?k_Disk_write ?a_Disk_check ?i_Disk_check ?l_Disk_check ?c_Disk_check ?k_Disk_check ?kd_Disk_check_synced ?a_Disk_sync ?i_Disk_sync ?l_Disk_sync ?c_Disk_sync ?k_Disk_sync ?a_Disk_table ?i_Disk_table ?l_Disk_table ?c_Disk_table ?k_Disk_table ?a_Disk_areas ?i_Disk_areas ?l_Disk_areas ?c_Disk_areas ?k_Disk_areas ?a_Disk_unsynced ?i_Disk_unsynced ?l_Disk_unsynced ?c_Disk_unsynced ?k_Disk_unsynced ?pa_Disk_syncs ?pr_Disk_syncs ?pg_Disk_syncs ?pt_Disk_syncs ?l_Disk_syncs ?c_Disk_syncs ?k_Disk_syncs ?pa_Disk_fallen ?pr_Disk_fallen ?pg_Disk_fallen ?pt_Disk_fallen ?l_Disk_fallen ?c_Disk_fallen ?k_Disk_fallen ?a_Disk_copy ?i_Disk_copy ?l_Disk_copy ?c_Disk_copy ?k_Disk_copy ?a_bag ?l_bag ?c_bag ?k_bag ?a_draw ?l_draw ?c_draw ?k_draw ?a_of ?l_of ?c_of ?k_of ?a_like ?l_like ?c_like ?k_like ?a_odd ?l_odd ?c_odd ?k_odd ?a_cut ?l_cut ?c_cut ?k_cut ?a_written ?l_written ?c_written ?k_written ?a_recorded ?l_recorded ?c_recorded ?k_recorded ?a_new ?l_new ?c_new ?k_new ?a_copy ?l_copy ?c_copy ?k_copy ?a_sync ?l_sync ?c_sync ?k_sync ?a_check ?l_check ?c_check ?k_check ?a_write ?l_write ?c_write ?k_write ?a_areas ?l_areas ?c_areas ?k_areas ?a_key ?l_key ?c_key ?k_key ?a_long ?l_long ?c_long ?k_long ?a_value ?l_value ?c_value ?k_value ?a_changes ?l_changes ?c_changes ?k_changes ?a_shelf ?l_shelf ?c_shelf ?k_shelf ?a_most ?l_most ?c_most ?k_most ?a_pairs ?l_pairs ?c_pairs ?k_pairs ?a_disk_so ?l_disk_so ?c_disk_so ?k_disk_so ?a_ask ?l_ask ?c_ask ?k_ask ?a_deed ?l_deed ?c_deed ?k_deed ?a_twin ?l_twin ?c_twin ?k_twin ?a_spoilt_so ?l_spoilt_so ?c_spoilt_so ?k_spoilt_so ?a_size_so ?l_size_so ?c_size_so ?k_size_so ?td_size_so ?tp_size_so ?tn_size_so ?a_full_so ?l_full_so ?c_full_so ?k_full_so ?a_law ?l_law ?c_law ?k_law ?top_super ?st_thirdparty ?z_all ?z_bool ?z_dict ?z_enumerate ?z_int ?z_isinstance ?z_len ?z_list ?z_max ?z_range ?z_sorted ?z_str ?z_super ?z_tuple ?z_zip ?el_InvalidNumber ?es_InvalidNumber ?eb_InvalidNumber ?et_InvalidNumber ?ek_InvalidNumber ?em_InvalidNumber ?eu_InvalidNumber ?ev_InvalidNumber ?ega_InvalidNumber ?egg_InvalidNumber ?ehd_InvalidNumber ?eti_InvalidNumber ?xb_InvalidNumber_InvalidNumber ?xi_InvalidNumber_InvalidNumber ?xt_InvalidNumber_InvalidNumber ?xs_InvalidNumber_InvalidNumber ?no_InvalidNumber_value ?no_InvalidNumber_code ?pg_Disk ?hd_Disk ?po_Disk ?sa_Disk ?mk_Disk ?kc_Disk ?th_Disk ?tn_Disk ?tk_Disk ?tm_Disk ?kt_Disk_Disk ?no_Disk_most ?no_Disk_table ?no_Disk_areas ?no_Disk_unsynced ?no_Disk_syncs ?no_Disk_fallen ?no_Disk_area ?no_Disk_generation ?no_Disk_pieces ?no_Disk_rows ?me_Disk_put ?mi_Disk_put ?me_Disk_take_area ?mi_Disk_take_area ?me_Disk_greatest ?mi_Disk_greatest ?me_Disk_write ?mi_Disk_write ?me_Disk_check ?mi_Disk_check ?me_Disk_sync ?mi_Disk_sync ?me_Disk_table ?mi_Disk_table ?me_Disk_areas ?mi_Disk_areas ?me_Disk_unsynced ?mi_Disk_unsynced ?me_Disk_copy ?mi_Disk_copy ?rd_Disk ?gat_Disk ?cvl_Disk_STRETCH
    (case rc_size_so => first | decide +kernel | rfl)
    (case aC_SureletError => k_is)
    (case aC_InvalidNumber => k_is)
    (case aC_Disk => k_is)
    (case a_InvalidNumber_init => k_is)
    (case i_InvalidNumber_init => k_is)
    (case l_InvalidNumber_init => k_is)
    (case c_InvalidNumber_init => k_is)
    (case k_InvalidNumber_init => k_is)
    (case cell_InvalidNumber_init => k_is)
    (case code_InvalidNumber_init => k_is)
    (case vs_InvalidNumber_init => exact rfl)
    (case fl_InvalidNumber_init => decide +kernel)
    (case cd_InvalidNumber_init => k_is)
    (case a_is_number => k_is)
    (case l_is_number => k_is)
    (case c_is_number => k_is)
    (case k_is_number => k_is)
    (case a_stretches_of => k_is)
    (case l_stretches_of => k_is)
    (case c_stretches_of => k_is)
    (case k_stretches_of => k_is)
    (case a_text_of => k_is)
    (case l_text_of => k_is)
    (case c_text_of => k_is)
    (case k_text_of => k_is)
    (case a_words_of => k_is)
    (case l_words_of => k_is)
    (case c_words_of => k_is)
    (case k_words_of => k_is)
    (case a_generation_of => k_is)
    (case l_generation_of => k_is)
    (case c_generation_of => k_is)
    (case k_generation_of => k_is)
    (case a_Disk_init => k_is)
    (case i_Disk_init => k_is)
    (case l_Disk_init => k_is)
    (case c_Disk_init => k_is)
    (case k_Disk_init => k_is)
    (case kd_Disk_init_rows => k_is)
    (case a_Disk_put => k_is)
    (case i_Disk_put => k_is)
    (case l_Disk_put => k_is)
    (case c_Disk_put => k_is)
    (case k_Disk_put => k_is)
    (case a_Disk_take_area => k_is)
    (case i_Disk_take_area => k_is)
    (case l_Disk_take_area => k_is)
    (case c_Disk_take_area => k_is)
    (case k_Disk_take_area => k_is)
    (case a_Disk_greatest => k_is)
    (case i_Disk_greatest => k_is)
    (case l_Disk_greatest => k_is)
    (case c_Disk_greatest => k_is)
    (case k_Disk_greatest => k_is)
    (case a_Disk_write => k_is)
    (case i_Disk_write => k_is)
    (case l_Disk_write => k_is)
    (case c_Disk_write => k_is)
    (case k_Disk_write => k_is)
    (case a_Disk_check => k_is)
    (case i_Disk_check => k_is)
    (case l_Disk_check => k_is)
    (case c_Disk_check => k_is)
    (case k_Disk_check => k_is)
    (case kd_Disk_check_synced => k_is)
    (case a_Disk_sync => k_is)
    (case i_Disk_sync => k_is)
    (case l_Disk_sync => k_is)
    (case c_Disk_sync => k_is)
    (case k_Disk_sync => k_is)
    (case a_Disk_table => k_is)
    (case i_Disk_table => k_is)
    (case l_Disk_table => k_is)
    (case c_Disk_table => k_is)
    (case k_Disk_table => k_is)
    (case a_Disk_areas => k_is)
    (case i_Disk_areas => k_is)
    (case l_Disk_areas => k_is)
    (case c_Disk_areas => k_is)
    (case k_Disk_areas => k_is)
    (case a_Disk_unsynced => k_is)
    (case i_Disk_unsynced => k_is)
    (case l_Disk_unsynced => k_is)
    (case c_Disk_unsynced => k_is)
    (case k_Disk_unsynced => k_is)
    (case pa_Disk_syncs => k_is)
    (case pr_Disk_syncs => first | k_is | kernel_rfl)
    (case pg_Disk_syncs => k_is)
    (case pt_Disk_syncs => k_is)
    (case l_Disk_syncs => k_is)
    (case c_Disk_syncs => k_is)
    (case k_Disk_syncs => k_is)
    (case pa_Disk_fallen => k_is)
    (case pr_Disk_fallen => first | k_is | kernel_rfl)
    (case pg_Disk_fallen => k_is)
    (case pt_Disk_fallen => k_is)
    (case l_Disk_fallen => k_is)
    (case c_Disk_fallen => k_is)
    (case k_Disk_fallen => k_is)
    (case a_Disk_copy => k_is)
    (case i_Disk_copy => k_is)
    (case l_Disk_copy => k_is)
    (case c_Disk_copy => k_is)
    (case k_Disk_copy => k_is)
    (case a_bag => k_is)
    (case l_bag => k_is)
    (case c_bag => k_is)
    (case k_bag => k_is)
    (case a_draw => k_is)
    (case l_draw => k_is)
    (case c_draw => k_is)
    (case k_draw => k_is)
    (case a_of => k_is)
    (case l_of => k_is)
    (case c_of => k_is)
    (case k_of => k_is)
    (case a_like => k_is)
    (case l_like => k_is)
    (case c_like => k_is)
    (case k_like => k_is)
    (case a_odd => k_is)
    (case l_odd => k_is)
    (case c_odd => k_is)
    (case k_odd => k_is)
    (case a_cut => k_is)
    (case l_cut => k_is)
    (case c_cut => k_is)
    (case k_cut => k_is)
    (case a_written => k_is)
    (case l_written => k_is)
    (case c_written => k_is)
    (case k_written => k_is)
    (case a_recorded => k_is)
    (case l_recorded => k_is)
    (case c_recorded => k_is)
    (case k_recorded => k_is)
    (case a_new => k_is)
    (case l_new => k_is)
    (case c_new => k_is)
    (case k_new => k_is)
    (case a_copy => k_is)
    (case l_copy => k_is)
    (case c_copy => k_is)
    (case k_copy => k_is)
    (case a_sync => k_is)
    (case l_sync => k_is)
    (case c_sync => k_is)
    (case k_sync => k_is)
    (case a_check => k_is)
    (case l_check => k_is)
    (case c_check => k_is)
    (case k_check => k_is)
    (case a_write => k_is)
    (case l_write => k_is)
    (case c_write => k_is)
    (case k_write => k_is)
    (case a_areas => k_is)
    (case l_areas => k_is)
    (case c_areas => k_is)
    (case k_areas => k_is)
    (case a_key => k_is)
    (case l_key => k_is)
    (case c_key => k_is)
    (case k_key => k_is)
    (case a_long => k_is)
    (case l_long => k_is)
    (case c_long => k_is)
    (case k_long => k_is)
    (case a_value => k_is)
    (case l_value => k_is)
    (case c_value => k_is)
    (case k_value => k_is)
    (case a_changes => k_is)
    (case l_changes => k_is)
    (case c_changes => k_is)
    (case k_changes => k_is)
    (case a_shelf => k_is)
    (case l_shelf => k_is)
    (case c_shelf => k_is)
    (case k_shelf => k_is)
    (case a_most => k_is)
    (case l_most => k_is)
    (case c_most => k_is)
    (case k_most => k_is)
    (case a_pairs => k_is)
    (case l_pairs => k_is)
    (case c_pairs => k_is)
    (case k_pairs => k_is)
    (case a_disk_so => k_is)
    (case l_disk_so => k_is)
    (case c_disk_so => k_is)
    (case k_disk_so => k_is)
    (case a_ask => k_is)
    (case l_ask => k_is)
    (case c_ask => k_is)
    (case k_ask => k_is)
    (case a_deed => k_is)
    (case l_deed => k_is)
    (case c_deed => k_is)
    (case k_deed => k_is)
    (case a_twin => k_is)
    (case l_twin => k_is)
    (case c_twin => k_is)
    (case k_twin => k_is)
    (case a_spoilt_so => k_is)
    (case l_spoilt_so => k_is)
    (case c_spoilt_so => k_is)
    (case k_spoilt_so => k_is)
    (case a_size_so => k_is)
    (case l_size_so => k_is)
    (case c_size_so => k_is)
    (case k_size_so => k_is)
    (case td_size_so => k_is)
    (case tp_size_so => exact rfl)
    (case tn_size_so => first | k_is | kernel_rfl | rfl)
    (case a_full_so => k_is)
    (case l_full_so => k_is)
    (case c_full_so => k_is)
    (case k_full_so => k_is)
    (case a_law => k_is)
    (case l_law => k_is)
    (case c_law => k_is)
    (case k_law => k_is)
    (case top_super => decide +kernel)
    (case st_thirdparty => k_is)
    (case z_all => k_is)
    (case z_bool => k_is)
    (case z_dict => k_is)
    (case z_enumerate => k_is)
    (case z_int => k_is)
    (case z_isinstance => k_is)
    (case z_len => k_is)
    (case z_list => k_is)
    (case z_max => k_is)
    (case z_range => k_is)
    (case z_sorted => k_is)
    (case z_str => k_is)
    (case z_super => k_is)
    (case z_tuple => k_is)
    (case z_zip => k_is)
    (case el_InvalidNumber => k_is)
    (case es_InvalidNumber => k_is)
    (case eb_InvalidNumber => k_is)
    (case et_InvalidNumber => k_is)
    (case ek_InvalidNumber => k_is)
    (case em_InvalidNumber => k_is)
    (case eu_InvalidNumber => first | ks_is | k_is)
    (case ev_InvalidNumber => k_is)
    (case ega_InvalidNumber => k_is)
    (case egg_InvalidNumber => k_is)
    (case ehd_InvalidNumber => k_is)
    (case eti_InvalidNumber => k_is)
    (case xb_InvalidNumber_InvalidNumber => k_is)
    (case xi_InvalidNumber_InvalidNumber => k_is)
    (case xt_InvalidNumber_InvalidNumber => k_is)
    (case xs_InvalidNumber_InvalidNumber => first | rfl | k_is)
    (case no_InvalidNumber_value => k_is)
    (case no_InvalidNumber_code => k_is)
    (case pg_Disk => k_is)
    (case hd_Disk => k_is)
    (case po_Disk => k_is)
    (case sa_Disk => k_is)
    (case mk_Disk => k_is)
    (case kc_Disk => k_is)
    (case th_Disk => k_is)
    (case tn_Disk => k_is)
    (case tk_Disk => k_is)
    (case tm_Disk => k_is)
    (case kt_Disk_Disk => first | k_is | kernel_rfl)
    (case no_Disk_most => k_is)
    (case no_Disk_table => k_is)
    (case no_Disk_areas => k_is)
    (case no_Disk_unsynced => k_is)
    (case no_Disk_syncs => k_is)
    (case no_Disk_fallen => k_is)
    (case no_Disk_area => k_is)
    (case no_Disk_generation => k_is)
    (case no_Disk_pieces => k_is)
    (case no_Disk_rows => k_is)
    (case me_Disk_put => k_is)
    (case mi_Disk_put => k_is)
    (case me_Disk_take_area => k_is)
    (case mi_Disk_take_area => k_is)
    (case me_Disk_greatest => k_is)
    (case mi_Disk_greatest => k_is)
    (case me_Disk_write => k_is)
    (case mi_Disk_write => k_is)
    (case me_Disk_check => k_is)
    (case mi_Disk_check => k_is)
    (case me_Disk_sync => k_is)
    (case mi_Disk_sync => k_is)
    (case me_Disk_table => k_is)
    (case mi_Disk_table => k_is)
    (case me_Disk_areas => k_is)
    (case mi_Disk_areas => k_is)
    (case me_Disk_unsynced => k_is)
    (case mi_Disk_unsynced => k_is)
    (case me_Disk_copy => k_is)
    (case mi_Disk_copy => k_is)
    (case rd_Disk => first | k_is | kernel_rfl)
    (case gat_Disk => k_is)
    (case cvl_Disk_STRETCH => first | k_is | kernel_rfl)

