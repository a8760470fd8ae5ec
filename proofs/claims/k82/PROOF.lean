import PyProof.Rows.All
import Wide.All
import OpenK.AllK
import Wide.FinOn
import KE.KStateDown
import HandS.Head0
import HandS.Head1
import HandS.Head2
import HandS.HeadEnd
import HandS.HeadHook1
import HandS.HeadHook2
import HandS.Base
import HandS.Call
import HandS.List
import HandS.Comp
import HandS.Ends
import HandS.Iter
import HandS.Text
import HandS.Words
import HandS.Codes
import HandS.Wide
import HandS.Flow
import HandS.Style
import HandS.Defaults
import HandS.Conv
import HandS.IsInst
import HandS.TupAny
import HandS.TupMul
import HandS.TupLe
import KE.GoesMore
import HandS.Walk
import PySem.Challenge.RW_ownrules_k82_frames_are_read_up_to_the_f
set_option Elab.async false
set_option linter.all false
set_option maxRecDepth 100000
set_option maxHeartbeats 4000000
/-! Kx: readings that reduce by themselves (match on values), data trees, frames. -/
namespace Kx
open PySem PySem.Spec PyProof.Rows L2
section
variable {X : Cx} {K : PySem.W.Frag}
theorem peI {e : Expr} {t t' : TE} (p : PE X e t) (f : ∀ σ H Q, t' σ H Q → t σ H Q) : PE X e t' := ⟨fun pins s σ H Q I h => p.run pins s σ H Q I (f σ H Q h)⟩
theorem ptI {e : Expr} {t t' : TT} (p : PT X e t) (f : ∀ σ H Q, t' σ H Q → t σ H Q) : PT X e t' := ⟨fun pins s σ H Q I h => p.run pins s σ H Q I (f σ H Q h)⟩
theorem psI {e : Stmt} {t t' : TS} (p : PS X e t) (f : ∀ D σ H, t' D σ H → t D σ H) : PS X e t' := ⟨fun pins s σ H D I h => p.run pins s σ H D I (f D σ H h)⟩
theorem opI' {g : Value → Value → Sem Value} {r r' : R2} (p : OpR X g r) (f : ∀ x y H Q, r' x y H Q → r x y H Q) : OpR X g r' :=
  fun pins s σ H x y v u Q I a b h => p pins s σ H x y v u Q I a b (f x y H Q h)
theorem caI {g : Value} {r r' : List V → Hp → VK → Prop} (p : CallR X g r) (f : ∀ x H Q, r' x H Q → r x H Q) : CallR X g r' :=
  fun pins s σ H x u Q I a h => p pins s σ H x u Q I a (f x H Q h)
theorem ixI {r r' : R2} (p : IxR X r) (f : ∀ x y H Q, r' x y H Q → r x y H Q) : IxR X r' :=
  fun va sl pins s σ H x y v u Q I a b h => p va sl pins s σ H x y v u Q I a b (f x y H Q h)
theorem slI {r r' : V → Option Int → Option Int → Hp → VK → Prop} (p : SlR X r) (f : ∀ x l h H Q, r' x l h H Q → r x l h H Q) : SlR X r' :=
  fun pins s σ H x v vl vu lo hi sl Q I a b c d h => p pins s σ H x v vl vu lo hi sl Q I a b c d (f x lo hi H Q h)
/-! ### names -/
/-- the value in slot i -/
def tV (i : Nat) : TE := fun σ H Q => match σ[i]? with
  | some (some v) => Q v H
  | _ => False
theorem kv (i : Nat) {x : Str} {pos : Pos} (hN : X.N[i]? = some x := by rfl) (hv : Vis X.env.scope x := by first | exact Or.inl rfl | exact Or.inr (Or.inl rfl) | exact Or.inr (Or.inr rfl)) (hd : (x == ("__debug__" : Str)) = false := by decide)
    (hcd : (x == ("__classdict__" : Str)) = false := by decide) : PE X (.Name x pos) (tV i) := peI (pv i hN hv hd hcd) fun σ H Q h => by
  unfold tV at h
  split at h
  · rename_i v e
    exact ⟨v, e, h⟩
  · exact h.elim
/-! ### whole numbers and texts -/
def qAdd : R2 := fun x y H Q => match x, y with
  | .int i, .int j => Q (.int (i + j)) H
  | .str a, .str b => a.length + b.length ≤ sizeLine ∧ Q (.str (a ++ b)) H
  | _, _ => False
theorem o_add : OpR X (binaryOp .Add) qAdd := opI' (OpR.or op_add op_add_str) fun x y H Q h => by
  unfold qAdd at h
  split at h
  · exact .inl ⟨_, _, rfl, rfl, h⟩
  · exact .inr ⟨_, _, rfl, rfl, h.1, h.2⟩
  · exact h.elim
def qSub : R2 := fun x y H Q => match x, y with
  | .int i, .int j => Q (.int (i - j)) H
  | _, _ => False
theorem o_sub : OpR X (binaryOp .Sub) qSub := opI' op_sub fun x y H Q h => by
  unfold qSub at h
  split at h
  · exact ⟨_, _, rfl, rfl, h⟩
  · exact h.elim
/-- a product: one factor below 2^64 -/
def qMul : R2 := fun x y H Q => match x, y with
  | .int i, .int j => CMul i j ∧ Q (.int (i * j)) H
  | _, _ => False
theorem o_mul : OpR X (binaryOp .Mult) qMul := opI' op_mul fun x y H Q h => by
  unfold qMul at h
  split at h
  · exact ⟨_, _, rfl, rfl, h.1, h.2⟩
  · exact h.elim
def qMulW : R2 := fun x y H Q => match x, y with
  | .int i, .int j => CMulW i j ∧ Q (.int (i * j)) H
  | _, _ => False
theorem o_mulW : OpR X (binaryOp .Mult) qMulW := opI' op_mulW fun x y H Q h => by
  unfold qMulW at h
  split at h
  · exact ⟨_, _, rfl, rfl, h.1, h.2⟩
  · exact h.elim
def qMod : R2 := fun x y H Q => match x, y with
  | .int i, .int j => 0 < j ∧ Q (.int (i % j)) H
  | _, _ => False
theorem o_mod : OpR X (binaryOp .Mod) qMod := opI' op_mod fun x y H Q h => by
  unfold qMod at h
  split at h
  · exact ⟨_, _, rfl, rfl, h.1, h.2⟩
  · exact h.elim
def qDiv : R2 := fun x y H Q => match x, y with
  | .int i, .int j => CDiv i j ∧ Q (.int (i / j)) H
  | _, _ => False
theorem o_div : OpR X (binaryOp .FloorDiv) qDiv := opI' op_fdiv fun x y H Q h => by
  unfold qDiv at h
  split at h
  · exact ⟨_, _, rfl, rfl, h.1, h.2⟩
  · exact h.elim
def qPow : R2 := fun x y H Q => match x, y with
  | .int i, .int j => CPow i j ∧ Q (.int (i ^ j.toNat)) H
  | _, _ => False
theorem o_pow : OpR X (binaryOp .Pow) qPow := opI' op_pow fun x y H Q h => by
  unfold qPow at h
  split at h
  · exact ⟨_, _, rfl, rfl, h.1, h.2⟩
  · exact h.elim
def qI2 (f : Int → Int → Bool) : R2 := fun x y H Q => match x, y with
  | .int i, .int j => Q (.bl (f i j)) H
  | _, _ => False
theorem qI2_ok {f : Int → Int → Bool} {x y : V} {H : Hp} {Q : VK} (h : qI2 f x y H Q) : rI0 (fun i j => .bl (f i j)) x y H Q := by
  unfold qI2 at h
  split at h
  · exact ⟨_, _, rfl, rfl, h⟩
  · exact h.elim
theorem o_lt : OpR X (compareOp .Lt) (qI2 fun i j => decide (i < j)) := opI' op_lt fun _ _ _ _ h => qI2_ok h
theorem o_le : OpR X (compareOp .LtE) (qI2 fun i j => decide (i ≤ j)) := opI' op_le fun _ _ _ _ h => qI2_ok h
theorem o_gt : OpR X (compareOp .Gt) (qI2 fun i j => decide (j < i)) := opI' op_gt fun _ _ _ _ h => qI2_ok h
theorem o_ge : OpR X (compareOp .GtE) (qI2 fun i j => decide (j ≤ i)) := opI' op_ge fun _ _ _ _ h => qI2_ok h
/-- == of things that hold no others -/
def eqS (x y : V) : Option Bool := match x, y with
  | .int i, .int j => some (decide (i = j))
  | .str a, .str b => some (decide (a = b))
  | .bl a, .bl b => some (decide (a = b))
  | .non, .non => some true
  | .non, .int _ => some false
  | .int _, .non => some false
  | .non, .str _ => some false
  | .str _, .non => some false
  | .int _, .str _ => some false
  | .str _, .int _ => some false
  | .non, .bl _ => some false
  | .bl _, .non => some false
  | .bl _, .str _ => some false
  | .str _, .bl _ => some false
  | _, _ => none
theorem eqS_ok {x y : V} {b : Bool} (h : eqS x y = some b) : scal x y = true ∧ decide (x = y) = b := by
  unfold eqS at h
  split at h <;> first | (cases h; done) | (have h := Option.some.inj h; subst h; refine ⟨rfl, ?_⟩; simp)
def qEqS : R2 := fun x y H Q => match eqS x y with
  | some b => Q (.bl b) H
  | none => False
def qNeS : R2 := fun x y H Q => match eqS x y with
  | some b => Q (.bl (!b)) H
  | none => False
theorem o_eq : OpR X (compareOp .Eq) qEqS := opI' op_eq fun x y H Q h => by
  unfold qEqS at h
  split at h
  · rename_i b e
    obtain ⟨a, c⟩ := eqS_ok e
    exact ⟨a, c ▸ h⟩
  · exact h.elim
theorem o_ne : OpR X (compareOp .NotEq) qNeS := opI' op_ne fun x y H Q h => by
  unfold qNeS at h
  split at h
  · rename_i b e
    obtain ⟨a, c⟩ := eqS_ok e
    exact ⟨a, c ▸ h⟩
  · exact h.elim
/-- is None -/
def isNon : V → Bool
  | .non => true
  | _ => false
theorem isNon_eq (x : V) : decide (x = .non) = isNon x := by cases x <;> simp [isNon]
def qIsN : R2 := fun x y H Q => match y with
  | .non => Q (.bl (isNon x)) H
  | _ => False
def qNotN : R2 := fun x y H Q => match y with
  | .non => Q (.bl (!isNon x)) H
  | _ => False
theorem o_isN : OpR X (compareOp .Is) qIsN := opI' op_isN fun x y H Q h => by
  unfold qIsN at h
  split at h
  · exact ⟨rfl, by rw [isNon_eq]; exact h⟩
  · exact h.elim
theorem o_notN : OpR X (compareOp .IsNot) qNotN := opI' op_notN fun x y H Q h => by
  unfold qNotN at h
  split at h
  · exact ⟨rfl, by rw [isNon_eq]; exact h⟩
  · exact h.elim
/-! ### tests -/
def onB (x : V) (g : Bool → Prop) : Prop := match x with
  | .bl k => g k
  | _ => False
def onI (x : V) (g : Int → Prop) : Prop := match x with
  | .int k => g k
  | _ => False
def onR (x : V) (g : Addr → Prop) : Prop := match x with
  | .ref k => g k
  | _ => False
theorem onB_ok {x : V} {g : Bool → Prop} (h : onB x g) : ∃ k, x = .bl k ∧ g k := by
  cases x <;> first | exact ⟨_, rfl, h⟩ | exact h.elim
theorem onI_ok {x : V} {g : Int → Prop} (h : onI x g) : ∃ k, x = .int k ∧ g k := by
  cases x <;> first | exact ⟨_, rfl, h⟩ | exact h.elim
theorem onR_ok {x : V} {g : Addr → Prop} (h : onR x g) : ∃ k, x = .ref k ∧ g k := by
  cases x <;> first | exact ⟨_, rfl, h⟩ | exact h.elim
def tTM (t : TE) : TT := fun σ H Q => t σ H fun x H1 => onB x fun k => Q k H1
theorem tmB {pins : List (Addr × Obj)} {σ : L2.St} {H : Hp} {s : Shared} {x : V} {v : Value} {Q : Bool → Hp → Prop} (I : Inv X pins σ H s) (r : RelV x v) (h : onB x fun k => Q k H) :
    wpAny (model X.prog X.w) X.A (truthy v) (TP X pins σ Q) X.xe s := by
  obtain ⟨k, rfl, h⟩ := onB_ok h
  have e : v = Value.bool k := r
  subst e
  exact wpAny_truthy_bool ⟨H, I, h⟩
theorem kt_cmp {op : CmpOp} {a b : Expr} {ta tb : TE} {pos : Pos} {r : R2} (ho : OpR X (compareOp op) r) (ha : PE X a ta) (hb : PE X b tb) (hm : behindInMarks op b = false := by first | exact nomark _ | rfl) : PT X (.Compare a [op] [b] pos) (tTM (tOp r ta tb)) :=
  ⟨fun pins s σ H _ I h => wpAny_isTrue_Compare1 (thn (ha.run pins s σ H _ I h) fun _ s1 ⟨_, H1, I1, rx, q1⟩ => thn (hb.run pins s1 σ H1 _ I1 q1) fun _ s2 ⟨_, H2, I2, ry, q2⟩ =>
    thn (ho pins s2 σ H2 _ _ _ _ _ I2 rx ry q2) fun _ _ ⟨_, _, I3, rz, q3⟩ => tmB I3 rz q3) hm⟩
theorem ke_cmp {op : CmpOp} {a b : Expr} {ta tb : TE} {pos : Pos} {r : R2} (ho : OpR X (compareOp op) r) (ha : PE X a ta) (hb : PE X b tb) (hm : behindInMarks op b = false := by first | exact nomark _ | rfl) : PE X (.Compare a [op] [b] pos) (tOp r ta tb) :=
  pe_cmpR ho ha hb hm
theorem kt_val {e : Expr} {t : TE} (h : PE X e t) (he : ∀ whole, isTrue e X.env whole = (do let v ← whole; standAt e.pos; holding [v] (truthy v)) := by intro _; rfl) : PT X e (tTM t) :=
  ⟨fun pins s σ H _ I w => isTrue_plain (thn (h.run pins s σ H _ I w) fun _ _ ⟨_, _, I1, rx, q⟩ => tmB I1 rx q) (he _)⟩
/-- what is wanted may be made weaker behind -/
def tMo (t : TE) : TE := fun σ H Q => ∃ R : VK, t σ H R ∧ ∀ v H', R v H' → Q v H'
theorem peM {e : Expr} {t : TE} (h : PE X e t) : PE X e (tMo t) := ⟨fun pins s σ H _ I ⟨_, w, f⟩ => thn (h.run pins s σ H _ I w) fun _ _ ⟨v, H', I', r, q⟩ => ⟨v, H', I', r, f v H' q⟩⟩
def tMoT (t : TT) : TT := fun σ H Q => ∃ R : Bool → Hp → Prop, t σ H R ∧ ∀ v H', R v H' → Q v H'
theorem ptM {e : Expr} {t : TT} (h : PT X e t) : PT X e (tMoT t) := ⟨fun pins s σ H _ I ⟨_, w, f⟩ => thn (h.run pins s σ H _ I w) fun _ _ ⟨H', I', q⟩ => ⟨H', I', f _ H' q⟩⟩
def tMoA (t : TA) : TA := fun σ H Q => ∃ R : List V → Hp → Prop, t σ H R ∧ ∀ v H', R v H' → Q v H'
theorem paM {e : List Expr} {t : TA} (h : PA X e t) : PA X e (tMoA t) := ⟨fun pos pins s σ H _ I ⟨_, w, f⟩ => thn (h.run pos pins s σ H _ I w) fun _ _ ⟨v, H', I', r, q⟩ => ⟨v, H', I', r, f v H' q⟩⟩
/-- not, and, or as values (bools) -/
def tNotM (t : TE) : TE := fun σ H Q => t σ H fun x H1 => onB x fun k => Q (.bl (!k)) H1
def tAndM (t u : TE) : TE := fun σ H Q => t σ H fun x H1 => onB x fun k => if k = true then u σ H1 Q else Q (.bl false) H1
def tOrM (t u : TE) : TE := fun σ H Q => t σ H fun x H1 => onB x fun k => if k = true then Q (.bl true) H1 else u σ H1 Q
variable {a b : Expr} {ta tb : TE} {pos : Pos} {rest : List Expr}
theorem ke_not (ha : PE X a ta) : PE X (.UnaryOp .Not a pos) (tNotM ta) :=
  peI (pe_not (peM ha)) fun _ _ _ h => ⟨_, h, fun _ _ q => onB_ok q⟩
theorem ke_and (ha : PE X a ta) (hb : PE X (.BoolOp .And (b :: rest) pos) tb) : PE X (.BoolOp .And (a :: b :: rest) pos) (tAndM ta tb) :=
  peI (pe_and (peM ha) hb) fun _ _ _ h => ⟨_, h, fun _ _ q => onB_ok q⟩
theorem ke_or (ha : PE X a ta) (hb : PE X (.BoolOp .Or (b :: rest) pos) tb) : PE X (.BoolOp .Or (a :: b :: rest) pos) (tOrM ta tb) :=
  peI (pe_or (peM ha) hb) fun _ _ _ h => ⟨_, h, fun _ _ q => onB_ok q⟩
/-! ### lists and tuples -/
/-- a list that stands, or a tuple -/
def Sq (K : PySem.W.Frag) (H : Hp) (a : Addr) (xs : List V) : Prop := SqL K H a xs ∨ SqT K H a xs
def qLen (K : PySem.W.Frag) : List V → Hp → VK → Prop := fun vs H Q => match vs with
  | [.str z] => z.length ≤ sizeLine ∧ Q (.int z.length) H
  | [.ref a] => ∃ xs, Sq K H a xs ∧ Q (.int xs.length) H
  | _ => False
theorem c_len : CallR X (.builtin "len") (qLen X.K) := caI (CallR.or call_len_seq call_len_str) fun vs H Q h => by
  unfold qLen at h
  split at h
  · exact .inr ⟨_, rfl, h.1, h.2⟩
  · obtain ⟨xs, h1, h2⟩ := h
    exact .inl ⟨_, xs, rfl, h1, h2⟩
  · exact h.elim
theorem ke_len {x : Str} {p : Pos} {e : Expr} {es : List Expr} {t : TA} (hg : Gl X "len") (hm : X.mg "len" = none) (ha : PA X (e :: es) t) (he : starEach (e :: es) X.env = (false, eval e X.env) :: starEach es X.env := by rfl) (hpl : (backTo pos (starEach es X.env)).any (·.1) = false := by rfl) :
    PE X (.Call (.Name "len" p) (e :: es) [] pos) (tCB (qLen X.K) t) := pe_callB c_len hg hm boot_len ha (by decide) (by decide) he hpl
/-- an item of a list, a tuple, a text -/
def qIx (K : PySem.W.Frag) : R2 := fun x y H Q => match x, y with
  | .ref a, .int i => ∃ xs v, Sq K H a xs ∧ atI xs i = some v ∧ Q v H
  | .str z, .int i => z.length ≤ sizeLine ∧ ∃ c, atI z.cps.toList i = some c ∧ Q (.str ⟨#[c]⟩) H
  | _, _ => False
theorem i_ix : IxR X (qIx X.K) := ixI ix_seq fun x y H Q h => by
  unfold qIx at h
  split at h
  · obtain ⟨xs, v, h1, h2, h3⟩ := h
    rcases h1 with h1 | h1
    · exact .inl ⟨_, xs, _, v, rfl, rfl, h1, h2, h3⟩
    · exact .inr (.inl ⟨_, xs, _, v, rfl, rfl, h1, h2, h3⟩)
  · obtain ⟨h1, c, h2, h3⟩ := h
    exact .inr (.inr ⟨_, _, c, rfl, rfl, h1, h2, h3⟩)
  · exact h.elim
theorem ke_ix (ha : PE X a ta) (hb : PE X b tb) (hs : PlainIx b := by exact fun _ _ => rfl) : PE X (.Subscript a b pos) (tOp (qIx X.K) ta tb) := pe_ix i_ix ha hb hs
theorem cutV_all {xs : List V} {lo hi : Option Int} (h1 : HT.sIx xs.length 0 lo = 0) (h2 : HT.sIx xs.length xs.length hi = xs.length) : cutV xs lo hi = xs := by
  unfold cutV
  rw [h1, h2, List.drop_zero, Nat.sub_zero, List.take_length]
theorem same_new {H : Hp} {p : Addr} {o : HO} (h : H p = none) : Same H (upd H p o) := fun a u e => by
  rw [upd_ne (ne_of_none e h)]
  exact e
theorem sqt_of {H : Hp} {a : Addr} {xs : List V} (h : H a = some (.tup xs)) : SqT K H a xs := .inl (.inl h)
theorem sql_of {H : Hp} {a : Addr} {xs : List V} (h : H a = some (.lst xs)) : SqL K H a xs := .inl (.inl h)
/-- slices: of a list a new one, of a tuple some tuple -/
def qSl (K : PySem.W.Frag) : V → Option Int → Option Int → Hp → VK → Prop := fun x lo hi H Q => match x with
  | .ref a => (∃ xs, SqL K H a xs ∧ ∀ p, H p = none → Q (.ref p) (upd H p (.lst (cutV xs lo hi)))) ∨ (∃ xs, SqT K H a xs ∧ ∀ b H', Same H H' → SqT K H' b (cutV xs lo hi) → Q (.ref b) H')
  | .str z => z.length ≤ sizeLine ∧ Q (.str (cutS z lo hi)) H
  | _ => False
theorem s_sl : SlR X (qSl X.K) := slI (SlR.or sl_list (SlR.or sl_tupA sl_str)) fun x lo hi H Q h => by
  unfold qSl at h
  split at h
  · rcases h with ⟨xs, h1, h2⟩ | ⟨xs, h, q⟩
    · exact .inl ⟨_, xs, rfl, h1, h2⟩
    · exact .inr (.inl ⟨_, xs, rfl, h, fun ⟨h1, h2⟩ => q _ H (Same.refl H) (by rw [cutV_all h1 h2]; exact h), fun _ p np => q p _ (same_new np) (sqt_of upd_same)⟩)
  · exact .inr (.inr ⟨_, rfl, h.1, h.2⟩)
  · exact h.elim
/-- two tuples one behind another -/
def qCatT (K : PySem.W.Frag) : R2 := fun x y H Q => match x, y with
  | .ref a, .ref b => ∃ xs ys, SqT K H a xs ∧ SqT K H b ys ∧ xs.length + ys.length ≤ sizeLine ∧ ∀ c H', Same H H' → SqT K H' c (xs ++ ys) → Q (.ref c) H'
  | _, _ => False
theorem o_catT : OpR X (binaryOp .Add) (qCatT X.K) := opI' op_catA fun x y H Q h => by
  unfold qCatT at h
  split at h
  · obtain ⟨xs, ys, h1, h2, h3, q⟩ := h
    refine ⟨_, _, xs, ys, rfl, rfl, h1, h2, h3, fun e => ?_, fun _ e => ?_, fun _ _ p np => q p _ (same_new np) (sqt_of upd_same)⟩
    · subst e
      exact q _ H (Same.refl H) h2
    · subst e
      exact q _ H (Same.refl H) (by rw [List.append_nil]; exact h1)
  · exact h.elim
/-- parts of a slice -/
def tPt (te : TE) : TO := fun σ H Q => te σ H fun x H1 => onI x fun i => Q (some i) H1
theorem po_s {e : Expr} (he : PE X e ta) : PO X (some e) (tPt ta) := by
  have h := po_some (peM he)
  exact ⟨fun pins s σ H Q I w => h.run pins s σ H Q I ⟨_, w, fun _ _ q => onI_ok q⟩⟩
/-! ### methods of lists -/
def tApp (to te : TE) : TE := fun σ H Q => to σ H fun x H1 => onR x fun l => (∃ ys, H1 l = some (.lst ys)) ∧ te σ H1 fun y H2 => ∃ xs, H2 l = some (.lst xs) ∧ xs.length < sizeLine ∧ Q .non (upd H2 l (.lst (xs ++ [y])))
theorem ke_append {o e : Expr} {apos cpos : Pos} {to te : TE} (ho : PE X o to) (he : PE X e te)
    (hbase : attributeBase o "append" X.env (eval o X.env) = eval o X.env := by rfl)
    (hfew : ((backTo cpos (starEach [e] X.env)).all (fun x => !x.1) && (backToKw cpos (keywordEach [] X.env)).all (fun x => x.1.isSome)
      && decide ([e].length + ([] : List Keyword).length + (if ([] : List Keyword).isEmpty then 0 else 1) < 30)) = true := by rfl)
    (hline : (apos.endLine == cpos.line) = true := by rfl) (hs : starEach [e] X.env = (false, eval e X.env) :: starEach [] X.env := by rfl) (hplain : (backTo cpos (starEach [] X.env)).any (·.1) = false := by rfl) :
    PE X (.Call (.Attribute o "append" apos) [e] [] cpos) (tApp to te) :=
  peI (pe_bm PySem.F.plainAttrs_list PySem.F.slot_list_append PySem.F.type_list_append mt_append (peM ho) (pa_cons (peM he) pa_nil hs) hbase hfew hline hs hplain) fun σ H Q h =>
    ⟨_, h, fun x H1 q => by
      obtain ⟨l, rfl, ⟨ys, q1⟩, q2⟩ := onR_ok q
      exact ⟨.inl ⟨rfl, ys, .inl (.inl q1)⟩, _, q2, fun y H2 ⟨xs, w1, w2, w3⟩ => ⟨l, xs, y, rfl, rfl, w1, w2, w3⟩⟩⟩
def tPop (to : TE) : TE := fun σ H Q => to σ H fun x H1 => onR x fun l => ∃ xs y, H1 l = some (.lst (xs ++ [y])) ∧ Q y (upd H1 l (.lst xs))
theorem ke_pop {o : Expr} {apos cpos : Pos} {to : TE} (ho : PE X o to) (hbase : attributeBase o "pop" X.env (eval o X.env) = eval o X.env := by rfl) (hline : (apos.endLine == cpos.line) = true := by rfl) :
    PE X (.Call (.Attribute o "pop" apos) [] [] cpos) (tPop to) :=
  peI (pe_bm0 PySem.F.plainAttrs_list PySem.F.slot_list_pop PySem.F.type_list_pop mt_pop (peM ho) hbase hline) fun σ H Q h =>
    ⟨_, h, fun x H1 q => by
      obtain ⟨l, rfl, xs, y, q1, q2⟩ := onR_ok q
      refine ⟨.inl ⟨rfl, _, .inl (.inl q1)⟩, l, _, y, rfl, rfl, q1, ?_, ?_⟩
      · rw [List.length_append, List.length_singleton, Nat.add_sub_cancel, List.getElem?_concat_length]
      · rw [List.dropLast_concat]
        exact q2⟩
end
end Kx
namespace Kx
open PySem PySem.Spec PyProof.Rows L2
/-! ### frames -/
/-- what may be written stands at M -/
structure Wf (M : Addr → Prop) (H : Hp) : Prop where
  al : ∀ a, M a → ∃ o, H a = some o
  nt : ∀ a xs, M a → ¬ Rd H a (.tup xs)
/-- all but M is as it was -/
structure Fr (M : Addr → Prop) (H H' : Hp) : Prop where
  keep : ∀ a o, ¬ M a → H a = some o → H' a = some o
  w : Wf M H
  w' : Wf M H'
theorem Fr.refl {M : Addr → Prop} {H : Hp} (w : Wf M H) : Fr M H H := ⟨fun _ _ _ h => h, w, w⟩
theorem Fr.trans {M : Addr → Prop} {H H1 H2 : Hp} (a : Fr M H H1) (b : Fr M H1 H2) : Fr M H H2 := ⟨fun x o n h => b.keep x o n (a.keep x o n h), a.w, b.w'⟩
theorem Wf.same {M : Addr → Prop} {H H' : Hp} (w : Wf M H) (s : Same H H') : Wf M H' :=
  ⟨fun a m => let ⟨o, e⟩ := w.al a m; ⟨o, s a o e⟩, fun a xs m r => by
    obtain ⟨o, e⟩ := w.al a m
    rcases r with r | ⟨u, r⟩
    · rw [s a o e] at r
      cases r
      exact w.nt a xs m (.inl e)
    · rw [s a o e] at r
      cases r
      exact w.nt a xs m (.inr ⟨u, e⟩)⟩
theorem Fr.same {M : Addr → Prop} {H H' : Hp} (w : Wf M H) (s : Same H H') : Fr M H H' := ⟨fun a o _ h => s a o h, w, w.same s⟩
theorem same_mut {H H' : Hp} {p : Addr} {o : HO} (s : Same H H') (h : H p = none) : Same H (upd H' p o) := fun a u e => by
  rw [upd_ne (ne_of_none e h)]
  exact s a u e
theorem Wf.notM {M : Addr → Prop} {H : Hp} {p : Addr} (w : Wf M H) (h : H p = none) : ¬ M p := fun m => by
  obtain ⟨o, e⟩ := w.al p m
  rw [h] at e
  cases e
theorem Fr.new {M : Addr → Prop} {H H' : Hp} {p : Addr} {o : HO} (f : Fr M H H') (h : H' p = none) : Fr M H (upd H' p o) := f.trans (.same f.w' (same_new h))
/-- an object that is not of M changes, new since H -/
theorem Fr.mut {M : Addr → Prop} {H H' : Hp} {p : Addr} {o : HO} (f : Fr M H H') (h : H p = none) : Fr M H (upd H' p o) := by
  have np : ¬ M p := f.w.notM h
  refine ⟨fun a u n e => ?_, f.w, fun a m => ?_, fun a xs m r => ?_⟩
  · rw [upd_ne (ne_of_none e h)]
    exact f.keep a u n e
  · rw [upd_ne (fun e : a = p => np (by rw [← e]; exact m))]
    exact f.w'.al a m
  · have e1 : upd H' p o a = H' a := upd_ne (fun e : a = p => np (by rw [← e]; exact m))
    refine f.w'.nt a xs m ?_
    unfold Rd at r ⊢
    rw [e1] at r
    exact r
/-- an object of M changes -/
theorem Fr.put {M : Addr → Prop} {H H' : Hp} {p : Addr} {xs : List V} (f : Fr M H H') (m : M p) : Fr M H (upd H' p (.lst xs)) := by
  refine ⟨fun a u n e => ?_, f.w, fun a m => ?_, fun a ys m r => ?_⟩
  · rw [upd_ne (fun z : a = p => n (by rw [z]; exact m))]
    exact f.keep a u n e
  · by_cases e : a = p
    · subst e
      exact ⟨_, upd_same⟩
    · rw [upd_ne e]
      exact f.w'.al a m
  · by_cases e : a = p
    · subst e
      unfold Rd at r
      rw [upd_same] at r
      rcases r with r | ⟨u, r⟩ <;> cases r
    · refine f.w'.nt a ys m ?_
      unfold Rd at r ⊢
      rw [upd_ne e] at r
      exact r
/-- one more that may be written -/
def Mo (M : Addr → Prop) (p : Addr) : Addr → Prop := fun a => M a ∨ a = p
theorem Wf.mo {M : Addr → Prop} {H : Hp} {p : Addr} {xs : List V} (w : Wf M H) (e : H p = some (.lst xs)) : Wf (Mo M p) H :=
  ⟨fun a m => by
    rcases m with m | rfl
    · exact w.al a m
    · exact ⟨_, e⟩, fun a ys m r => by
    rcases m with m | rfl
    · exact w.nt a ys m r
    · rcases r with r | ⟨u, r⟩ <;> (rw [e] at r; cases r)⟩
/-- what changed less may have changed more -/
theorem Fr.mo {M : Addr → Prop} {H H' : Hp} {p : Addr} {xs : List V} (f : Fr M H H') (np : ¬ M p) (e : H p = some (.lst xs)) : Fr (Mo M p) H H' :=
  ⟨fun a o n h => f.keep a o (fun m => n (.inl m)) h, f.w.mo e, f.w'.mo (f.keep p _ np e)⟩
theorem Fr.sqt {M : Addr → Prop} {K : PySem.W.Frag} {H H' : Hp} {a : Addr} {xs : List V} (f : Fr M H H') (h : SqT K H a xs) : SqT K H' a xs := by
  rcases h with h | h
  · have n : ¬ M a := fun m => f.w.nt a xs m h
    rcases h with h | ⟨o, h⟩
    · exact .inl (.inl (f.keep _ _ n h))
    · exact .inl (.inr ⟨o, f.keep _ _ n h⟩)
  · exact .inr h
theorem Same.sqt {K : PySem.W.Frag} {H H' : Hp} {a : Addr} {xs : List V} (f : Same H H') (h : SqT K H a xs) : SqT K H' a xs := by
  rcases h with h | h
  · rcases h with h | ⟨o, h⟩
    · exact .inl (.inl (f _ _ h))
    · exact .inl (.inr ⟨o, f _ _ h⟩)
  · exact .inr h
/-! ### data -/
/-- data as a tree: None, bools, whole numbers, texts, tuples, lists -/
inductive D where
  | n | b (b : Bool) | i (i : Int) | s (x : Str) | t (xs : List D) | l (xs : List D)
mutual
/-- the value is this tree; its lists are not of M -/
inductive Dat (K : PySem.W.Frag) (M : Addr → Prop) (H : Hp) : V → D → Prop
  | n : Dat K M H .non .n
  | b (c : Bool) : Dat K M H (.bl c) (.b c)
  | i (k : Int) : Dat K M H (.int k) (.i k)
  | s (x : Str) : Dat K M H (.str x) (.s x)
  | t {a : Addr} {vs : List V} {ds : List D} : SqT K H a vs → Dats K M H vs ds → Dat K M H (.ref a) (.t ds)
  | l {a : Addr} {vs : List V} {ds : List D} : ¬ M a → H a = some (.lst vs) → Dats K M H vs ds → Dat K M H (.ref a) (.l ds)
inductive Dats (K : PySem.W.Frag) (M : Addr → Prop) (H : Hp) : List V → List D → Prop
  | nil : Dats K M H [] []
  | cons {v : V} {d : D} {vs : List V} {ds : List D} : Dat K M H v d → Dats K M H vs ds → Dats K M H (v :: vs) (d :: ds)
end
section
variable {K : PySem.W.Frag} {M : Addr → Prop} {H H' : Hp}
mutual
theorem Dat.fr (f : Fr M H H') : ∀ {v : V} {d : D}, Dat K M H v d → Dat K M H' v d
  | _, _, .n => .n
  | _, _, .b c => .b c
  | _, _, .i c => .i c
  | _, _, .s c => .s c
  | _, _, .t h r => .t (f.sqt h) (Dats.fr f r)
  | _, _, .l n h r => .l n (f.keep _ _ n h) (Dats.fr f r)
theorem Dats.fr (f : Fr M H H') : ∀ {v : List V} {d : List D}, Dats K M H v d → Dats K M H' v d
  | _, _, .nil => .nil
  | _, _, .cons h r => .cons (Dat.fr f h) (Dats.fr f r)
end
mutual
theorem Dat.same (f : Same H H') : ∀ {v : V} {d : D}, Dat K M H v d → Dat K M H' v d
  | _, _, .n => .n
  | _, _, .b c => .b c
  | _, _, .i c => .i c
  | _, _, .s c => .s c
  | _, _, .t h r => .t (Same.sqt f h) (Dats.same f r)
  | _, _, .l n h r => .l n (f _ _ h) (Dats.same f r)
theorem Dats.same (f : Same H H') : ∀ {v : List V} {d : List D}, Dats K M H v d → Dats K M H' v d
  | _, _, .nil => .nil
  | _, _, .cons h r => .cons (Dat.same f h) (Dats.same f r)
end
mutual
/-- a new thing may be written: the data know nothing of it -/
theorem Dat.mo {p : Addr} (e : H p = none) : ∀ {v : V} {d : D}, Dat K M H v d → Dat K (Mo M p) H v d
  | _, _, .n => .n
  | _, _, .b c => .b c
  | _, _, .i c => .i c
  | _, _, .s c => .s c
  | _, _, .t h r => .t h (Dats.mo e r)
  | _, _, .l n h r => .l (fun m => by
    rcases m with m | rfl
    · exact n m
    · rw [e] at h
      cases h) h (Dats.mo e r)
theorem Dats.mo {p : Addr} (e : H p = none) : ∀ {v : List V} {d : List D}, Dats K M H v d → Dats K (Mo M p) H v d
  | _, _, .nil => .nil
  | _, _, .cons h r => .cons (Dat.mo e h) (Dats.mo e r)
end
mutual
theorem Dat.less {p : Addr} : ∀ {v : V} {d : D}, Dat K (Mo M p) H v d → Dat K M H v d
  | _, _, .n => .n
  | _, _, .b c => .b c
  | _, _, .i c => .i c
  | _, _, .s c => .s c
  | _, _, .t h r => .t h (Dats.less r)
  | _, _, .l n h r => .l (fun m => n (.inl m)) h (Dats.less r)
theorem Dats.less {p : Addr} : ∀ {v : List V} {d : List D}, Dats K (Mo M p) H v d → Dats K M H v d
  | _, _, .nil => .nil
  | _, _, .cons h r => .cons (Dat.less h) (Dats.less r)
end
theorem Dats.length : ∀ {vs : List V} {ds : List D}, Dats K M H vs ds → vs.length = ds.length
  | _, _, .nil => rfl
  | _, _, .cons _ r => congrArg (· + 1) (Dats.length r)
theorem Dats.get : ∀ {vs : List V} {ds : List D} {i : Nat} {v : V}, Dats K M H vs ds → vs[i]? = some v → ∃ d, ds[i]? = some d ∧ Dat K M H v d
  | _, _, _, _, .nil, e => by simp at e
  | _, _, 0, _, .cons (d := d) h _, e => by
    have e : some _ = some _ := e
    cases e
    exact ⟨d, rfl, h⟩
  | _, _, i + 1, _, .cons _ r, e => Dats.get (i := i) r e
theorem Dats.getD : ∀ {vs : List V} {ds : List D} {i : Nat} {d : D}, Dats K M H vs ds → ds[i]? = some d → ∃ v, vs[i]? = some v ∧ Dat K M H v d
  | _, _, _, _, .nil, e => by simp at e
  | _, _, 0, _, .cons (v := v) h _, e => by
    have e : some _ = some _ := e
    cases e
    exact ⟨v, rfl, h⟩
  | _, _, i + 1, _, .cons _ r, e => Dats.getD (i := i) r e
theorem Dats.append : ∀ {vs ws : List V} {ds es : List D}, Dats K M H vs ds → Dats K M H ws es → Dats K M H (vs ++ ws) (ds ++ es)
  | _, _, _, _, .nil, s => s
  | _, _, _, _, .cons h r, s => .cons h (Dats.append r s)
theorem Dats.take : ∀ {vs : List V} {ds : List D} (n : Nat), Dats K M H vs ds → Dats K M H (vs.take n) (ds.take n)
  | _, _, 0, _ => .nil
  | _, _, _ + 1, .nil => .nil
  | _, _, n + 1, .cons h r => .cons h (Dats.take n r)
theorem Dats.drop : ∀ {vs : List V} {ds : List D} (n : Nat), Dats K M H vs ds → Dats K M H (vs.drop n) (ds.drop n)
  | _, _, 0, r => r
  | _, _, _ + 1, .nil => .nil
  | _, _, n + 1, .cons _ r => Dats.drop n r
theorem Dats.one {v : V} {d : D} (h : Dat K M H v d) : Dats K M H [v] [d] := .cons h .nil
/-- whole numbers, texts -/
theorem Dats.ints : ∀ (ns : List Int), Dats K M H (ns.map V.int) (ns.map D.i)
  | [] => .nil
  | n :: r => .cons (.i n) (Dats.ints r)
theorem Dats.strs : ∀ (ns : List Str), Dats K M H (ns.map V.str) (ns.map D.s)
  | [] => .nil
  | n :: r => .cons (.s n) (Dats.strs r)
theorem Dat.int_inv {v : V} {i : Int} (h : Dat K M H v (.i i)) : v = .int i := by cases h; rfl
theorem Dat.str_inv {v : V} {x : Str} (h : Dat K M H v (.s x)) : v = .str x := by cases h; rfl
theorem Dats.ints_inv : ∀ {ns : List Int} {vs : List V}, Dats K M H vs (ns.map D.i) → vs = ns.map V.int
  | [], _, h => by cases h; rfl
  | n :: r, _, h => by
    cases h with
    | cons a b => rw [Dat.int_inv a, Dats.ints_inv b]; rfl
theorem Dats.strs_inv : ∀ {ns : List Str} {vs : List V}, Dats K M H vs (ns.map D.s) → vs = ns.map V.str
  | [], _, h => by cases h; rfl
  | n :: r, _, h => by
    cases h with
    | cons a b => rw [Dat.str_inv a, Dats.strs_inv b]; rfl
/-- a tuple's, a list's items -/
theorem Dat.t_inv {v : V} {ds : List D} (h : Dat K M H v (.t ds)) : ∃ a vs, v = .ref a ∧ SqT K H a vs ∧ Dats K M H vs ds := by
  cases h with
  | t h r => exact ⟨_, _, rfl, h, r⟩
theorem Dat.l_inv {v : V} {ds : List D} (h : Dat K M H v (.l ds)) : ∃ a vs, v = .ref a ∧ ¬ M a ∧ H a = some (.lst vs) ∧ Dats K M H vs ds := by
  cases h with
  | l n h r => exact ⟨_, _, rfl, n, h, r⟩
/-- a new tuple, a new list -/
theorem Dat.newT {p : Addr} {vs : List V} {ds : List D} (e : H p = none) (h : Dats K M H vs ds) : Dat K M (upd H p (.tup vs)) (.ref p) (.t ds) :=
  .t (sqt_of upd_same) (h.same (same_new e))
theorem Dat.newL {p : Addr} {vs : List V} {ds : List D} (w : Wf M H) (e : H p = none) (h : Dats K M H vs ds) : Dat K M (upd H p (.lst vs)) (.ref p) (.l ds) :=
  .l (w.notM e) upd_same (h.same (same_new e))
end
/-- no lists within -/
def D.noL : D → Bool
  | .l _ => false
  | .t xs => xs.attach.all fun ⟨x, _⟩ => x.noL
  | _ => true
/-- how many nodes -/
def D.sz : D → Nat
  | .l xs => 1 + (xs.attach.map fun ⟨x, _⟩ => x.sz).sum
  | .t xs => 1 + (xs.attach.map fun ⟨x, _⟩ => x.sz).sum
  | _ => 1
theorem D.noL_t {xs : List D} : (D.t xs).noL = true ↔ ∀ x ∈ xs, x.noL = true := by
  simp [D.noL]
theorem D.sz_t (xs : List D) : (D.t xs).sz = 1 + (xs.map D.sz).sum := by
  simp [D.sz]
end Kx
namespace Kx
open PySem PySem.Spec PyProof.Rows L2
section
variable {X : Cx} {K : PySem.W.Frag}
/-! ### constants of the module -/
theorem kg_int {x : Str} {i : Int} {pos : Pos} (h : ∃ t, X.mg x = some (.int i t)) (hg : Gl X x) (hd : (x == ("__debug__" : Str)) = false := by decide) : PE X (.Name x pos) (tC (.int i)) :=
  let ⟨t, e⟩ := h; pe_glob hg e ⟨t, rfl⟩ hd
theorem kg_str {x z : Str} {pos : Pos} (h : ∃ t, X.mg x = some (.str z t)) (hg : Gl X x) (hd : (x == ("__debug__" : Str)) = false := by decide) : PE X (.Name x pos) (tC (.str z)) :=
  let ⟨t, e⟩ := h; pe_glob hg e ⟨t, rfl⟩ hd
def tNeg (te : TE) : TE := fun σ H Q => te σ H fun x H1 => onI x fun i => Q (.int (-i)) H1
theorem ke_neg {a : Expr} {ta : TE} {pos : Pos} (ha : PE X a ta) : PE X (.UnaryOp .USub a pos) (tNeg ta) :=
  peI (pe_un un_neg (peM ha)) fun _ _ _ h => ⟨_, h, fun _ _ q => let ⟨i, e, q⟩ := onI_ok q; ⟨i, e, q⟩⟩
/-! ### built-in functions and types -/
def qInt : List V → Hp → VK → Prop := fun vs H Q => match vs with
  | [.int i] => Q (.int i) H
  | [.bl k] => Q (.int (if k then 1 else 0)) H
  | _ => False
theorem c_int : CallR X (.type "int") qInt := caI call_int1 fun vs H Q h => by
  unfold qInt at h
  split at h
  · exact .inl ⟨_, rfl, h⟩
  · exact .inr ⟨_, rfl, h⟩
  · exact h.elim
def qAbs : List V → Hp → VK → Prop := fun vs H Q => match vs with
  | [.int i] => Q (.int (if i < 0 then -i else i)) H
  | _ => False
theorem c_abs : CallR X (.builtin "abs") qAbs := caI call_abs fun vs H Q h => by
  unfold qAbs at h
  split at h
  · exact ⟨_, rfl, h⟩
  · exact h.elim
/-- ord of one sign -/
def qOrd : List V → Hp → VK → Prop := fun vs H Q => match vs with
  | [.str z] => ∃ c, z = ⟨#[c]⟩ ∧ Q (.int (c : Nat)) H
  | _ => False
theorem c_ord : CallR X (.builtin "ord") qOrd := caI call_ord fun vs H Q h => by
  unfold qOrd at h
  split at h
  · obtain ⟨c, rfl, q⟩ := h
    exact ⟨_, rfl, rfl, q⟩
  · exact h.elim
/-- tuple(..), list(..) of a list, a tuple -/
def qTupO (K : PySem.W.Frag) : List V → Hp → VK → Prop := fun vs H Q => match vs with
  | [.ref a] => (∃ xs, SqL K H a xs ∧ ∀ p, H p = none → Q (.ref p) (upd H p (.tup xs))) ∨ (∃ xs, SqT K H a xs ∧ Q (.ref a) H)
  | _ => False
theorem c_tuple : CallR X (.type "tuple") (qTupO X.K) := caI call_tuple_of fun vs H Q h => by
  unfold qTupO at h
  split at h
  · rcases h with ⟨xs, h1, h2⟩ | ⟨xs, h1, h2⟩
    · exact ⟨_, xs, rfl, .inl ⟨h1, h2⟩⟩
    · exact ⟨_, xs, rfl, .inr ⟨h1, h2⟩⟩
  · exact h.elim
def qLstO (K : PySem.W.Frag) : List V → Hp → VK → Prop := fun vs H Q => match vs with
  | [.ref a] => ∃ xs, Sq K H a xs ∧ ∀ p, H p = none → Q (.ref p) (upd H p (.lst xs))
  | _ => False
theorem c_list : CallR X (.type "list") (qLstO X.K) := caI call_list_of fun vs H Q h => by
  unfold qLstO at h
  split at h
  · obtain ⟨xs, h1, h2⟩ := h
    exact ⟨_, xs, rfl, h1, h2⟩
  · exact h.elim
/-- isinstance(x, T), T a built-in class -/
def qIsT (K : PySem.W.Frag) : List V → Hp → VK → Prop := fun vs H Q => match vs with
  | [x, .ty T] => ∃ t b, TyX K H x (.type t) ∧ kitB t T = some b ∧ Q (.bl b) H
  | _ => False
theorem c_isi : CallR X (.builtin "isinstance") (qIsT X.K) := caI call_isi fun vs H Q h => by
  unfold qIsT at h
  split at h
  · obtain ⟨t, b, h1, h2, q⟩ := h
    exact ⟨_, _, _, _, b, rfl, .ty _, h1, kit_ty h2, q⟩
  · exact h.elim
/-- is True, is False: of any value -/
def isBl (x : V) (b : Bool) : Bool := match x with
  | .bl a => decide (a = b)
  | _ => false
def qIsBl : R2 := fun x y H Q => match y with
  | .bl b => Q (.bl (isBl x b)) H
  | _ => False
theorem o_isB : OpR X (compareOp .Is) qIsBl := fun pins s σ H x y v u Q I rx ry h => by
  unfold qIsBl at h
  split at h
  · rename_i b
    obtain rfl : u = Value.bool b := ry
    cases x with
    | bl a =>
      obtain rfl : v = Value.bool a := rx
      exact wpAny_is_plain rfl ⟨.bl _, H, I, rfl, by
        have e : (Value.bool a == Value.bool b) = isBl (.bl a) b := by cases a <;> cases b <;> rfl
        rw [e]
        exact h⟩
    | non =>
      obtain rfl : v = Value.none := rx
      exact wpAny_is_other rfl (fun z => nomatch z) ⟨.bl false, H, I, rfl, h⟩
    | int i =>
      obtain ⟨t, rfl⟩ := rx
      exact wpAny_is_other rfl (fun z => nomatch z) ⟨.bl false, H, I, rfl, h⟩
    | str i =>
      obtain ⟨t, rfl⟩ := rx
      exact wpAny_is_other rfl (fun z => nomatch z) ⟨.bl false, H, I, rfl, h⟩
    | byt i =>
      obtain ⟨t, rfl⟩ := rx
      exact wpAny_is_other rfl (fun z => nomatch z) ⟨.bl false, H, I, rfl, h⟩
    | flt i =>
      obtain ⟨t, rfl⟩ := rx
      exact wpAny_is_other rfl (fun z => nomatch z) ⟨.bl false, H, I, rfl, h⟩
    | ref a =>
      obtain rfl : v = Value.ref a := rx
      exact wpAny_is_other rfl (fun z => nomatch z) ⟨.bl false, H, I, rfl, h⟩
    | ty n =>
      obtain rfl : v = Value.type n := rx
      exact wpAny_is_other rfl (fun z => nomatch z) ⟨.bl false, H, I, rfl, h⟩
  · exact h.elim
/-- sep.join(..) -/
def qJoin (K : PySem.W.Frag) : V → List V → Hp → VK → Prop := fun x vs H Q => match x, vs with
  | .str a, [.ref p] => ∃ ys : List Str, Sq K H p (ys.map V.str) ∧ (ys.map (·.length)).sum + ys.length * a.length ≤ 16777216 ∧ Q (.str (Txt.join a ys)) H
  | _, _ => False
/-! ### stores -/
def qSetM : V → V → V → Hp → (Hp → Prop) → Prop := fun o i v H Q => match o, i with
  | .ref p, .int k => ∃ xs j, H p = some (.lst xs) ∧ ixN xs.length k = some j ∧ Q (upd H p (.lst (xs.set j v)))
  | _, _ => False
theorem k_setL : PSet X qSetM := fun pins s σ H o i v ov iv u Q I a b c h => set_list pins s σ H o i v ov iv u Q I a b c (by
  unfold qSetM at h
  split at h
  · obtain ⟨xs, j, h1, h2, q⟩ := h
    exact ⟨_, xs, _, j, rfl, rfl, h1, h2, q⟩
  · exact h.elim)
def tAugA (i : Nat) (te : TE) : TS := fun D σ H => match σ[i]? with
  | some (some (.int a)) => te σ H fun y H1 => onI y fun b => D.nx (σ.set i (some (.int (a + b)))) H1
  | _ => False
theorem ps_augA {i : Nat} {x : Str} {e : Expr} {te : TE} {pos' pos : Pos} (hN : X.N.Nodup) (hi : X.N[i]? = some x) (hx : Loc X.env.scope x) (he : PE X e te)
    (hf : X.fn x = true ∨ X.env.scope.names.lookup x = some .local := by first | exact .inl rfl | exact .inr rfl | assumption) :
    PS X (.AugAssign (.Name x pos') .Add e pos) (tAugA i te) := psI (ps_aug hN hi hx (peM he) ip_add hf) fun D σ H h => by
  unfold tAugA at h
  split at h
  · rename_i a e1
    exact ⟨_, e1, _, h, fun y H1 q => let ⟨b, e, q⟩ := onI_ok q; ⟨a, b, rfl, e, q⟩⟩
  · exact h.elim
/-! ### enumerate of a tuple -/
theorem meets_enumT (l : Addr) (its : Array Value) (n : Nat) (dd : Option Addr) (sl : Array (Option Value)) :
    Meets (Builtin.«enumerate.__new__» ⟨[.type "enumerate", .ref l], []⟩) (fun _ R s => s.heap.get? l = some { cls := .type "tuple", dict := dd, data := .seq its n, slots := sl } ∧
      R (.ok (.ret (.ref (s.heap.push { cls := .type "tuple_iterator", data := .fields #[.ref l, .int 0 0] }).objs.size)))
        { s with heap := (s.heap.push { cls := .type "tuple_iterator", data := .fields #[.ref l, .int 0 0] }).push { cls := .type "enumerate", data := .fields #[.none, .bool false, .ref s.heap.objs.size, rawInt 0, .none, .none] } }) :=
  .of_wp fun prog w A R s h => by
    obtain ⟨hp, g, d, tk, os⟩ := s
    obtain ⟨hl, h⟩ := h
    have hsub := sub_enumerate
    have hT : Heap.IsTuple (Shared.heap ⟨hp, g, d, tk, os⟩) l its := ⟨_, hl, rfl, n, rfl⟩
    wp_walk using AutoSeq1.wpAny_loadPart' hl
    refine wpAny_stack_any fun st => wpAny_pure ?_
    split
    · rename_i c _ _ _ _ _
      cases (c == Value.type "enumerate")
      · wp_walk using AutoSeq1.wpAny_loadPart' hl, wpAny_pyIter_tuple hT
        exact ⟨_, rfl, h⟩
      · wp_walk using AutoSeq1.wpAny_loadPart' hl, wpAny_pyIter_tuple hT
        exact ⟨_, rfl, h⟩
    · wp_walk using AutoSeq1.wpAny_loadPart' hl, wpAny_pyIter_tuple hT
      exact ⟨_, rfl, h⟩
theorem call_enumT {prog : Program} {w : World} {A : Around} {E : Value → Shared → Prop} {s : Shared} {l : Addr} {its : Array Value} {Q : Value → Shared → Prop} (hL : s.heap.IsTuple l its)
    (h : ∀ h', IsEnum h' (s.heap.objs.size + 1) s.heap.objs.size 0 .none → h'.IsTupleIter s.heap.objs.size l 0 → 
      (∀ b o, s.heap.get? b = some o → h'.get? b = some o) → Q (.ref (s.heap.objs.size + 1)) { s with heap := h' }) :
    wpAny (model prog w) A (call (.type "enumerate") [.ref l]) Q E s := by
  obtain ⟨⟨c, dct, dt, sl⟩, hl, hc, n, hd⟩ := hL
  obtain rfl : c = .type "tuple" := hc
  obtain rfl : dt = .seq its n := hd
  refine callType_new F.called_enumerate (by decide) (F.typeCall_enumerate_1 _) (F.newCall_enumerate_1 _) (fun obj => F.args_object_init_2 obj _) F.entry_enumerate_new (meets_enumT l its n dct sl) ⟨hl, ?_⟩
  have hz := Heap.size_push s.heap { cls := .type "tuple_iterator", data := .fields #[.ref l, .int 0 0] }
  have he := Heap.get?_push_size (s.heap.push { cls := .type "tuple_iterator", data := .fields #[.ref l, .int 0 0] })
    (o := { cls := .type "enumerate", data := .fields #[.none, .bool false, .ref s.heap.objs.size, rawInt 0, .none, .none] }) rfl
  rw [hz] at he
  show _ ∧ _
  rw [hz]
  exact ⟨⟨_, he, rfl⟩, h _ he ⟨_, Heap.get?_push_of_some _ (Heap.get?_push_size _ rfl), rfl, rfl⟩ fun b o x => Heap.get?_push_of_some _ (Heap.get?_push_of_some _ x)⟩
/-- the tuple at a as it stands at each turn, each item in a new pair -/
def ItT (K : PySem.W.Frag) (a : Addr) : It where
  go i H := ∃ (xs : List V) (x : V), SqT K H a xs ∧ xs[i]? = some x
  yld i H v H' := ∃ T x, v = .ref T ∧ H T = none ∧ H' = upd H T (.tup [.int (i : Nat), x]) ∧ ∀ xs, SqT K H a xs → xs[i]? = some x
  stop i H := ∃ xs : List V, SqT K H a xs ∧ xs.length = i
theorem turn_enumT {P : Program} {w : World} {K : PySem.W.Frag} {elts : List Expr} {kk : Nat} {tpos : Pos} (a e it : Addr) (hai : a ≠ it) (hae : a ≠ e) :
    Turn P w K (.Tuple elts kk tpos) (ItT K a) [e, it] e (fun i h => (∃ old, IsEnum h e it ((i : Nat) : Int) old) ∧ h.IsTupleIter it a i ∧ e ≠ it) where
  mem := List.mem_cons_self ..
  obj i h st b hb := by
    obtain ⟨⟨_, he⟩, ⟨o, ho, _, hd⟩, _⟩ := st
    rcases List.mem_cons.mp hb with z | z
    · subst z
      exact ⟨_, he, fun v q => nomatch q⟩
    · obtain rfl := List.mem_singleton.mp z
      exact ⟨o, ho, fun v q => by rw [hd] at q; cases q⟩
  keep i h h' st k := by
    obtain ⟨⟨old, he⟩, hi, hne⟩ := st
    exact ⟨⟨old, k e (by simp) _ he⟩, hi.at fun o q => k it (by simp) o q, hne⟩
  item := by
    intro X hP hw hK hc i pins s σ H E I hf st hg
    subst hP hw hK
    obtain ⟨⟨old, he⟩, hit, hne⟩ := st
    obtain ⟨xs, x, hq, hx⟩ := hg
    obtain ⟨its, rv, p, hz⟩ := I.tuple hq
    obtain ⟨u, hu, ru⟩ := rv.get hx
    have hel : e < s.heap.objs.size := Heap.lt_size he
    have hil : it < s.heap.objs.size := by
      obtain ⟨_, q, _⟩ := hit
      exact Heap.lt_size q
    have hlt : i < its.toArray.size := by
      have := (List.getElem?_eq_some_iff.mp hu).1
      simpa using this
    have pt : s.heap.IsTuple a its.toArray := p
    refine wpAny_pyNext_enum_itemD (Draws.tuple (A := X.A.in1) (I.ok.hd hc) it a hai its.toArray) he ⟨hit, pt⟩ hlt hne (by simp [hne, hae.symm]) fun x' h' tk hP ho hs' hT hsz hk => ?_
    have ex : x' = u := by
      have e2 : its.toArray[i]? = some x' := hP
      have e3 : its.toArray[i]? = some u := by simpa using hu
      rw [e3] at e2
      exact (Option.some.inj e2).symm
    subst ex
    refine ⟨_, rfl, wpAny_letOwnedTupleGo_enum (s := { s with heap := h', toks := tk + 1 }) ho fun h'' he' sb => ?_⟩
    have hT2 : h''.get? s.heap.objs.size = some { cls := .type "tuple", data := .seq #[.int i tk, x'] } := (sb.2 _ (Nat.ne_of_gt hel)).trans hT
    have new : ObjOk X.prog X.w (upd H s.heap.objs.size (.tup [.int (i : Nat), x])) h'' s.heap.objs.size (.tup [.int (i : Nat), x]) :=
      ⟨by show 2 ≤ sizeLine; decide, [.int i tk, x'], .cons ⟨_, rfl⟩ (.cons ru .nil), ⟨_, hT2, rfl, _, rfl⟩⟩
    have I1 : Inv X pins σ (upd H s.heap.objs.size (.tup [.int (i : Nat), x])) { s with heap := h'', toks := tk + 1 } :=
      I.turnedNew (ch := [e, it]) (fun b ob hb q => (sb.2 b (fun z => hb (by simp [z]))).trans (hk b ob (fun z => hb (by simp [z])) (fun z => hb (by simp [z])) q)) hf (Nat.le_refl _) new
    have hit2 := hs'.1
    refine ⟨.ref s.heap.objs.size, _, I1, rfl, ⟨_, x, rfl, I.hok.fresh (Nat.le_refl _), rfl, fun ys hy => by rw [I.tuple_inj hy hq]; exact hx⟩, ⟨⟨x', ?_⟩, hit2.at fun o q => (sb.2 it (Ne.symm hne)).trans q, hne⟩, fun b hb => ?_⟩
    · have e1 : ((i + 1 : Nat) : Int) = (i : Int) + 1 := by omega
      rw [e1]
      exact he'
    · have hb' : b < s.heap.objs.size := by
        rcases List.mem_cons.mp hb with z | z
        · rw [z]; exact hel
        · rw [List.mem_singleton.mp z]; exact hil
      rw [upd_ne (Nat.ne_of_lt hb')]
      exact (hf b hb).1
  done := by
    intro X hP hw hK hc i pins s σ H E I hf st hg
    subst hP hw hK
    obtain ⟨⟨old, he⟩, hit, hne⟩ := st
    obtain ⟨xs, hq, hx⟩ := hg
    obtain ⟨its, rv, p, hz⟩ := I.tuple hq
    obtain ⟨f0, f1, f2, f3, f4, f5⟩ := hf it (by simp)
    have hl := rv.length
    have pt : s.heap.IsTuple a its.toArray := p
    have hn : i = its.toArray.size := by
      rw [List.size_toArray]
      omega
    subst hn
    exact wpAny_pyNext_enum_endD (Draws.tuple (A := X.A.in1) (I.ok.hd hc) it a hai its.toArray) he ⟨hit, pt⟩ fun h' eb => ⟨rfl, I.turned (t' := s.toks) (fun b o hb q => eb b o hb q) f0 f1 f3 f4 f5⟩
  self A i s Q E st h := by
    obtain ⟨⟨_, he⟩, _⟩ := st
    exact wpAny_pyIter_enum he h
def iEnumT (K : PySem.W.Frag) (ta : TA) : TI := fun σ H R => ta σ H fun vs H1 => ∃ a xs, vs = [.ref a] ∧ SqT K H1 a xs ∧ R (ItT K a) H1
theorem pi_enumT {e : Expr} {ta : TA} {p pos tpos : Pos} {elts : List Expr} {kk : Nat} (hg : Gl X "enumerate") (hm : X.mg "enumerate" = none) (ha : PA X [e] ta) (hs : starEach [e] X.env = [(false, eval e X.env)] := by rfl) :
    PI X (.Tuple elts kk tpos) (.Call (.Name "enumerate" p) [e] [] pos) (iEnumT X.K ta) := by
  refine ⟨fun pins s σ H R I h => ?_⟩
  refine Call_ (ld_blt I hg hm boot_enumerate (PyProof.Rows.callWith_type1 (thn (ha.run pos pins s σ H _ I h) fun us s1 ⟨vs, H1, I1, r1, q1⟩ => ?_) hs rfl))
  obtain ⟨a, xs, rfl, hq, q⟩ := q1
  obtain ⟨u, rfl, r⟩ := r1.one
  cases r
  obtain ⟨its, rv, p', hz⟩ := I1.tuple hq
  have pt : s1.heap.IsTuple a its.toArray := p'
  have hlt : a < s1.heap.objs.size := p'.lt
  refine call_enumT pt fun h' he hit hk => wpAny_pyIter_enum he ?_
  have I2 : Inv X pins σ H1 { s1 with heap := h' } := I1.kept (t' := s1.toks) hk
  refine ⟨s1.heap.objs.size + 1, [s1.heap.objs.size + 1, s1.heap.objs.size], _, _, H1, rfl, I2, turn_enumT a (s1.heap.objs.size + 1) s1.heap.objs.size (Nat.ne_of_lt hlt) (Nat.ne_of_lt (Nat.lt_succ_of_lt hlt)), ⟨⟨.none, he⟩, hit, Nat.succ_ne_self _⟩, fun b hb => ?_, q⟩
  have hle : s1.heap.objs.size ≤ b := by
    rcases List.mem_cons.mp hb with z | z
    · rw [z]; exact Nat.le_succ _
    · rw [List.mem_singleton.mp z]; exact Nat.le_refl _
  exact I1.fpOk hle (I1.hok.fresh hle)
/-- the loop over a tuple's items with their places: each pair new -/
theorem for_enumT {K : PySem.W.Frag} {a : Addr} {xs : List V} {g : TG} {tb : TS} {D : Ends} {σ : L2.St} {H : Hp} (Pv : Nat → L2.St → Hp → Prop) (h0 : Pv 0 σ H) (hl : ∀ i σ H, Pv i σ H → SqT K H a xs)
    (hs : ∀ i x T σ H, xs[i]? = some x → Pv i σ H → H T = none → g (.ref T) σ (upd H T (.tup [.int (i : Nat), x])) fun σ2 H2 => tb { D with nx := Pv (i + 1), ct := Pv (i + 1), bk := D.nx } σ2 H2) (hd : ∀ σ H, Pv xs.length σ H → D.nx σ H) :
    ∃ W : Nat → Nat → L2.St → Hp → Prop, (∃ m, W 0 m σ H) ∧ ∀ i m σ H, W i m σ H →
      ((ItT K a).stop i H ∧ D.nx σ H) ∨ ((ItT K a).go i H ∧ ∃ N : L2.St → Hp → Prop, (∀ σ' H', N σ' H' → ∃ m', m' < m ∧ W (i + 1) m' σ' H') ∧ ∀ x H', (ItT K a).yld i H x H' → g x σ H' fun σ2 H2 => tb { D with nx := N, ct := N, bk := D.nx } σ2 H2) := by
  refine ⟨fun i m σ H => m = xs.length - i ∧ i ≤ xs.length ∧ Pv i σ H, ⟨xs.length, rfl, Nat.zero_le _, h0⟩, ?_⟩
  rintro i m σ H ⟨rfl, hi, p⟩
  have q := hl i σ H p
  by_cases hlt : i < xs.length
  · have hx : xs[i]? = some xs[i] := List.getElem?_eq_getElem hlt
    refine .inr ⟨⟨xs, _, q, hx⟩, Pv (i + 1), fun σ' H' p' => ⟨xs.length - (i + 1), by omega, rfl, hlt, p'⟩, fun v H' y => ?_⟩
    obtain ⟨T, x', rfl, hT, rfl, f1⟩ := y
    exact hs i x' T σ H (f1 xs q) p hT
  · have e : i = xs.length := by omega
    subst e
    exact .inl ⟨⟨xs, q, rfl⟩, hd σ H p⟩
end
/-! ### defs of the text, calls by their promises -/
/-- a def of the text, under its name -/
structure Df (K : PySem.W.Frag) (mg : Str → Option Value) (x : Str) (st : Stmt) : Prop where
  ex : ∃ (f : Addr) (fd : FuncData), FunD K x x (defArgs st) (defBody st) (defScope st) [] [] f fd ∧ mg x = some (.ref f)
theorem Df.of {K : PySem.W.Frag} {mg : Str → Option Value} {x : Str} {st : Stmt} {f : Addr} (h : ∃ fd, FunD K x x (defArgs st) (defBody st) (defScope st) [] [] f fd) (g : mg x = some (.ref f)) : Df K mg x st :=
  let ⟨fd, F⟩ := h; ⟨f, fd, F, g⟩
/-- what may be called by its name: it keeps this promise -/
structure Cal (P : Program) (w : World) (K : PySem.W.Frag) (mg : Str → Option Value) (base : Heap) (k : Nat) (x : Str) (ps : List Str) (sp : Sp) : Prop where
  ex : ∃ (f : Addr) (fd : FuncData), FnOk P w K mg base CX0 k f fd ps sp ∧ mg x = some (.ref f) ∧ PySem.W.keepIn K (.ref f) = true ∧ Binds K fd ps []
/-- .. by keywords alone, all of them in order -/
structure CalK (P : Program) (w : World) (K : PySem.W.Frag) (mg : Str → Option Value) (base : Heap) (k : Nat) (x : Str) (ps : List Str) (sp : Sp) : Prop where
  ex : ∃ (f : Addr) (fd : FuncData), FnOk P w K mg base CX0 k f fd ps sp ∧ mg x = some (.ref f) ∧ PySem.W.keepIn K (.ref f) = true ∧ ∀ (s : Shared) (ws : List Value), ws.length = ps.length → BindsTo s fd ⟨[], ps.zip ws⟩ (ps.zip ws)
section
variable {P : Program} {w : World} {K : PySem.W.Frag} {mg : Str → Option Value} {base : Heap}
theorem Df.cal {x : Str} {st : Stmt} {N ps : List Str} {k : Nat} {sp : Sp} (F : Df K mg x st) (S : FnScope N ps (defScope st))
    (hb : ∀ (kV doc pm : Value) (an : Option Addr) (cdv ct : Value) (us : List Value), us.length = ps.length → bindArgs (PySem.W.fnOf x x (defArgs st) (defBody st) (defScope st) .none kV doc pm an cdv ct) ⟨us, []⟩ = pure (ps.zip us))
    (len : ∀ vs H Q E, sp vs H Q E → vs.length = ps.length)
    (hbody : ∀ (cdv : Value) (A : Around) (outer : List Env) (s : Shared) (H : Hp) (vs : List V) (Q : VK) (E : XK) {f : Addr}, Room k (A.deeper (envOfC x (defScope st) s.heap.objs.size f cdv)) → sp vs H Q E →
      ∃ t, PSs (cxOf CX0 P w K mg base N x (defScope st) f cdv A outer s H E).nox (defBody st) t ∧ t { nx := fun _ H' => Q .non H', rt := Q } (start N vs) H) : Cal P w K mg base (k + 1) x ps sp := by
  obtain ⟨f, fd, F, g⟩ := F.ex
  refine ⟨f, fd, F.ok S len fun cdv A outer s H vs Q E hr h => ?_, g, F.kp, F.bindsN hb⟩
  obtain ⟨t, a, b⟩ := hbody cdv A outer s H vs Q E hr h
  exact ⟨t, a.nox, b⟩
theorem Df.calk {x : Str} {st : Stmt} {N ps : List Str} {k : Nat} {sp : Sp} (F : Df K mg x st) (S : FnScope N ps (defScope st))
    (hb : ∀ (kV doc pm : Value) (an : Option Addr) (cdv ct : Value) (us : List Value), us.length = ps.length → bindArgs (PySem.W.fnOf x x (defArgs st) (defBody st) (defScope st) .none kV doc pm an cdv ct) ⟨[], ps.zip us⟩ = pure (ps.zip us))
    (len : ∀ vs H Q E, sp vs H Q E → vs.length = ps.length)
    (hbody : ∀ (cdv : Value) (A : Around) (outer : List Env) (s : Shared) (H : Hp) (vs : List V) (Q : VK) (E : XK) {f : Addr}, Room k (A.deeper (envOfC x (defScope st) s.heap.objs.size f cdv)) → sp vs H Q E →
      ∃ t, PSs (cxOf CX0 P w K mg base N x (defScope st) f cdv A outer s H E).nox (defBody st) t ∧ t { nx := fun _ H' => Q .non H', rt := Q } (start N vs) H) : CalK P w K mg base (k + 1) x ps sp := by
  obtain ⟨f, fd, F, g⟩ := F.ex
  refine ⟨f, fd, F.ok S len fun cdv A outer s H vs Q E hr h => ?_, g, F.kp, fun s ws hl => ?_⟩
  · obtain ⟨t, a, b⟩ := hbody cdv A outer s H vs Q E hr h
    exact ⟨t, a.nox, b⟩
  · obtain ⟨oc, od, dV, kV, doc, pm, an, cdv, ct, osl, rfl, lk, hcd, hD, hK⟩ := F.ex
    rcases hD with ⟨_, rfl⟩ | ⟨e, _⟩
    · exact .of_eq (hb kV doc pm an cdv ct ws hl)
    · exact absurd rfl e
end
section
variable {X : Cx} {k j : Nat} {x : Str} {ps : List Str} {sp : Sp} {p pos : Pos} {e : Expr} {es : List Expr} {t : TA}
theorem ke_c (c : Cal X.prog X.w X.K X.mg X.base k x ps sp) (hr : Room j X.A) (hk : k ≤ j) (hg : Gl X x) (ha : PA X (e :: es) t)
    (hdb : (x == ("__debug__" : Str)) = false := by decide) (he : starEach (e :: es) X.env = (false, eval e X.env) :: starEach es X.env := by rfl) (hpl : (backTo pos (starEach es X.env)).any (·.1) = false := by rfl) :
    PE X (.Call (.Name x p) (e :: es) [] pos) (tCall sp [] E0 t) := by
  obtain ⟨f, fd, F, hm, kp, b⟩ := c.ex
  exact pe_call F (hr.mono hk) hg hm kp b .nil pass0 ha hdb he hpl
theorem ke_c0 (c : Cal X.prog X.w X.K X.mg X.base k x ps sp) (hr : Room j X.A) (hk : k ≤ j) (hg : Gl X x) (hdb : (x == ("__debug__" : Str)) = false := by decide) :
    PE X (.Call (.Name x p) [] [] pos) (tCall sp [] E0 tNil) := by
  obtain ⟨f, fd, F, hm, kp, b⟩ := c.ex
  exact pe_call0 F (hr.mono hk) hg hm kp b .nil pass0 hdb
/-- f(k = v, ..), all by keywords, in the parameters' order -/
def tCallK0 (sp : Sp) (E : XK) (n : Nat) (tk : TA) : TE := fun σ H Q => tk σ H fun zs H1 => zs.length = n ∧ sp zs H1 Q E
theorem ke_ck {kws : List Keyword} {n : Nat} (c : CalK X.prog X.w X.K X.mg X.base k x ps sp) (hr : Room j X.A) (hk : k ≤ j) (hg : Gl X x) (hkw : PK X kws t)
    (hall : (backToKw pos (keywordEach kws X.env)).all (·.1.isSome) = true := by rfl) (hks : (backToKw pos (keywordEach kws X.env)).filterMap (·.1) = ps := by rfl) (hdb : (x == ("__debug__" : Str)) = false := by decide)
    (hpl : ((backTo pos (starEach [] X.env)).any (·.1) || (backToKw pos (keywordEach kws X.env)).any (·.1.isNone)) = false := by rfl) (hn : n = ps.length := by rfl) :
    PE X (.Call (.Name x p) [] kws pos) (tCallK0 sp E0 n t) := by
  subst hn
  obtain ⟨f, fd, F, hm, kp, b⟩ := c.ex
  refine ⟨fun pins s σ H Q I h => wpAny_Call_Name_kw (ld_glob I hg hm ?_ hdb)⟩
  refine PySem.W.callWith_KW0 (h₀ := X.base) I.ok.mod.kin kp hall (thn (hkw.run pos pins s σ H _ I h) fun ws s1 ⟨zs, H1, I1, rz, hl, q⟩ => ⟨I1.kIn, ?_⟩) hpl
  rw [hks]
  refine wpAny_call (codeAny_mono (F.run X.A X.stack s1 H1 ⟨[], ps.zip ws⟩ ws zs Q E0 (hr.mono hk) I1.env0 (b s1 ws (rz.length.symm.trans hl)) rz q) fun r s' hq => ?_)
  cases r with
  | error e => exact hq.elim
  | ok fl =>
    cases fl with
    | ret u => exact I1.after hq
    | next => exact False.elim hq
    | brk => exact False.elim hq
    | cont => exact False.elim hq
/-- sep.join(xs) -/
theorem m_join : MtR X "str.join" (qJoin X.K) := fun pins s σ H x xs v us Q I rx rs h => mt_join pins s σ H x xs v us Q I rx rs (by
  unfold qJoin at h
  split at h
  · obtain ⟨ys, h1, h2, h3⟩ := h
    exact ⟨_, _, ys, rfl, rfl, h1, h2, h3⟩
  · exact h.elim)
theorem ke_join {o e : Expr} {apos cpos : Pos} {to te : TE} (ho : PE X o to) (he : PE X e te) (hs : starEach [e] X.env = [(false, eval e X.env)] := by rfl)
    (hbase : attributeBase o "join" X.env (eval o X.env) = eval o X.env := by rfl) (hline : (apos.endLine == cpos.line) = true := by rfl) :
    PE X (.Call (.Attribute o "join" apos) [e] [] cpos) (tM1 (qJoin X.K) to te) := pe_m1 PySem.F.slot_str_join PySem.F.type_str_join m_join ho he hs hbase hline
/-- a tuple of one thing, many times over -/
def qRepN (K : PySem.W.Frag) : R2 := fun x y H Q => match x, y with
  | .ref l, .int k => ∃ z, SqT K H l [z] ∧ 2 ≤ k ∧ k ≤ 100000 ∧ ∀ p, H p = none → Q (.ref p) (upd H p (.tup (List.replicate k.toNat z)))
  | _, _ => False
theorem rep1 {α : Type} (z : α) : ∀ n : Nat, (List.replicate n [z]).flatten = List.replicate n z
  | 0 => rfl
  | n + 1 => by
    rw [List.replicate_succ, List.flatten_cons, rep1 z n]
    rfl
theorem o_repT : OpR X (binaryOp .Mult) (qRepN X.K) := by
  intro pins s σ H x y v u Q I rx ry h
  unfold qRepN at h
  split at h
  · rename_i l k
    obtain ⟨z, hT, h1, h2, q⟩ := h
    cases rx
    obtain ⟨t, rfl⟩ := ry
    obtain ⟨its, r, ⟨⟨cls, dd, data, sl⟩, ho, hc, n, hd⟩, _⟩ := I.tuple hT
    obtain ⟨uz, rfl, rz⟩ := r.one
    obtain rfl : cls = .type "tuple" := hc
    obtain rfl : data = .seq [uz].toArray n := hd
    have hm : (([uz].toArray.size : Nat) : Int) * k = k := by
      show ((1 : Nat) : Int) * k = k
      omega
    have e0 : (decide (k < -(2 ^ 63)) || decide (k ≥ 2 ^ 63)) = false := by
      rw [decide_eq_false (by omega), decide_eq_false (by omega)]
      rfl
    have e1 : ([uz].toArray.isEmpty || k == 1) = false := by
      show (false || k == 1) = false
      rw [Bool.false_or]
      exact beq_eq_false_iff_ne.mpr (by omega)
    have e2 : (decide (k ≤ 0) || [uz].toArray.isEmpty) = false := by
      show (decide (k ≤ 0) || false) = false
      rw [Bool.or_false]
      exact decide_eq_false (by omega)
    have e3 : ¬ (([uz].toArray.size : Nat) : Int) * k > (2 ^ 63 - 1) / 8 := by
      rw [hm]
      omega
    have e4 : Builtin.Tuple.tupleTooMany ((([uz].toArray.size : Nat) : Int) * k) = false := by
      rw [hm]
      unfold Builtin.Tuple.tupleTooMany
      rw [sizeLine_eq]
      exact decide_eq_false (by omega)
    have el : (List.replicate k.toNat [uz]).flatten = List.replicate k.toNat uz := rep1 uz _
    have hz : (List.replicate k.toNat uz).length ≤ sizeLine := by
      rw [List.length_replicate, sizeLine_eq]
      omega
    refine wpAny_binaryOp_repeat_ref (T := "tuple") (U := "int") (by decide) ⟨_, ho, rfl⟩ (fun s' => typeIs_int s' k t) noFill_tuple_mul F.fills_int_mul F.slot_int_rmul repeat_tuple F.slot_int_index.lookup
      (call_meets F.slot_int_rmul (typeIs_int s k t) F.entry_int_rmul (F.args_int_rmul_2 _ _) (int_rmul_tuple k t l [uz].toArray n dd sl)
        ⟨ho, rfl, ⟨_, ho, rfl⟩, call_meets F.slot_tuple_mul ⟨_, ho, rfl⟩ F.entry_tuple_mul (F.args_tuple_mul_2 _ _) (tuple_mulW l [uz].toArray n dd sl k t e0 e1 e2 e3 e4 (by rw [size_rep, List.size_toArray, el]; exact hz)) ⟨ho, ?_⟩⟩)
    rw [size_rep, el]
    have rv : Vals (List.replicate k.toNat z) (List.replicate k.toNat uz) := by
      generalize k.toNat = m
      induction m with
      | zero => exact .nil
      | succ m ih => exact .cons rz ih
    refine ⟨.ref s.heap.objs.size, _, I.laid (t' := s.toks) (o := .tup (List.replicate k.toNat z)) (fun b ob q => Heap.get?_push_of_some _ q) (Nat.le_refl _) ?_, rfl, q _ (I.hok.fresh (Nat.le_refl _))⟩
    exact ⟨by rw [rv.length]; exact hz, _, rv, IsTup.new _ _⟩
  · exact h.elim
end
end Kx
/-! Kw: comprehensions that only read; slices; small words. -/
namespace Kx
open PySem PySem.Spec PyProof.Rows L2
section
variable {J : It} {n : Nat} {G : Hp → Prop} {Y : Nat → Hp → V → Hp → Prop}
/-- [e for x in ..]: each turn gives f i, and nothing that stood is changed -/
theorem lc_fun (w : Walk J n G Y) (f : Nat → V) {j : Nat} {te : TE} {vs : List Nat} {σ : L2.St} {H1 : Hp} {D : Addr} {Qd : Hp → Prop} (nD : H1 D = none) (hn : n ≤ 100000) (hw : ∀ x, wipe ((wipe σ vs).set j (some x)) vs = wipe σ vs) (hG : ∀ H, Same H1 H → G H)
    (hs : ∀ i x H H', i < n → Same H1 H → Y i H x H' → Same H H' ∧ ∀ Q : VK, (∀ H4, Same H' H4 → Q (f i) H4) → te ((wipe σ vs).set j (some x)) H' Q) (hd : ∀ H, Same H1 H → H D = some (.lst ((List.range n).map f)) → Qd H) :
    ∃ W : Nat → Nat → Hp → Prop, (∃ m, W 0 m (upd H1 D (.lst []))) ∧ ∀ i m H, W i m H →
      (J.stop i H ∧ Qd H) ∨ (J.go i H ∧ ∃ Nx : Hp → Prop, (∀ H', Nx H' → ∃ m', m' < m ∧ W (i + 1) m' H') ∧ ∀ x H', J.yld i H x H' → gName j x (wipe σ vs) H' fun σ2 H2 => wipe σ2 vs = wipe σ vs ∧ tYes σ2 H2 fun b H3 =>
        if b = true then te σ2 H3 fun y H4 => ∃ acc, H4 D = some (.lst acc) ∧ acc.length < sizeLine ∧ Nx (upd H4 D (.lst (acc ++ [y]))) else Nx H3) := by
  refine lc_it w (fun i H => Same H1 H ∧ H D = some (.lst ((List.range i).map f))) ⟨same_new nD, upd_same⟩ (fun i H _ hP => hG H hP.1) (fun i x H H' hi hP y => ?_) fun H hP => hd H hP.1 hP.2
  obtain ⟨s1, t⟩ := hs i x H H' hi hP.1 y
  refine ⟨hw x, t _ fun H4 s4 => ⟨(List.range i).map f, s4 _ _ (s1 _ _ hP.2), ?_, same_mut (hP.1.trans (s1.trans s4)) nD, ?_⟩⟩
  · rw [List.length_map, List.length_range]
    exact Nat.lt_of_lt_of_le hi (Nat.le_trans hn (by decide))
  · rw [upd_same, List.range_succ, List.map_append]
    rfl
/-- .. with a test -/
theorem lc_fil (w : Walk J n G Y) (p : Nat → Bool) (f : Nat → V) {j : Nat} {tt : TT} {te : TE} {vs : List Nat} {σ : L2.St} {H1 : Hp} {D : Addr} {Qd : Hp → Prop} (nD : H1 D = none) (hn : n ≤ 100000) (hw : ∀ x, wipe ((wipe σ vs).set j (some x)) vs = wipe σ vs) (hG : ∀ H, Same H1 H → G H)
    (hs : ∀ i x H H', i < n → Same H1 H → Y i H x H' → Same H H' ∧ (∀ Q : Bool → Hp → Prop, (∀ H4, Same H' H4 → Q (p i) H4) → tt ((wipe σ vs).set j (some x)) H' Q) ∧
      (p i = true → ∀ H4, Same H' H4 → ∀ Q : VK, (∀ H5, Same H4 H5 → Q (f i) H5) → te ((wipe σ vs).set j (some x)) H4 Q)) (hd : ∀ H, Same H1 H → H D = some (.lst (((List.range n).filter p).map f)) → Qd H) :
    ∃ W : Nat → Nat → Hp → Prop, (∃ m, W 0 m (upd H1 D (.lst []))) ∧ ∀ i m H, W i m H →
      (J.stop i H ∧ Qd H) ∨ (J.go i H ∧ ∃ Nx : Hp → Prop, (∀ H', Nx H' → ∃ m', m' < m ∧ W (i + 1) m' H') ∧ ∀ x H', J.yld i H x H' → gName j x (wipe σ vs) H' fun σ2 H2 => wipe σ2 vs = wipe σ vs ∧ tt σ2 H2 fun b H3 =>
        if b = true then te σ2 H3 fun y H4 => ∃ acc, H4 D = some (.lst acc) ∧ acc.length < sizeLine ∧ Nx (upd H4 D (.lst (acc ++ [y]))) else Nx H3) := by
  refine lc_it w (fun i H => Same H1 H ∧ H D = some (.lst (((List.range i).filter p).map f))) ⟨same_new nD, upd_same⟩ (fun i H _ hP => hG H hP.1) (fun i x H H' hi hP y => ?_) fun H hP => hd H hP.1 hP.2
  obtain ⟨s1, t, u⟩ := hs i x H H' hi hP.1 y
  refine ⟨hw x, t _ fun H4 s4 => ?_⟩
  cases e : p i with
  | true =>
    refine iteT (u e H4 s4 _ fun H5 s5 => ⟨((List.range i).filter p).map f, s5 _ _ (s4 _ _ (s1 _ _ hP.2)), ?_, same_mut (hP.1.trans (s1.trans (s4.trans s5))) nD, ?_⟩)
    · rw [List.length_map]
      have h := List.length_filter_le p (List.range i)
      rw [List.length_range] at h
      exact Nat.lt_of_lt_of_le (Nat.lt_of_le_of_lt h hi) (Nat.le_trans hn (by decide))
    · rw [upd_same, List.range_succ, List.filter_append, List.map_append, List.filter_cons, if_pos e]
      rfl
  | false =>
    refine iteF ⟨hP.1.trans (s1.trans s4), ?_⟩
    rw [List.range_succ, List.filter_append, List.map_append, List.filter_cons, if_neg (by rw [e]; exact Bool.false_ne_true), s4 _ _ (s1 _ _ hP.2)]
    simp
end
section
variable {K : PySem.W.Frag}
/-- a slice by numbers that are not negative -/
theorem cut_nn (xs : List V) (i j : Nat) : cutV xs (some (i : Int)) (some (j : Int)) = (xs.drop i).take (j - i) := by
  unfold cutV
  rw [HT.sIx_nat, HT.sIx_nat]
  by_cases hi : i ≤ xs.length
  · rw [Nat.min_eq_left hi]
    by_cases hj : j ≤ xs.length
    · rw [Nat.min_eq_left hj]
    · rw [Nat.min_eq_right (by omega), List.take_of_length_le (by rw [List.length_drop]; exact Nat.le_refl _), List.take_of_length_le (by rw [List.length_drop]; omega)]
  · rw [Nat.min_eq_right (show xs.length ≤ i by omega), List.drop_of_length_le (Nat.le_refl _), List.drop_of_length_le (show xs.length ≤ i by omega)]
    simp
theorem cut_to (xs : List V) (j : Nat) : cutV xs none (some (j : Int)) = xs.take j := by
  unfold cutV
  rw [HT.sIx_nat, HT.sIx_none, List.drop_zero, Nat.sub_zero]
  by_cases hj : j ≤ xs.length
  · rw [Nat.min_eq_left hj]
  · rw [Nat.min_eq_right (by omega), List.take_length, List.take_of_length_le (by omega)]
theorem cut_from (xs : List V) (i : Nat) : cutV xs (some (i : Int)) none = xs.drop i := by
  unfold cutV
  rw [HT.sIx_nat, HT.sIx_none]
  by_cases hi : i ≤ xs.length
  · rw [Nat.min_eq_left hi, List.take_of_length_le (by rw [List.length_drop]; exact Nat.le_refl _)]
  · rw [Nat.min_eq_right (show xs.length ≤ i by omega), List.drop_of_length_le (Nat.le_refl _), List.drop_of_length_le (show xs.length ≤ i by omega)]
    simp
theorem ints_get {ns : List Int} {i : Nat} {x : V} (h : (ns.map V.int)[i]? = some x) : ∃ k, ns[i]? = some k ∧ x = .int k := by
  rw [List.getElem?_map] at h
  cases e : ns[i]? with
  | none =>
    rw [e] at h
    cases h
  | some k =>
    rw [e] at h
    exact ⟨k, rfl, (Option.some.inj h).symm⟩
theorem ints_at {ns : List Int} {i : Nat} {k : Int} (h : ns[i]? = some k) : atI (ns.map V.int) (i : Int) = some (.int k) := atI_nat (by rw [List.getElem?_map, h]; rfl)
theorem ints_atI {ns : List Int} {z : Int} {i : Nat} {k : Int} (e : z = (i : Int)) (h : ns[i]? = some k) : atI (ns.map V.int) z = some (.int k) := by
  rw [e]
  exact ints_at h
/-- what turn by turn is made of the items is made of the row -/
theorem range_map {α β : Type} (ns : List α) (d : α) (h : α → β) : (List.range ns.length).map (fun i => h (ns.getD i d)) = ns.map h := by
  apply List.ext_getElem?
  intro i
  rw [List.getElem?_map, List.getElem?_map]
  by_cases hi : i < ns.length
  · rw [List.getElem?_range hi, List.getElem?_eq_getElem hi]
    simp [List.getD_eq_getElem?_getD, List.getElem?_eq_getElem hi]
  · rw [List.getElem?_eq_none (by simpa using hi), List.getElem?_eq_none (by omega)]
    rfl
theorem getD_of {α : Type} {ns : List α} {i : Nat} {d k : α} (h : ns[i]? = some k) : ns.getD i d = k := by
  rw [List.getD_eq_getElem?_getD, h]
  rfl
theorem iteD {p A B : Prop} [Decidable p] (h1 : p → A) (h2 : ¬ p → B) : if decide p = true then A else B := by
  by_cases h : p
  · rw [decide_eq_true h]
    exact iteT (h1 h)
  · rw [decide_eq_false h]
    exact iteF (h2 h)
theorem iteND {p A B : Prop} [Decidable p] (h1 : ¬ p → A) (h2 : p → B) : if (!decide p) = true then A else B := by
  by_cases h : p
  · rw [decide_eq_true h]
    exact iteF (h2 h)
  · rw [decide_eq_false h]
    exact iteT (h1 h)
theorem iteB {b : Bool} {A B : Prop} (h1 : b = true → A) (h2 : b = false → B) : if b = true then A else B := by
  cases b with
  | true => exact iteT (h1 rfl)
  | false => exact iteF (h2 rfl)
/-- a test whose answer is known, the heap as it was -/
theorem st_ifb {C : TT} {A B R : TS} {D : Ends} {σ : L2.St} {H : Hp} (b : Bool) (h : ∀ k : Bool → Hp → Prop, k b H → C σ H k) (k1 : b = true → A { D with nx := R D } σ H) (k2 : b = false → B { D with nx := R D } σ H) : tSeq (tIfS C A B) R D σ H :=
  h _ (iteB k1 k2)
theorem st_ifd {C : TT} {A B R : TS} {D : Ends} {σ : L2.St} {H : Hp} (p : Prop) [Decidable p] (h : ∀ k : Bool → Hp → Prop, k (decide p) H → C σ H k) (k1 : p → A { D with nx := R D } σ H) (k2 : ¬ p → B { D with nx := R D } σ H) : tSeq (tIfS C A B) R D σ H :=
  h _ (iteD k1 k2)
/-- range(lo, hi, 2) from 0 -/
theorem rg2 (n : Nat) (h : n ≤ 100000) (h1 : 1 ≤ n) : RgC 0 ((n : Int) - 1) 2 (n / 2) := by
  refine ⟨by decide, by decide, ?_, ?_⟩
  · unfold Builtin.Range.small Builtin.Range.rangeSize
    simp only [Builtin.Range.rangeFitsLong, Bool.and_eq_true, Bool.or_eq_true, decide_eq_true_eq, beq_iff_eq, if_true, show ((2 : Int) > 0) from by decide]
    split <;> omega
  · show (if (2 : Int) > 0 then (if (0 : Int) < (n : Int) - 1 then ((n : Int) - 1 - 0 - 1) / 2 + 1 else 0) else _) = _
    rw [if_pos (by decide)]
    by_cases h2 : (0 : Int) < (n : Int) - 1
    · rw [if_pos h2]
      omega
    · rw [if_neg h2]
      omega
end
end Kx
/-! The laws' own helpers: draws, likeness of answers. -/
namespace LH
open PySem PySem.Spec PyProof.Rows L2 Kx
/-- where draws come from: great cells, a mixed number -/
structure DealAt (M : Addr → Prop) (H : Hp) (d c : Addr) (cs : List Int) (m : Int) : Prop where
  md : M d
  mc : M c
  ne : c ≠ d
  hd : H d = some (.lst [.ref c, .int m])
  hc : H c = some (.lst (cs.map V.int))
  len : cs.length ≤ 63
  cb : ∀ x ∈ cs, 0 ≤ x
  m0 : 0 ≤ m
  m1 : m < 2147483647
def Deal (M : Addr → Prop) (H : Hp) (d : Addr) : Prop := ∃ c cs m, DealAt M H d c cs m
theorem DealAt.put {M : Addr → Prop} {H : Hp} {d c : Addr} {cs : List Int} {m : Int} (D : DealAt M H d c cs m) (es : List Int) (hl : es.length ≤ 63) (hb : ∀ x ∈ es, 0 ≤ x) : DealAt M (upd H c (.lst (es.map V.int))) d c es m :=
  ⟨D.md, D.mc, D.ne, by rw [upd_ne (fun e => D.ne e.symm)]; exact D.hd, upd_same, hl, hb, D.m0, D.m1⟩
/-! ### promises -/
def sp__law_any (K : PySem.W.Frag) : Sp := fun vs H Q _ => ∃ (M : Addr → Prop) (d : Addr) (b : Int), vs = [.ref d, .int b] ∧ Wf M H ∧ Deal M H d ∧ 0 < b ∧ b < 1073741824 ∧
  ∀ r H', 0 ≤ r → r < b → Fr M H H' → Deal M H' d → Q (.int r) H'
def sp__law_wide (K : PySem.W.Frag) : Sp := fun vs H Q _ => ∃ (M : Addr → Prop) (d : Addr) (b : Int), vs = [.ref d, .int b] ∧ Wf M H ∧ Deal M H d ∧ 0 < b ∧
  ∀ r H', 0 ≤ r → r < b → Fr M H H' → Deal M H' d → Q (.int r) H'
/-- one of a list's, a tuple's items; one of a text's signs -/
def sp__law_of (K : PySem.W.Frag) : Sp := fun vs H Q _ => ∃ (M : Addr → Prop) (d : Addr), Wf M H ∧ Deal M H d ∧
  ((∃ (a : Addr) (xs : List V), vs = [.ref d, .ref a] ∧ ((¬ M a ∧ H a = some (.lst xs)) ∨ SqT K H a xs) ∧ xs ≠ [] ∧ xs.length < 1073741824 ∧ ∀ v H', v ∈ xs → Fr M H H' → Deal M H' d → Q v H') ∨
   ∃ z : Str, vs = [.ref d, .str z] ∧ z.cps.toList ≠ [] ∧ z.length ≤ 100000 ∧ ∀ c H', c ∈ z.cps.toList → Fr M H H' → Deal M H' d → Q (.str ⟨#[c]⟩) H')
def sp__law_deal (K : PySem.W.Frag) : Sp := fun vs H Q _ => ∃ (a : Addr) (ns : List Int) (salt : Int), vs = [.ref a, .int salt] ∧ SqL K H a (ns.map V.int) ∧ ns.length ≤ 63 ∧ 0 ≤ salt ∧ salt ≤ 100000 ∧
  ∀ (H' : Hp) (d c : Addr) (cs : List Int) (m : Int), Same H H' → H d = none → H c = none → c ≠ d → H' d = some (.lst [.ref c, .int m]) → H' c = some (.lst (cs.map V.int)) → cs.length ≤ 63 → (∀ x ∈ cs, 0 ≤ x) → 0 ≤ m → m < 2147483647 → Q (.ref d) H'
/-- things that hold no others, of one kind and worth -/
def sp__law_is_kind (K : PySem.W.Frag) : Sp := fun vs H Q _ => ∃ (M : Addr → Prop) (a b : V) (d : D), vs = [a, b] ∧ Dat K M H a d ∧ Dat K M H b d ∧ (∀ ds, d ≠ .t ds) ∧ (∀ ds, d ≠ .l ds) ∧ Q (.bl true) H
def sp__law_same (K : PySem.W.Frag) : Sp := fun vs H Q _ => ∃ (M : Addr → Prop) (a b : V) (d : D), vs = [a, b] ∧ Dat K M H a d ∧ Dat K M H b d ∧ d.noL = true ∧ d.sz ≤ 100000 ∧ ∀ H', Same H H' → Q (.bl true) H'
/-- pairs of an answer and what is due, that are the same -/
def Prs (K : PySem.W.Frag) (M : Addr → Prop) (H : Hp) (ws : List V) : Prop := ∀ w ∈ ws, ∃ q a b d, w = .ref q ∧ SqT K H q [a, b] ∧ Dat K M H a d ∧ Dat K M H b d ∧ d.noL = true ∧ d.sz ≤ 100000
def sp__law_all (K : PySem.W.Frag) : Sp := fun vs H Q _ => ∃ (M : Addr → Prop) (p : Addr) (ws : List V), vs = [.ref p] ∧ H p = some (.lst ws) ∧ ws.length ≤ 100000 ∧ Prs K M H ws ∧ ∀ H', Same H H' → Q (.bl true) H'
abbrev N__law_any : List Str := ["deal", "bound", "rest"]
abbrev N__law_wide : List Str := ["deal", "bound", "many", "turn"]
abbrev N__law_of : List Str := ["deal", "some"]
abbrev N__law_deal : List Str := ["script", "salt", "most", "cells", "mix", "cell"]
abbrev N__law_is_kind : List Str := ["told", "due"]
abbrev N__law_same : List Str := ["told", "due", "todo", "one", "other", "at"]
abbrev N__law_all : List Str := ["pairs", "told", "due"]
def t__law_any (K : PySem.W.Frag) : TS :=
    (tSeq (tWhile (tAnd (tTM (tOp (qI2 fun i j => decide (j < i)) (tCB (qLen K) (tCons (tOp (qIx K) (tV 0) (tC (.int 0))) tNil)) (tC (.int 0)))) (tTM (tOp qEqS (tOp (qIx K) (tOp (qIx K) (tV 0) (tC (.int 0))) (tNeg (tC (.int 1)))) (tC (.int 0))))) (tDrop (tPop (tOp (qIx K) (tV 0) (tC (.int 0))))))
    (tSeq (tIfS (tTM (tOp (qI2 fun i j => decide (j < i)) (tCB (qLen K) (tCons (tOp (qIx K) (tV 0) (tC (.int 0))) tNil)) (tC (.int 0)))) (tSeq (tAsg (tCB qInt (tCons (tPop (tOp (qIx K) (tV 0) (tC (.int 0)))) tNil)) (gName 2))
    (tSeq (tDrop (tApp (tOp (qIx K) (tV 0) (tC (.int 0))) (tOp qDiv (tV 2) (tV 1))))
    (tRet (tOp qMod (tV 2) (tV 1))))) tNext)
    (tSeq (tAsg (tOp qMod (tCB qInt (tCons (tOp qAdd (tOp qMul (tOp (qIx K) (tV 0) (tC (.int 1))) (tC (.int 48271))) (tC (.int 31))) tNil)) (tC (.int 2147483647))) (gSub (tV 0) (tC (.int 1)) qSetM))
    (tRet (tOp qMod (tCB qInt (tCons (tOp qDiv (tOp (qIx K) (tV 0) (tC (.int 1))) (tC (.int 64))) tNil)) (tV 1))))))
def t__law_wide (K : PySem.W.Frag) : TS :=
    (tSeq (tIfS (tTM (tOp (qI2 fun i j => decide (i ≤ j)) (tV 1) (tOp qPow (tC (.int 10)) (tC (.int 6))))) (tRet (tCall (sp__law_any K) [] E0 (tCons (tV 0) (tCons (tV 1) tNil)))) tNext)
    (tSeq (tAsg (tC (.int 0)) (gName 2))
    (tSeq (tFor (iRng1 (tCons (tC (.int 4)) tNil)) (gName 3) (tAsg (tOp qAdd (tOp qMul (tV 2) (tC (.int 1048573))) (tCall (sp__law_any K) [] E0 (tCons (tV 0) (tCons (tC (.int 1048573)) tNil)))) (gName 2)))
    (tRet (tOp qMod (tCB qInt (tCons (tV 2) tNil)) (tV 1))))))
def t__law_of (K : PySem.W.Frag) : TS :=
    (tRet (tOp (qIx K) (tV 1) (tCall (sp__law_any K) [] E0 (tCons (tV 0) (tCons (tCB (qLen K) (tCons (tV 1) tNil)) tNil)))))
def t__law_deal (K : PySem.W.Frag) : TS :=
    (tSeq (tAsg (tOp qMulW (tOp qMulW (tOp qMulW (tOp qMulW (tOp qMulW (tOp qPow (tC (.int 10)) (tC (.int 64))) (tOp qPow (tC (.int 10)) (tC (.int 64)))) (tOp qPow (tC (.int 10)) (tC (.int 64)))) (tOp qPow (tC (.int 10)) (tC (.int 64)))) (tOp qPow (tC (.int 10)) (tC (.int 64)))) (tOp qPow (tC (.int 10)) (tC (.int 64)))) (gName 2))
    (tSeq (tAsg (tLc (iList K (tSl (qSl K) (tV 0) tNoPart (tPt (tC (.int 63))))) (gName 5) tYes (tOp qMod (tCB qInt (tCons (tCB qAbs (tCons (tCB qInt (tCons (tV 5) tNil)) tNil)) tNil)) (tV 2)) [5]) (gName 3))
    (tSeq (tAsg (tOp qAdd (tC (.int 70001)) (tOp qMulW (tC (.int 7919)) (tV 1))) (gName 4))
    (tSeq (tFor (iList K (tV 3)) (gName 5) (tAsg (tOp qMod (tCB qInt (tCons (tOp qAdd (tOp qAdd (tOp qMulW (tV 4) (tC (.int 69621))) (tOp qMod (tCB qInt (tCons (tV 5) tNil)) (tC (.int 2147483563)))) (tC (.int 23))) tNil)) (tC (.int 2147483647))) (gName 4)))
    (tRet (tLst (tCons (tRevL K (tLc (iList K (tV 3)) (gName 5) (tTM (tOp (qI2 fun i j => decide (j ≤ i)) (tV 5) (tOp qPow (tC (.int 10)) (tC (.int 18))))) (tV 5) [5])) (tCons (tV 4) tNil))))))))
def t__law_is_kind (K : PySem.W.Frag) : TS :=
    (tSeq (tIfS (tTM (tOp qIsN (tV 1) (tC .non))) (tRet (tOp qIsN (tV 0) (tC .non))) tNext)
    (tSeq (tIfS (tOr (tTM (tOp qIsBl (tV 1) (tC (.bl true)))) (tTM (tOp qIsBl (tV 1) (tC (.bl false))))) (tRet (tIf (tTM (tV 1)) (tOp qIsBl (tV 0) (tC (.bl true))) (tOp qIsBl (tV 0) (tC (.bl false))))) tNext)
    (tSeq (tIfS (tTM (tCB (qIsT K) (tCons (tV 1) (tCons (tC (.ty "str")) tNil)))) (tRet (tAndM (tCB (qIsT K) (tCons (tV 0) (tCons (tC (.ty "str")) tNil))) (tOp qEqS (tV 0) (tV 1)))) tNext)
    (tRet (tAndM (tCB (qIsT K) (tCons (tV 0) (tCons (tC (.ty "int")) tNil))) (tAndM (tNotM (tCB (qIsT K) (tCons (tV 0) (tCons (tC (.ty "bool")) tNil)))) (tOp qEqS (tV 0) (tV 1))))))))
def t__law_same (K : PySem.W.Frag) : TS :=
    (tSeq (tAsg (tLst (tCons (tTup (tCons (tV 0) (tCons (tV 1) tNil))) tNil)) (gName 2))
    (tSeq (tWhile (tTM (tOp (qI2 fun i j => decide (j < i)) (tCB (qLen K) (tCons (tV 2) tNil)) (tC (.int 0)))) (tSeq (tAsg (tPop (tV 2)) (gTup K 2 (gCons (gName 3) (gCons (gName 4) gNil))))
    (tIfS (tTM (tCB (qIsT K) (tCons (tV 4) (tCons (tC (.ty "tuple")) tNil)))) (tSeq (tIfS (tOr (tNot (tTM (tCB (qIsT K) (tCons (tV 3) (tCons (tC (.ty "tuple")) tNil))))) (tTM (tOp qNeS (tCB (qLen K) (tCons (tV 3) tNil)) (tCB (qLen K) (tCons (tV 4) tNil))))) (tRet (tC (.bl false))) tNext)
    (tFor (iRng1 (tCons (tCB (qLen K) (tCons (tV 4) tNil)) tNil)) (gName 5) (tDrop (tApp (tV 2) (tTup (tCons (tOp (qIx K) (tV 3) (tV 5)) (tCons (tOp (qIx K) (tV 4) (tV 5)) tNil))))))) (tIfS (tOr (tTM (tCB (rIsiT K) (tCons (tV 3) (tCons (tTup (tCons (tC (.ty "tuple")) (tCons (tC (.ty "list")) (tCons (tC (.ty "dict")) tNil)))) tNil)))) (tNot (tTM (tCall (sp__law_is_kind K) [] E0 (tCons (tV 3) (tCons (tV 4) tNil)))))) (tRet (tC (.bl false))) tNext))))
    (tRet (tC (.bl true)))))
def t__law_all (K : PySem.W.Frag) : TS :=
    (tRet (tOp qEqS (tCB (qLen K) (tCons (tLc (iList K (tV 0)) (gTup K 2 (gCons (gName 1) (gCons (gName 2) gNil))) (tNot (tTM (tCall (sp__law_same K) [] E0 (tCons (tV 1) (tCons (tV 2) tNil))))) (tV 1) [1, 2]) tNil)) (tC (.int 0))))
section
variable {K : PySem.W.Frag}
theorem concat_cases {α : Type} (l : List α) : l = [] ∨ ∃ i z, l = i ++ [z] := by
  rcases List.eq_nil_or_concat l with h | ⟨i, z, h⟩
  · exact .inl h
  · exact .inr ⟨i, z, by rw [h, List.concat_eq_append]⟩
theorem last_int (i : List Int) (z : Int) : atI ((i ++ [z]).map V.int) (-1) = some (.int z) := by
  rw [List.map_append]
  exact atI_last _ _
theorem no0 : ¬ ((0 : Int) < ((([] : List Int).map V.int).length : Nat)) := by decide
theorem pos1 (i : List Int) (z : Int) : (0 : Int) < (((i ++ [z]).map V.int).length : Nat) := by simp
theorem rd__law_any (vs : List V) (H : Hp) (Q : VK) (E : XK) (h : sp__law_any K vs H Q E) : t__law_any K { nx := fun _ H' => Q .non H', rt := Q } (start N__law_any vs) H := by
  obtain ⟨M, d, b, rfl, w, ⟨c, cs, m, D⟩, hb, hb2, q⟩ := h
  refine ⟨fun n σ H' => σ = [some (.ref d), some (.int b), none] ∧ ∃ es, n = es.length ∧ DealAt M H' d c es m ∧ Fr M H H', ⟨_, rfl, cs, rfl, D, .refl w⟩, fun n σ H' hW => ?_⟩
  obtain ⟨rfl, es, rfl, D', f⟩ := hW
  have tail : ∀ (D0 : Ends), D0.rt = Q → (tSeq (tIfS (tTM (tOp (qI2 fun i j => decide (j < i)) (tCB (qLen K) (tCons (tOp (qIx K) (tV 0) (tC (.int 0))) tNil)) (tC (.int 0)))) (tSeq (tAsg (tCB qInt (tCons (tPop (tOp (qIx K) (tV 0) (tC (.int 0)))) tNil)) (gName 2))
    (tSeq (tDrop (tApp (tOp (qIx K) (tV 0) (tC (.int 0))) (tOp qDiv (tV 2) (tV 1))))
    (tRet (tOp qMod (tV 2) (tV 1))))) tNext)
    (tSeq (tAsg (tOp qMod (tCB qInt (tCons (tOp qAdd (tOp qMul (tOp (qIx K) (tV 0) (tC (.int 1))) (tC (.int 48271))) (tC (.int 31))) tNil)) (tC (.int 2147483647))) (gSub (tV 0) (tC (.int 1)) qSetM))
    (tRet (tOp qMod (tCB qInt (tCons (tOp qDiv (tOp (qIx K) (tV 0) (tC (.int 1))) (tC (.int 64))) tNil)) (tV 1))))) D0 [some (.ref d), some (.int b), none] H' := by
    intro D0 hrt
    rcases concat_cases es with rfl | ⟨i, z, rfl⟩
    · refine ⟨_, _, .inl (sql_of D'.hd), rfl, _, .inl (sql_of D'.hc), ?_⟩
      -- the mixed number
      refine ⟨_, _, .inl (sql_of D'.hd), rfl, .inr ⟨by decide, by decide⟩, by decide, _, 1, D'.hd, rfl, ?_⟩
      have h0 : 0 ≤ (m * 48271 + 31) % 2147483647 := Int.emod_nonneg _ (by decide)
      have h1 : (m * 48271 + 31) % 2147483647 < 2147483647 := Int.emod_lt_of_pos _ (by decide)
      refine ⟨[.ref c, .int ((m * 48271 + 31) % 2147483647)], _, .inl (sql_of upd_same), rfl, ⟨by decide, by decide⟩, hb, ?_⟩
      have D2 : DealAt M (upd H' d (.lst [.ref c, .int ((m * 48271 + 31) % 2147483647)])) d c [] ((m * 48271 + 31) % 2147483647) :=
        ⟨D'.md, D'.mc, D'.ne, upd_same, by rw [upd_ne D'.ne]; exact D'.hc, D'.len, D'.cb, h0, h1⟩
      rw [hrt]
      exact q _ _ (Int.emod_nonneg _ (by omega)) (Int.emod_lt_of_pos _ hb) (f.put D'.md) ⟨_, _, _, D2⟩
    · refine ⟨_, _, .inl (sql_of D'.hd), rfl, _, .inl (sql_of D'.hc), ?_⟩
      refine iteD (fun _ => ?_) fun e => absurd (pos1 _ _) e
      have hl : (i ++ [z]).length ≤ 63 := D'.len
      have hz : 0 ≤ z := D'.cb z (by simp)
      have hi : ∀ x ∈ i, 0 ≤ x := fun x hx => D'.cb x (by simp [hx])
      rw [List.length_append, List.length_singleton] at hl
      have D1 := D'.put i (by omega) hi
      have e1 : H' c = some (.lst (i.map V.int ++ [.int z])) := by
        rw [D'.hc, List.map_append]
        rfl
      refine ⟨_, _, .inl (sql_of D'.hd), rfl, i.map V.int, .int z, e1, ?_⟩
      refine ⟨_, _, .inl (sql_of D1.hd), rfl, ⟨_, D1.hc⟩, ⟨hb, hb2⟩, _, D1.hc, ?_, hb, ?_⟩
      · rw [List.length_map]
        exact small1000 (by omega)
      · have e2 : (i.map V.int ++ [V.int (z / b)]) = (i ++ [z / b]).map V.int := by
          rw [List.map_append]
          rfl
        rw [hrt, e2]
        refine q _ _ (Int.emod_nonneg _ (by omega)) (Int.emod_lt_of_pos _ hb) ((f.put D'.mc).put D'.mc) ⟨_, _, _, D1.put (i ++ [z / b]) (by rw [List.length_append, List.length_singleton]; omega) fun x hx => ?_⟩
        rcases List.mem_append.mp hx with hx | hx
        · exact hi x hx
        · rw [List.mem_singleton.mp hx]
          exact Int.ediv_nonneg hz (by omega)
  rcases concat_cases es with rfl | ⟨i, z, rfl⟩
  · refine ⟨_, _, .inl (sql_of D'.hd), rfl, _, .inl (sql_of D'.hc), ?_⟩
    exact tail _ rfl
  · refine ⟨_, _, .inl (sql_of D'.hd), rfl, _, .inl (sql_of D'.hc), ?_⟩
    refine iteD (fun _ => ?_) fun e => absurd (pos1 _ _) e
    refine ⟨_, _, .inl (sql_of D'.hd), rfl, _, _, .inl (sql_of D'.hc), last_int i z, ?_⟩
    refine iteD (fun ez => ?_) fun _ => tail _ rfl
    have hl : (i ++ [z]).length ≤ 63 := D'.len
    rw [List.length_append, List.length_singleton] at hl
    have e1 : H' c = some (.lst (i.map V.int ++ [.int z])) := by
      rw [D'.hc, List.map_append]
      rfl
    refine ⟨_, fun σ' H2 hN => hN, ?_⟩
    refine ⟨_, _, .inl (sql_of D'.hd), rfl, i.map V.int, .int z, e1, ?_⟩
    exact ⟨i.length, by simp, rfl, i, rfl, D'.put i (by omega) fun x hx => D'.cb x (by simp [hx]), f.put D'.mc⟩
theorem rd__law_wide (vs : List V) (H : Hp) (Q : VK) (E : XK) (h : sp__law_wide K vs H Q E) : t__law_wide K { nx := fun _ H' => Q .non H', rt := Q } (start N__law_wide vs) H := by
  obtain ⟨M, d, b, rfl, w, D, hb, q⟩ := h
  refine ⟨⟨by decide, by decide, by decide⟩, ?_⟩
  refine iteD (fun e => ?_) fun _ => ?_
  · refine ⟨M, d, b, rfl, w, D, hb, ?_, q⟩
    have e2 : b ≤ 1000000 := e
    omega
  · refine ⟨4, rfl, by decide, by decide, for_range (lo := 0) (n := 4) (fun i σ H' => ∃ y3 mm, σ = [some (.ref d), some (.int b), some (.int mm), y3] ∧ Fr M H H' ∧ Deal M H' d ∧ 0 ≤ mm) ⟨none, 0, rfl, .refl w, D, by decide⟩ (fun i σ H' hi hW => ?_) fun σ H' hW => ?_⟩
    · obtain ⟨y3, mm, rfl, f, D', h0⟩ := hW
      refine ⟨.inr ⟨by decide, by decide⟩, M, d, 1048573, rfl, f.w', D', by decide, by decide, fun r H2 r0 r1 f2 D2 => ?_⟩
      exact ⟨some (.int (0 + (i : Int))), mm * 1048573 + r, rfl, f.trans f2, D2, by have := Int.mul_nonneg h0 (show (0 : Int) ≤ 1048573 by decide); omega⟩
    · obtain ⟨y3, mm, rfl, f, D', h0⟩ := hW
      exact ⟨hb, q _ _ (Int.emod_nonneg _ (by omega)) (Int.emod_lt_of_pos _ hb) f D'⟩
theorem atI_in {α : Type} {xs : List α} {r : Int} (h0 : 0 ≤ r) (h1 : r < (xs.length : Nat)) : ∃ v, atI xs r = some v ∧ v ∈ xs := by
  obtain ⟨j, rfl⟩ := Int.eq_ofNat_of_zero_le h0
  have hj : j < xs.length := by omega
  exact ⟨xs[j], atI_nat (List.getElem?_eq_getElem hj), List.getElem_mem hj⟩
theorem rd__law_of (vs : List V) (H : Hp) (Q : VK) (E : XK) (h : sp__law_of K vs H Q E) : t__law_of K { nx := fun _ H' => Q .non H', rt := Q } (start N__law_of vs) H := by
  obtain ⟨M, d, w, D, ⟨a, xs, rfl, hs, hne, hl, q⟩ | ⟨z, rfl, hne, hl, q⟩⟩ := h
  · have hp : 0 < xs.length := List.length_pos_iff.mpr hne
    have hS : Sq K H a xs := by
      rcases hs with ⟨_, h⟩ | h
      · exact .inl (sql_of h)
      · exact .inr h
    refine ⟨xs, hS, M, d, xs.length, rfl, w, D, by omega, by omega, fun r H' r0 r1 f D' => ?_⟩
    obtain ⟨v, e, hv⟩ := atI_in r0 r1
    refine ⟨xs, v, ?_, e, q v H' hv f D'⟩
    rcases hs with ⟨n, h⟩ | h
    · exact .inl (sql_of (f.keep _ _ n h))
    · exact .inr (f.sqt h)
  · have hp : 0 < z.cps.toList.length := List.length_pos_iff.mpr hne
    have el : z.length = z.cps.toList.length := rfl
    have hz : z.length ≤ sizeLine := Nat.le_trans hl (by decide)
    refine ⟨hz, M, d, z.length, rfl, w, D, by omega, by omega, fun r H' r0 r1 f D' => ?_⟩
    obtain ⟨c, e, hc⟩ := atI_in (xs := z.cps.toList) r0 (by omega)
    exact ⟨hz, c, e, q c H' hc f D'⟩
end
section
variable {K : PySem.W.Frag}
/-! ### kinds of data -/
def tyD : D → String
  | .n => "NoneType"
  | .b _ => "bool"
  | .i _ => "int"
  | .s _ => "str"
  | .t _ => "tuple"
  | .l _ => "list"
theorem sqt_ty {H : Hp} {a : Addr} {xs : List V} (h : SqT K H a xs) : TyX K H (.ref a) (.type "tuple") := by
  rcases h with (h | ⟨o, h⟩) | ⟨o, its, n, hk, hc, _⟩
  · exact .base (.tup h)
  · exact .fTuple h
  · exact .kTuple hk hc
theorem dat_ty {M : Addr → Prop} {H : Hp} {v : V} {d : D} (h : Dat K M H v d) : TyX K H v (.type (tyD d)) := by
  cases h with
  | n => exact .base .non
  | b c => exact .base (.bl c)
  | i c => exact .base (.int c)
  | s c => exact .base (.str c)
  | t h r => exact sqt_ty h
  | l n h r => exact .base (.lst h)
def isTD : D → Bool
  | .t _ => true
  | _ => false
def isLD : D → Bool
  | .l _ => true
  | _ => false
theorem kit_t (d : D) : kitB (tyD d) "tuple" = some (isTD d) := by
  cases d <;> (first | (show kitB "NoneType" "tuple" = some false; decide +kernel) | (show kitB "bool" "tuple" = some false; decide +kernel) | (show kitB "int" "tuple" = some false; decide +kernel) | (show kitB "str" "tuple" = some false; decide +kernel) | (show kitB "tuple" "tuple" = some true; decide +kernel) | (show kitB "list" "tuple" = some false; decide +kernel))
theorem kit_l (d : D) : kitB (tyD d) "list" = some (isLD d) := by
  cases d <;> (first | (show kitB "NoneType" "list" = some false; decide +kernel) | (show kitB "bool" "list" = some false; decide +kernel) | (show kitB "int" "list" = some false; decide +kernel) | (show kitB "str" "list" = some false; decide +kernel) | (show kitB "tuple" "list" = some false; decide +kernel) | (show kitB "list" "list" = some true; decide +kernel))
theorem kit_d (d : D) : kitB (tyD d) "dict" = some false := by
  cases d <;> (first | (show kitB "NoneType" "dict" = some false; decide +kernel) | (show kitB "bool" "dict" = some false; decide +kernel) | (show kitB "int" "dict" = some false; decide +kernel) | (show kitB "str" "dict" = some false; decide +kernel) | (show kitB "tuple" "dict" = some false; decide +kernel) | (show kitB "list" "dict" = some false; decide +kernel))
theorem kit_is : kitB "int" "str" = some false := by decide +kernel
theorem kit_ii : kitB "int" "int" = some true := by decide +kernel
theorem kit_ib : kitB "int" "bool" = some false := by decide +kernel
theorem kit_ss : kitB "str" "str" = some true := by decide +kernel
theorem kit_any {d : D} (h1 : isTD d = false) (h2 : isLD d = false) : PySem.W.kitAny K (.type (tyD d)) [.type "tuple", .type "list", .type "dict"] = some false := by
  refine kitAny_cons (kit_ty (kit_t d)) (fun _ => kitAny_cons (kit_ty (kit_l d)) (fun _ => kitAny_cons (kit_ty (kit_d d)) (fun _ => rfl) fun z => nomatch z) fun z => ?_) fun z => ?_
  · rw [h2] at z
    cases z
  · rw [h1] at z
    cases z
theorem rd__law_is_kind (vs : List V) (H : Hp) (Q : VK) (E : XK) (h : sp__law_is_kind K vs H Q E) : t__law_is_kind K { nx := fun _ H' => Q .non H', rt := Q } (start N__law_is_kind vs) H := by
  obtain ⟨M, a, b, d, rfl, ha, hb, nt, nl, q⟩ := h
  cases ha with
  | n =>
    cases hb
    exact q
  | b c =>
    cases hb
    cases c <;> exact q
  | i k =>
    cases hb
    refine ⟨"int", false, .base (.int k), kit_is, ?_⟩
    refine ⟨"int", true, .base (.int k), kit_ii, ?_⟩
    refine ⟨"int", false, .base (.int k), kit_ib, ?_⟩
    show Q (.bl (decide (k = k))) H
    rw [decide_eq_true rfl]
    exact q
  | s x =>
    cases hb
    refine ⟨"str", true, .base (.str x), kit_ss, ?_⟩
    refine ⟨"str", true, .base (.str x), kit_ss, ?_⟩
    show Q (.bl (decide (x = x))) H
    rw [decide_eq_true rfl]
    exact q
  | t h r => exact absurd rfl (nt _)
  | l n h r => exact absurd rfl (nl _)
/-! ### two rows beside one another -/
inductive F2 {α β : Type} (R : α → β → Prop) : List α → List β → Prop
  | nil : F2 R [] []
  | cons {a b as bs} : R a b → F2 R as bs → F2 R (a :: as) (b :: bs)
theorem F2.snoc {α β : Type} {R : α → β → Prop} : ∀ {as : List α} {bs : List β} {a b}, F2 R as bs → R a b → F2 R (as ++ [a]) (bs ++ [b])
  | _, _, _, _, .nil, h => .cons h .nil
  | _, _, _, _, .cons r t, h => .cons r (F2.snoc t h)
theorem F2.last {α β : Type} {R : α → β → Prop} : ∀ {as : List α} {a : α} {cs : List β}, F2 R (as ++ [a]) cs → ∃ bs b, cs = bs ++ [b] ∧ F2 R as bs ∧ R a b
  | [], a, _, .cons r .nil => ⟨[], _, rfl, .nil, r⟩
  | x :: as, a, _, .cons r t => by
    obtain ⟨bs, b, rfl, h1, h2⟩ := F2.last t
    exact ⟨_ :: bs, b, rfl, .cons r h1, h2⟩
theorem F2.imp {α β : Type} {R S : α → β → Prop} (f : ∀ a b, R a b → S a b) : ∀ {as : List α} {bs : List β}, F2 R as bs → F2 S as bs
  | _, _, .nil => .nil
  | _, _, .cons r t => .cons (f _ _ r) (F2.imp f t)
theorem F2.length {α β : Type} {R : α → β → Prop} : ∀ {as : List α} {bs : List β}, F2 R as bs → as.length = bs.length
  | _, _, .nil => rfl
  | _, _, .cons _ t => congrArg (· + 1) (F2.length t)
theorem sz_pos (d : D) : 1 ≤ d.sz := by
  cases d <;> simp [D.sz]
theorem len_le_sz : ∀ ds : List D, ds.length ≤ (ds.map D.sz).sum
  | [] => Nat.le_refl _
  | d :: ds => by
    have := len_le_sz ds
    have := sz_pos d
    simp only [List.map_cons, List.sum_cons, List.length_cons]
    omega
theorem line5 : 100000 < sizeLine := by decide
/-- a new pair of two likes -/
def PrD (K : PySem.W.Frag) (M : Addr → Prop) (H H' : Hp) (w : V) (d : D) : Prop := ∃ q x y, w = .ref q ∧ H' q = some (.tup [x, y]) ∧ Dat K M H x d ∧ Dat K M H y d ∧ d.noL = true
theorem PrD.upd {M : Addr → Prop} {H H' : Hp} {l : Addr} {us zs : List V} {w : V} {d : D} (e : H' l = some (.lst us)) (h : PrD K M H H' w d) : PrD K M H (upd H' l (.lst zs)) w d := by
  obtain ⟨q, x, y, rfl, e1, h1, h2, h3⟩ := h
  refine ⟨q, x, y, rfl, ?_, h1, h2, h3⟩
  rw [upd_ne (ne_of e1 e (fun z => nomatch z))]
  exact e1
theorem PrD.same {M : Addr → Prop} {H H' H2 : Hp} {w : V} {d : D} (s : Same H' H2) (h : PrD K M H H' w d) : PrD K M H H2 w d := by
  obtain ⟨q, x, y, rfl, e1, h1, h2, h3⟩ := h
  exact ⟨q, x, y, rfl, s _ _ e1, h1, h2, h3⟩
theorem rd__law_same (vs : List V) (H : Hp) (Q : VK) (E : XK) (h : sp__law_same K vs H Q E) : t__law_same K { nx := fun _ H' => Q .non H', rt := Q } (start N__law_same vs) H := by
  obtain ⟨M, a, b, d, rfl, ha, hb, hn, hz, q⟩ := h
  refine ⟨by show 2 ≤ sizeLine; decide, fun t nt => ⟨by show 1 ≤ sizeLine; decide, fun l nl => ?_⟩⟩
  have nlH : H l = none := (same_new nt).free nl
  refine ⟨fun n σ H' => ∃ y3 y4 y5 ws ds, σ = [some a, some b, some (.ref l), y3, y4, y5] ∧ Same H H' ∧ H' l = some (.lst ws) ∧ F2 (PrD K M H H') ws ds ∧ n = (ds.map D.sz).sum ∧ n ≤ 100000,
    ⟨d.sz, none, none, none, [.ref t], [d], rfl, (same_new nt).trans (same_new nl), upd_same, .cons ⟨t, a, b, rfl, ?_, ha, hb, hn⟩ .nil, by simp, hz⟩, fun n σ H' hW => ?_⟩
  · rw [upd_ne (ne_of_none upd_same nl)]
    exact upd_same
  obtain ⟨y3, y4, y5, ws, ds, rfl, sm, el, F, rfl, hz'⟩ := hW
  refine ⟨_, .inl (sql_of el), ?_⟩
  refine iteD (fun hpos => ?_) fun _ => q H' sm
  rcases concat_cases ws with rfl | ⟨us, w, rfl⟩
  · exact absurd hpos (by decide)
  obtain ⟨es, d1, rfl, F1, q1, x, y, rfl, e1, hx, hy, hn1⟩ := F.last
  have hsum : ((es ++ [d1]).map D.sz).sum = (es.map D.sz).sum + d1.sz := by
    rw [List.map_append, List.sum_append]
    simp
  rw [hsum] at hz' ⊢
  have hq1 : q1 ≠ l := ne_of e1 el (fun z => nomatch z)
  refine ⟨fun σ' H2 => ∃ m', m' < (es.map D.sz).sum + d1.sz ∧ ∃ y3 y4 y5 ws ds, σ' = [some a, some b, some (.ref l), y3, y4, y5] ∧ Same H H2 ∧ H2 l = some (.lst ws) ∧ F2 (PrD K M H H2) ws ds ∧ m' = (ds.map D.sz).sum ∧ m' ≤ 100000, fun σ' H2 hN => hN, ?_⟩
  refine ⟨us, .ref q1, el, ?_⟩
  have F1' : F2 (PrD K M H (upd H' l (.lst us))) us es := F1.imp fun _ _ => PrD.upd el
  have sm1 : Same H (upd H' l (.lst us)) := same_mut sm nlH
  have el1 : (upd H' l (.lst us)) l = some (.lst us) := upd_same
  have e1' : (upd H' l (.lst us)) q1 = some (.tup [x, y]) := by
    rw [upd_ne hq1]
    exact e1
  revert F1' sm1 el1 e1'
  generalize upd H' l (.lst us) = H1
  intro F1' sm1 el1 e1'
  refine ⟨q1, [x, y], rfl, sqt_of e1', rfl, x, [y], rfl, y, [], rfl, rfl, ?_⟩
  refine ⟨_, _, dat_ty (hy.same sm1), kit_t d1, ?_⟩
  cases d1 with
  | t ks =>
    obtain ⟨ax, xs, rfl, hax, hxs⟩ := hx.t_inv
    obtain ⟨ay, ys, rfl, hay, hys⟩ := hy.t_inv
    refine ⟨"tuple", true, sqt_ty (Same.sqt sm1 hax), by decide +kernel, xs, .inr (Same.sqt sm1 hax), ys, .inr (Same.sqt sm1 hay), ?_⟩
    have exy : ((xs.length : Nat) : Int) = ((ys.length : Nat) : Int) := by rw [hxs.length, hys.length]
    refine iteNS exy ?_
    have hkz : (D.t ks).sz = 1 + (ks.map D.sz).sum := D.sz_t ks
    have hkl := len_le_sz ks
    have hyl := hys.length
    refine ⟨ys, .inr (Same.sqt sm1 hay), ys.length, rfl, by omega, by omega, for_range (lo := 0) (n := ys.length) (fun i σ' H2 => ∃ y5 ws, σ' = [some a, some b, some (.ref l), some (.ref ax), some (.ref ay), y5] ∧ Same H H2 ∧ H2 l = some (.lst ws) ∧ F2 (PrD K M H H2) ws (es ++ ks.take i)) ⟨y5, us, rfl, sm1, el1, by simpa using F1'⟩ (fun i σ' H2 hi hP => ?_) fun σ' H2 hP => ?_⟩
    · obtain ⟨y5, ws2, rfl, sm2, el2, F2'⟩ := hP
      have hix : i < xs.length := by
        rw [hxs.length, ← hys.length]
        exact hi
      have gx : atI xs (0 + (i : Int)) = some xs[i] := by
        rw [Int.zero_add]
        exact atI_nat (List.getElem?_eq_getElem hix)
      have gy : atI ys (0 + (i : Int)) = some ys[i] := by
        rw [Int.zero_add]
        exact atI_nat (List.getElem?_eq_getElem hi)
      refine ⟨⟨_, el2⟩, xs, _, .inr (Same.sqt sm2 hax), gx, ys, _, .inr (Same.sqt sm2 hay), gy, by show 2 ≤ sizeLine; decide, fun t2 nt2 => ?_⟩
      have hlt2 : l ≠ t2 := ne_of_none el2 nt2
      obtain ⟨k1, hk1, dx⟩ := hxs.get (List.getElem?_eq_getElem hix)
      obtain ⟨k2, hk2, dy⟩ := hys.get (List.getElem?_eq_getElem hi)
      have ek : k2 = k1 := Option.some.inj (hk2.symm.trans hk1)
      subst ek
      have hw2 : ws2.length ≤ 100000 := by
        rw [F2'.length]
        have e1 := len_le_sz es
        rw [List.length_append, List.length_take]
        omega
      have nk : k2.noL = true := (D.noL_t.mp hn1) k2 (List.mem_of_getElem? hk2)
      have el3 : (upd H2 t2 (.tup [xs[i], ys[i]])) l = some (.lst ws2) := by
        rw [upd_ne hlt2]
        exact el2
      refine ⟨ws2, el3, Nat.lt_of_le_of_lt hw2 line5, some (.int (0 + (i : Int))), ws2 ++ [.ref t2], rfl, same_mut (sm2.trans (same_new nt2)) nlH, upd_same, ?_⟩
      rw [List.take_add_one, hk2]
      show F2 _ _ (es ++ (ks.take i ++ [k2]))
      rw [← List.append_assoc]
      refine F2.snoc (F2'.imp fun _ _ h => PrD.upd el3 (PrD.same (same_new nt2) h)) ⟨t2, xs[i], ys[i], rfl, ?_, dx, dy, nk⟩
      rw [upd_ne hlt2.symm]
      exact upd_same
    · obtain ⟨y5, ws2, rfl, sm2, el2, F2'⟩ := hP
      have ht : ks.take ys.length = ks := List.take_of_length_le (by omega)
      rw [ht] at F2'
      refine ⟨((es ++ ks).map D.sz).sum, ?_, some (.ref ax), some (.ref ay), y5, ws2, es ++ ks, rfl, sm2, el2, F2', rfl, ?_⟩
      · rw [List.map_append, List.sum_append]
        omega
      · rw [List.map_append, List.sum_append]
        omega
  | l ks => exact absurd hn1 (by simp [D.noL])
  | n => 
    refine ⟨by show 3 ≤ sizeLine; decide, fun t3 nt3 => ?_⟩
    have sm3 : Same H (upd H1 t3 (.tup [.ty "tuple", .ty "list", .ty "dict"])) := sm1.trans (same_new nt3)
    refine ⟨x, t3, _, _, _, false, rfl, upd_same, .cons (.ty _) (.cons (.ty _) (.cons (.ty _) .nil)), dat_ty (hx.same sm3), kit_any rfl rfl, ?_⟩
    refine ⟨M, x, y, .n, rfl, hx.same sm3, hy.same sm3, (fun _ z => nomatch z), (fun _ z => nomatch z), ?_⟩
    exact ⟨_, by have := sz_pos D.n; omega, some x, some y, y5, us, es, rfl, sm3, by rw [upd_ne (ne_of_none el1 nt3)]; exact el1, F1'.imp fun _ _ h => h.same (same_new nt3), rfl, by omega⟩
  | b c => 
    refine ⟨by show 3 ≤ sizeLine; decide, fun t3 nt3 => ?_⟩
    have sm3 : Same H (upd H1 t3 (.tup [.ty "tuple", .ty "list", .ty "dict"])) := sm1.trans (same_new nt3)
    refine ⟨x, t3, _, _, _, false, rfl, upd_same, .cons (.ty _) (.cons (.ty _) (.cons (.ty _) .nil)), dat_ty (hx.same sm3), kit_any rfl rfl, ?_⟩
    refine ⟨M, x, y, .b c, rfl, hx.same sm3, hy.same sm3, (fun _ z => nomatch z), (fun _ z => nomatch z), ?_⟩
    exact ⟨_, by have := sz_pos (D.b c); omega, some x, some y, y5, us, es, rfl, sm3, by rw [upd_ne (ne_of_none el1 nt3)]; exact el1, F1'.imp fun _ _ h => h.same (same_new nt3), rfl, by omega⟩
  | i c => 
    refine ⟨by show 3 ≤ sizeLine; decide, fun t3 nt3 => ?_⟩
    have sm3 : Same H (upd H1 t3 (.tup [.ty "tuple", .ty "list", .ty "dict"])) := sm1.trans (same_new nt3)
    refine ⟨x, t3, _, _, _, false, rfl, upd_same, .cons (.ty _) (.cons (.ty _) (.cons (.ty _) .nil)), dat_ty (hx.same sm3), kit_any rfl rfl, ?_⟩
    refine ⟨M, x, y, .i c, rfl, hx.same sm3, hy.same sm3, (fun _ z => nomatch z), (fun _ z => nomatch z), ?_⟩
    exact ⟨_, by have := sz_pos (D.i c); omega, some x, some y, y5, us, es, rfl, sm3, by rw [upd_ne (ne_of_none el1 nt3)]; exact el1, F1'.imp fun _ _ h => h.same (same_new nt3), rfl, by omega⟩
  | s c => 
    refine ⟨by show 3 ≤ sizeLine; decide, fun t3 nt3 => ?_⟩
    have sm3 : Same H (upd H1 t3 (.tup [.ty "tuple", .ty "list", .ty "dict"])) := sm1.trans (same_new nt3)
    refine ⟨x, t3, _, _, _, false, rfl, upd_same, .cons (.ty _) (.cons (.ty _) (.cons (.ty _) .nil)), dat_ty (hx.same sm3), kit_any rfl rfl, ?_⟩
    refine ⟨M, x, y, .s c, rfl, hx.same sm3, hy.same sm3, (fun _ z => nomatch z), (fun _ z => nomatch z), ?_⟩
    exact ⟨_, by have := sz_pos (D.s c); omega, some x, some y, y5, us, es, rfl, sm3, by rw [upd_ne (ne_of_none el1 nt3)]; exact el1, F1'.imp fun _ _ h => h.same (same_new nt3), rfl, by omega⟩
theorem rd__law_all (vs : List V) (H : Hp) (Q : VK) (E : XK) (h : sp__law_all K vs H Q E) : t__law_all K { nx := fun _ H' => Q .non H', rt := Q } (start N__law_all vs) H := by
  obtain ⟨M, p, ws, rfl, ep, hl, hp, q⟩ := h
  refine ⟨p, rfl, ⟨ws, sql_of ep⟩, fun l nl => lc_list (K := K) (a := p) (xs := ws) (fun i H' => Same H H' ∧ H' l = some (.lst [])) ⟨same_new nl, upd_same⟩ (fun i H' _ hP => sql_of (hP.1 _ _ ep)) (fun i w H' hi hP => ?_) fun H' hP => ?_⟩
  · obtain ⟨qa, a, b, d, rfl, hq, ha, hb, hn, hz⟩ := hp w (List.mem_of_getElem? hi)
    refine ⟨qa, [a, b], rfl, Same.sqt hP.1 hq, rfl, a, [b], rfl, b, [], rfl, rfl, rfl, ?_⟩
    exact ⟨M, a, b, d, rfl, ha.same hP.1, hb.same hP.1, hn, hz, fun H2 s2 => ⟨hP.1.trans s2, s2 _ _ hP.2⟩⟩
  · exact ⟨[], .inl (sql_of hP.2), q H' hP.1⟩
end
section
variable {K : PySem.W.Frag}
theorem cut_ints (ns : List Int) (lo hi : Option Int) : cutV (ns.map V.int) lo hi = ((ns.drop (HT.sIx ns.length 0 lo)).take (HT.sIx ns.length ns.length hi - HT.sIx ns.length 0 lo)).map V.int := by
  unfold cutV
  rw [List.length_map, List.map_take, List.map_drop]
theorem cpow {i j : Int} (h0 : 0 ≤ j) (h1 : j ≤ 1000000) (h2 : i.natAbs < 2 ^ 64) : CPow i j := ⟨h0, h1, h2⟩
theorem p64 : ((10 : Int) ^ (64 : Int).toNat).natAbs < 2 ^ 213 := by decide +kernel
theorem pc64 : CPow 10 64 := ⟨by decide, by decide, by decide⟩
def most : Int := 10 ^ (64 : Int).toNat * 10 ^ (64 : Int).toNat * 10 ^ (64 : Int).toNat * 10 ^ (64 : Int).toNat * 10 ^ (64 : Int).toNat * 10 ^ (64 : Int).toNat
theorem most_pos : 0 < most := by decide +kernel
theorem rd__law_deal (vs : List V) (H : Hp) (Q : VK) (E : XK) (h : sp__law_deal K vs H Q E) : t__law_deal K { nx := fun _ H' => Q .non H', rt := Q } (start N__law_deal vs) H := by
  obtain ⟨a, ns, salt, rfl, hS, hl, s0, s1, q⟩ := h
  refine ⟨pc64, pc64, wide_mul p64 p64 (by decide) (by decide) (by decide), pc64, wide_mul (wide_lt p64 p64) p64 (by decide) (by decide) (by decide), pc64,
    wide_mul (wide_lt (wide_lt p64 p64) p64) p64 (by decide) (by decide) (by decide), pc64, wide_mul (wide_lt (wide_lt (wide_lt p64 p64) p64) p64) p64 (by decide) (by decide) (by decide), pc64,
    wide_mul (wide_lt (wide_lt (wide_lt (wide_lt p64 p64) p64) p64) p64) p64 (by decide) (by decide) (by decide), ?_⟩
  show tSeq _ _ _ [some (.ref a), some (.int salt), some (.int most), none, none, none] H
  have hmp := most_pos
  generalize most = mo at hmp
  refine .inl ⟨_, hS, fun s ns' => ⟨s, rfl, ⟨_, sql_of upd_same⟩, fun l nl => ?_⟩⟩
  rw [cut_ints] at nl ⊢
  generalize hcs : ((ns.drop (HT.sIx ns.length 0 none)).take (HT.sIx ns.length ns.length (some 63) - HT.sIx ns.length 0 none)) = cs0 at nl ⊢
  have hc0 : cs0.length ≤ 63 := by
    rw [← hcs, List.length_take, List.length_drop]
    omega
  have sm0 := same_new (o := .lst (cs0.map V.int)) ns'
  have es0 : (upd H s (.lst (cs0.map V.int))) s = some (.lst (cs0.map V.int)) := upd_same
  revert nl sm0 es0
  generalize upd H s (.lst (cs0.map V.int)) = H1
  intro nl sm0 es0
  refine lc_list (K := K) (a := s) (xs := cs0.map V.int) (fun i H' => Same H1 H' ∧ ∃ acc : List Int, H' l = some (.lst (acc.map V.int)) ∧ acc.length = i ∧ ∀ x ∈ acc, 0 ≤ x) ⟨same_new nl, [], upd_same, rfl, fun _ h => by simp at h⟩ (fun i H' _ hP => sql_of (hP.1 _ _ es0)) (fun i x H' hi hP => ?_) fun H' hP => ?_
  · obtain ⟨sm1, acc, el, rfl, hacc⟩ := hP
    obtain ⟨k, hk, rfl⟩ : ∃ k, cs0[acc.length]? = some k ∧ V.int k = x := by
      rw [List.getElem?_map] at hi
      cases e : cs0[acc.length]? with
      | none =>
        rw [e] at hi
        cases hi
      | some k =>
        rw [e] at hi
        exact ⟨k, rfl, Option.some.inj hi⟩
    have hlt : acc.length < cs0.length := (List.getElem?_eq_some_iff.mp hk).1
    refine ⟨rfl, hmp, acc.map V.int, el, by rw [List.length_map]; exact small1000 (by omega), same_mut sm1 nl, acc ++ [(if k < 0 then -k else k) % mo], ?_, by rw [List.length_append, List.length_singleton], fun x hx => ?_⟩
    · rw [upd_same, List.map_append]
      rfl
    · rcases List.mem_append.mp hx with hx | hx
      · exact hacc x hx
      · rw [List.mem_singleton.mp hx]
        exact Int.emod_nonneg _ (by omega)
  obtain ⟨sm1, acc, el, hal, hacc⟩ := hP
  rw [List.length_map] at hal
  -- the mixed number
  refine ⟨wide_mul (a := 13) (b := 17) (by decide) (by omega) (by decide) (by decide) (by decide), ?_⟩
  refine ⟨l, rfl, ⟨_, sql_of el⟩, for_list (K := K) (a := l) (xs := acc.map V.int) (fun i σ H2 => ∃ mix y5, σ = [some (.ref a), some (.int salt), some (.int mo), some (.ref l), some (.int mix), y5] ∧ H2 = H' ∧ 0 ≤ mix ∧ mix < 2147483647) ⟨70001 + 7919 * salt, none, rfl, rfl, by omega, by omega⟩ (fun i σ H2 _ hP => by obtain ⟨_, _, _, rfl, _⟩ := hP; exact sql_of el) (fun i x σ H2 hi hP => ?_) fun σ H2 hP => ?_⟩
  · obtain ⟨mix, y5, rfl, rfl, m0, m1⟩ := hP
    obtain ⟨k, rfl⟩ : ∃ k, V.int k = x := by
      obtain ⟨k, _, e⟩ := List.mem_map.mp (List.mem_of_getElem? hi)
      exact ⟨k, e⟩
    refine ⟨wide_mul (a := 31) (b := 17) (by omega) (by decide) (by decide) (by decide) (by decide), by decide, by decide, ?_⟩
    exact ⟨_, some (.int k), rfl, rfl, Int.emod_nonneg _ (by decide), Int.emod_lt_of_pos _ (by decide)⟩
  obtain ⟨mix, y5, rfl, rfl, m0, m1⟩ := hP
  -- the great cells
  refine ⟨l, rfl, ⟨_, sql_of el⟩, fun g ng => lc_list (K := K) (a := l) (xs := acc.map V.int) (fun i H3 => Same H2 H3 ∧ ∃ gs : List Int, H3 g = some (.lst (gs.map V.int)) ∧ gs.length ≤ i ∧ ∀ x ∈ gs, 0 ≤ x) ⟨same_new ng, [], upd_same, Nat.le_refl _, fun _ h => by simp at h⟩ (fun i H3 _ hP => sql_of (hP.1 _ _ el)) (fun i x H3 hi hP => ?_) fun H3 hP => ?_⟩
  · obtain ⟨sm3, gs, eg, hgl, hgs⟩ := hP
    obtain ⟨k, hk, rfl⟩ : ∃ k, k ∈ acc ∧ V.int k = x := by
      obtain ⟨k, hk, e⟩ := List.mem_map.mp (List.mem_of_getElem? hi)
      exact ⟨k, hk, e⟩
    have hil : i < acc.length := by
      have := (List.getElem?_eq_some_iff.mp hi).1
      rwa [List.length_map] at this
    refine ⟨rfl, cpow (by decide) (by decide) (by decide), iteD (fun _ => ?_) fun _ => ⟨sm3, gs, eg, by omega, hgs⟩⟩
    refine ⟨gs.map V.int, eg, by rw [List.length_map]; exact small1000 (by omega), same_mut sm3 ng, gs ++ [k], ?_, by rw [List.length_append, List.length_singleton]; omega, fun y hy => ?_⟩
    · rw [upd_same, List.map_append]
      rfl
    · rcases List.mem_append.mp hy with hy | hy
      · exact hgs y hy
      · rw [List.mem_singleton.mp hy]
        exact hacc k hk
  obtain ⟨sm3, gs, eg, hgl, hgs⟩ := hP
  rw [List.length_map] at hgl
  refine ⟨g, _, rfl, sql_of eg, fun c nc => ⟨by show 2 ≤ sizeLine; decide, fun d nd => ?_⟩⟩
  have er : (gs.map V.int).reverse = gs.reverse.map V.int := by rw [List.map_reverse]
  rw [er] at nd ⊢
  have s03 : Same H H3 := sm0.trans (sm1.trans sm3)
  have s04 := s03.trans (same_new (o := .lst (gs.reverse.map V.int)) nc)
  have hcd : c ≠ d := ne_of_none upd_same nd
  refine q _ d c gs.reverse mix (s04.trans (same_new nd)) (s04.free nd) (s03.free nc) hcd upd_same ?_ (by rw [List.length_reverse]; omega) (fun x hx => hgs x (List.mem_reverse.mp hx)) m0 m1
  rw [upd_ne hcd]
  exact upd_same
end
end LH
/-! Plain mathematics of octets: figures to the base 128, sums, texts. -/
namespace Oct
open PySem
/-- a number's figures to the base 128, the least first, 128 more in each but the last -/
def octs (n : Int) : List Int := if n < 128 then [n] else (128 + n % 128) :: octs (n / 128)
termination_by n.toNat
decreasing_by omega
theorem octs_lt {n : Int} (h : n < 128) : octs n = [n] := by rw [octs, if_pos h]
theorem octs_ge {n : Int} (h : ¬ n < 128) : octs n = (128 + n % 128) :: octs (n / 128) := by rw [octs, if_neg h]
theorem octs_len : ∀ (k : Nat) (n : Int), n < 128 ^ (k + 1) → (octs n).length ≤ k + 1
  | 0, n, h => by
    rw [octs_lt (by simpa using h)]
    simp
  | k + 1, n, h => by
    by_cases h1 : n < 128
    · rw [octs_lt h1]
      simp
    · rw [octs_ge h1, List.length_cons]
      have e : (128 : Int) ^ (k + 1 + 1) = 128 ^ (k + 1) * 128 := Int.pow_succ _ _
      have := octs_len k (n / 128) (by rw [e] at h; exact Int.ediv_lt_of_lt_mul (by decide) h)
      omega
theorem octs_range : ∀ (k : Nat) (n : Int), n.toNat ≤ k → 0 ≤ n → ∀ x ∈ octs n, 0 ≤ x ∧ x < 256
  | 0, n, hk, h0, x, hx => by
    rw [octs_lt (by omega)] at hx
    rw [List.mem_singleton.mp hx]
    omega
  | k + 1, n, hk, h0, x, hx => by
    by_cases h1 : n < 128
    · rw [octs_lt h1] at hx
      rw [List.mem_singleton.mp hx]
      omega
    · rw [octs_ge h1] at hx
      rcases List.mem_cons.mp hx with rfl | hx
      · omega
      · exact octs_range k (n / 128) (by omega) (by omega) x hx
/-- the worth of figures to a base -/
def valB (b : Int) : List Int → Int
  | [] => 0
  | x :: r => x + b * valB b r
abbrev val : List Int → Int := valB 128
theorem valB_snoc (b : Int) : ∀ (l : List Int) (x : Int), valB b (l ++ [x]) = valB b l + b ^ l.length * x
  | [], x => by simp [valB]
  | y :: l, x => by
    show y + b * valB b (l ++ [x]) = y + b * valB b l + b ^ (l.length + 1) * x
    rw [valB_snoc b l x, Int.mul_add, Int.pow_succ, Int.mul_comm (b ^ l.length) b, Int.mul_assoc, Int.add_assoc]
theorem valB_nonneg {b : Int} (hb : 0 ≤ b) : ∀ {l : List Int}, (∀ x ∈ l, 0 ≤ x) → 0 ≤ valB b l
  | [], _ => by simp [valB]
  | y :: l, h => by
    have h1 := h y (List.mem_cons_self ..)
    have h2 := Int.mul_nonneg hb (valB_nonneg hb (l := l) fun x hx => h x (List.mem_cons_of_mem _ hx))
    show 0 ≤ y + b * valB b l
    omega
/-- neighbours put together -/
def step (b : Int) : List Int → List Int
  | [] => []
  | [x] => [x]
  | x :: y :: r => (x + b * y) :: step b r
theorem step_val (b : Int) : ∀ (l : List Int), valB (b * b) (step b l) = valB b l
  | [] => rfl
  | [x] => by simp [step, valB]
  | x :: y :: r => by
    show x + b * y + b * b * valB (b * b) (step b r) = x + b * (y + b * valB b r)
    rw [step_val b r, Int.mul_add, Int.mul_assoc, Int.add_assoc]
theorem step_len (b : Int) : ∀ (l : List Int), (step b l).length = (l.length + 1) / 2
  | [] => rfl
  | [x] => by simp [step]
  | x :: y :: r => by
    show (step b r).length + 1 = (r.length + 1 + 1 + 1) / 2
    rw [step_len b r]
    omega
theorem step_get (b : Int) : ∀ (l : List Int) (i : Nat) (x y : Int), l[2 * i]? = some x → l[2 * i + 1]? = some y → (step b l)[i]? = some (x + b * y)
  | [], i, x, y, h, _ => by simp at h
  | [z], i, x, y, _, h => by simp at h
  | u :: v :: r, 0, x, y, h1, h2 => by
    have e1 : u = x := Option.some.inj h1
    have e2 : v = y := Option.some.inj h2
    rw [← e1, ← e2]
    rfl
  | u :: v :: r, i + 1, x, y, h1, h2 => by
    have e1 : r[2 * i]? = some x := h1
    have e2 : r[2 * i + 1]? = some y := h2
    exact step_get b r i x y e1 e2
theorem step_odd (b : Int) : ∀ (l : List Int) (i : Nat) (x : Int), l.length = 2 * i + 1 → l[2 * i]? = some x → (step b l)[i]? = some x
  | [], i, x, h, _ => by simp at h
  | [z], i, x, h, g => by
    have : i = 0 := by simp at h; omega
    subst this
    exact g
  | u :: v :: r, 0, x, h, _ => by simp at h
  | u :: v :: r, i + 1, x, h, g => by
    have e : r[2 * i]? = some x := g
    exact step_odd b r i x (by simp at h; omega) e
theorem step_bound {b : Int} (hb : 0 < b) : ∀ {l : List Int}, (∀ x ∈ l, 0 ≤ x ∧ x < b) → ∀ x ∈ step b l, 0 ≤ x ∧ x < b * b
  | [], _, x, hx => by simp [step] at hx
  | [y], h, x, hx => by
    have e : x = y := List.mem_singleton.mp hx
    subst e
    have h1 := h x (List.mem_cons_self ..)
    have h2 : b * 1 ≤ b * b := Int.mul_le_mul_of_nonneg_left (by omega) (by omega)
    omega
  | u :: v :: r, h, x, hx => by
    rcases List.mem_cons.mp (show x ∈ (u + b * v) :: step b r from hx) with rfl | hx
    · have h1 := h u (List.mem_cons_self ..)
      have h2 := h v (List.mem_cons_of_mem _ (List.mem_cons_self ..))
      have h3 := Int.mul_nonneg (show 0 ≤ b by omega) h2.1
      have h4 : b * v ≤ b * (b - 1) := Int.mul_le_mul_of_nonneg_left (by omega) (by omega)
      rw [Int.mul_sub] at h4
      omega
    · exact step_bound hb (fun z hz => h z (List.mem_cons_of_mem _ (List.mem_cons_of_mem _ hz))) x hx
/-- the first of a row that is below 128 -/
def fidx : List Int → Option Nat
  | [] => none
  | x :: r => if x < 128 then some 0 else (fidx r).map (· + 1)
theorem fidx_some : ∀ {l : List Int} {j : Nat}, fidx l = some j → j < l.length ∧ (∀ x, l[j]? = some x → x < 128) ∧ ∀ (i : Nat) (x : Int), i < j → l[i]? = some x → ¬ x < 128
  | [], j, h => by simp [fidx] at h
  | y :: r, j, h => by
    unfold fidx at h
    by_cases hy : y < 128
    · rw [if_pos hy] at h
      have e : 0 = j := Option.some.inj h
      subst e
      exact ⟨by simp, fun x hx => by
        have : y = x := Option.some.inj hx
        omega, fun i x hi => by omega⟩
    · rw [if_neg hy] at h
      cases e : fidx r with
      | none =>
        rw [e] at h
        cases h
      | some k =>
        rw [e] at h
        have ej : k + 1 = j := Option.some.inj h
        subst ej
        obtain ⟨h1, h2, h3⟩ := fidx_some e
        refine ⟨by simp; omega, fun x hx => h2 x hx, fun i x hi hx => ?_⟩
        cases i with
        | zero =>
          have : y = x := Option.some.inj hx
          omega
        | succ i => exact h3 i x (by omega) hx
theorem fidx_none : ∀ {l : List Int}, fidx l = none → ∀ (i : Nat) (x : Int), l[i]? = some x → ¬ x < 128
  | [], _, i, x, hx => by simp at hx
  | y :: r, h, i, x, hx => by
    unfold fidx at h
    by_cases hy : y < 128
    · rw [if_pos hy] at h
      cases h
    · rw [if_neg hy] at h
      cases e : fidx r with
      | none =>
        cases i with
        | zero =>
          have : y = x := Option.some.inj hx
          omega
        | succ i => exact fidx_none e i x hx
      | some k =>
        rw [e] at h
        cases h
theorem fidx_of : ∀ {l : List Int} {j : Nat} {x : Int}, l[j]? = some x → x < 128 → (∀ (i : Nat) (y : Int), i < j → l[i]? = some y → ¬ y < 128) → fidx l = some j
  | [], j, x, h, _, _ => by simp at h
  | y :: r, 0, x, h, hx, _ => by
    have : y = x := Option.some.inj h
    subst this
    unfold fidx
    rw [if_pos hx]
  | y :: r, j + 1, x, h, hx, hl => by
    unfold fidx
    rw [if_neg (hl 0 y (by omega) rfl), fidx_of (l := r) (j := j) h hx fun i z hi hz => hl (i + 1) z (by omega) hz]
    rfl
theorem fidx_no : ∀ {l : List Int}, (∀ (i : Nat) (x : Int), l[i]? = some x → ¬ x < 128) → fidx l = none
  | [], _ => rfl
  | y :: r, h => by
    unfold fidx
    rw [if_neg (h 0 y rfl), fidx_no (l := r) fun i x hx => h (i + 1) x hx]
    rfl
/-- the number whose octets stand from a place on and the place behind it -/
def numAt (os : List Int) (pl : Int) : Option (Int × Nat) :=
  if pl < 0 then none else match fidx (os.drop pl.toNat) with
    | none => none
    | some j => if 0 < j ∧ os.getD (pl.toNat + j) 0 = 0 then none else some (val (((os.drop pl.toNat).take j).map (· - 128) ++ [os.getD (pl.toNat + j) 0]), pl.toNat + j + 1)
theorem numAt_end {os : List Int} {pl n : Int} {e : Nat} (h : numAt os pl = some (n, e)) : e ≤ os.length ∧ 0 ≤ pl ∧ pl.toNat < e := by
  unfold numAt at h
  by_cases h0 : pl < 0
  · rw [if_pos h0] at h
    cases h
  · rw [if_neg h0] at h
    cases q : fidx (os.drop pl.toNat) with
    | none =>
      rw [q] at h
      cases h
    | some j =>
      rw [q] at h
      have hj := (fidx_some q).1
      rw [List.length_drop] at hj
      by_cases hc : 0 < j ∧ os.getD (pl.toNat + j) 0 = 0
      · simp only [if_pos hc] at h
        cases h
      · simp only [if_neg hc, Option.some.injEq, Prod.mk.injEq] at h
        omega
theorem numAt_pos {os : List Int} (ho : ∀ x ∈ os, 0 ≤ x) {pl n : Int} {e : Nat} (h : numAt os pl = some (n, e)) : 0 ≤ n := by
  unfold numAt at h
  by_cases h0 : pl < 0
  · rw [if_pos h0] at h
    cases h
  · rw [if_neg h0] at h
    cases q : fidx (os.drop pl.toNat) with
    | none =>
      rw [q] at h
      cases h
    | some j =>
      rw [q] at h
      obtain ⟨hj, _, h3⟩ := fidx_some q
      rw [List.length_drop] at hj
      by_cases hc : 0 < j ∧ os.getD (pl.toNat + j) 0 = 0
      · simp only [if_pos hc] at h
        cases h
      · simp only [if_neg hc, Option.some.injEq, Prod.mk.injEq] at h
        rw [← h.1]
        refine valB_nonneg (by decide) fun x hx => ?_
        rcases List.mem_append.mp hx with hx | hx
        · obtain ⟨y, hy, rfl⟩ := List.mem_map.mp hx
          obtain ⟨i, hi, e⟩ := List.mem_iff_getElem.mp hy
          have hi2 : i < j := by
            rw [List.length_take] at hi
            omega
          have g : (os.drop pl.toNat)[i]? = some y := by
            rw [List.getElem_take] at e
            rw [← e]
            exact List.getElem?_eq_getElem _
          have := h3 i y hi2 g
          omega
        · rw [List.mem_singleton.mp hx]
          by_cases hl : pl.toNat + j < os.length
          · rw [List.getD_eq_getElem?_getD, List.getElem?_eq_getElem hl]
            exact ho _ (List.getElem_mem hl)
          · omega
/-- the octets of a number are read again -/
theorem numAt_octs : ∀ (k : Nat) (n : Int), n.toNat ≤ k → 0 ≤ n → ∀ (behind : List Int), fidx (octs n ++ behind) = some ((octs n).length - 1) ∧ 1 ≤ (octs n).length ∧
    (1 < (octs n).length → (octs n).getD ((octs n).length - 1) 0 ≠ 0) ∧ val (((octs n).take ((octs n).length - 1)).map (· - 128) ++ [(octs n).getD ((octs n).length - 1) 0]) = n
  | 0, n, hk, h0, bh => by
    rw [octs_lt (show n < 128 by omega)]
    refine ⟨?_, by simp, by simp, by simp [val, valB]⟩
    show (if n < 128 then some 0 else _) = some 0
    rw [if_pos (by omega)]
  | k + 1, n, hk, h0, bh => by
    by_cases h1 : n < 128
    · rw [octs_lt h1]
      refine ⟨?_, by simp, by simp, by simp [val, valB]⟩
      show (if n < 128 then some 0 else _) = some 0
      rw [if_pos h1]
    · obtain ⟨a, b, c, d⟩ := numAt_octs k (n / 128) (by omega) (by omega) bh
      rw [octs_ge h1]
      obtain ⟨m, hm⟩ : ∃ m, (octs (n / 128)).length = m + 1 := ⟨(octs (n / 128)).length - 1, by omega⟩
      rw [hm] at a c d
      refine ⟨?_, by simp, fun _ => ?_, ?_⟩
      · show (if 128 + n % 128 < 128 then some 0 else (fidx (octs (n / 128) ++ bh)).map (· + 1)) = _
        rw [if_neg (by omega), a, List.length_cons, hm]
        rfl
      · rw [List.length_cons, hm]
        show (octs (n / 128)).getD m 0 ≠ 0
        by_cases h2 : m = 0
        · subst h2
          have h3 : n / 128 < 128 := by
            by_cases h4 : n / 128 < 128
            · exact h4
            · rw [octs_ge h4] at hm
              have := (numAt_octs k (n / 128 / 128) (by omega) (by omega) []).2.1
              simp at hm
              rw [hm] at this
              simp at this
          rw [octs_lt h3]
          show n / 128 ≠ 0
          omega
        · exact c (by omega)
      · rw [List.length_cons, hm]
        show (128 + n % 128 - 128) + 128 * val (((octs (n / 128)).take m).map (· - 128) ++ [(octs (n / 128)).getD m 0]) = n
        have d' : val (((octs (n / 128)).take m).map (· - 128) ++ [(octs (n / 128)).getD m 0]) = n / 128 := d
        rw [d']
        omega
theorem numAt_mid (ahead behind : List Int) {n : Int} (h0 : 0 ≤ n) : numAt (ahead ++ octs n ++ behind) ahead.length = some (n, ahead.length + (octs n).length) := by
  obtain ⟨a, b, c, d⟩ := numAt_octs n.toNat n (Nat.le_refl _) h0 behind
  obtain ⟨m, hm⟩ : ∃ m, (octs n).length = m + 1 := ⟨(octs n).length - 1, by omega⟩
  rw [hm] at a c d
  have a' : fidx (octs n ++ behind) = some m := a
  have e1 : (ahead ++ octs n ++ behind).drop ahead.length = octs n ++ behind := by
    rw [List.append_assoc, List.drop_left]
  have e2 : (ahead ++ octs n ++ behind).getD (ahead.length + m) 0 = (octs n).getD m 0 := by
    rw [List.append_assoc, List.getD_eq_getElem?_getD, List.getElem?_append_right (by omega), Nat.add_sub_cancel_left, List.getElem?_append_left (by omega), ← List.getD_eq_getElem?_getD]
  have e3 : (octs n ++ behind).take m = (octs n).take m := by
    rw [List.take_append_of_le_length (by omega)]
  unfold numAt
  rw [if_neg (by omega), Int.toNat_natCast, e1, a']
  show (if 0 < m ∧ (ahead ++ octs n ++ behind).getD (ahead.length + m) 0 = 0 then none else some (val (((octs n ++ behind).take m).map (· - 128) ++ [(ahead ++ octs n ++ behind).getD (ahead.length + m) 0]), ahead.length + m + 1)) = _
  rw [e2, e3, if_neg (fun h => c (by omega) h.2), hm]
  have d' : val (((octs n).take m).map (· - 128) ++ [(octs n).getD m 0]) = n := d
  rw [d']
  rfl
end Oct
namespace Oct
open PySem
/-- the sign of a code -/
def sgn (o : Int) : Option Nat := if o = 10 then some 10 else if o < 32 ∨ 127 ≤ o ∨ o = 37 then none else some o.toNat
/-- signs one by one, if all are -/
def sgns : List Int → Option (List Nat)
  | [] => some []
  | o :: r => match sgn o, sgns r with
    | some c, some cs => some (c :: cs)
    | _, _ => none
theorem sgns_all : ∀ {l : List Int} {cs : List Nat}, sgns l = some cs → l.map sgn = cs.map some
  | [], cs, h => by
    have e : ([] : List Nat) = cs := Option.some.inj h
    rw [← e]
    rfl
  | o :: r, cs, h => by
    unfold sgns at h
    cases h1 : sgn o with
    | none =>
      rw [h1] at h
      cases h
    | some c =>
      cases h2 : sgns r with
      | none =>
        rw [h1, h2] at h
        cases h
      | some ds =>
        rw [h1, h2] at h
        have e : c :: ds = cs := Option.some.inj h
        rw [← e, List.map_cons, h1, sgns_all h2]
        rfl
theorem sgns_none : ∀ {l : List Int}, sgns l = none → ∃ o ∈ l, sgn o = none
  | [], h => by cases h
  | o :: r, h => by
    unfold sgns at h
    cases h1 : sgn o with
    | none => exact ⟨o, List.mem_cons_self .., h1⟩
    | some c =>
      cases h2 : sgns r with
      | none =>
        obtain ⟨x, hx, e⟩ := sgns_none h2
        exact ⟨x, List.mem_cons_of_mem _ hx, e⟩
      | some ds =>
        rw [h1, h2] at h
        cases h
theorem sgns_mem : ∀ {l : List Int} {cs : List Nat}, sgns l = some cs → ∀ o ∈ l, sgn o ≠ none
  | [], _, _, o, ho => by simp at ho
  | x :: r, cs, h, o, ho => by
    unfold sgns at h
    cases h1 : sgn x with
    | none =>
      rw [h1] at h
      cases h
    | some c =>
      cases h2 : sgns r with
      | none =>
        rw [h1, h2] at h
        cases h
      | some ds =>
        rcases List.mem_cons.mp ho with rfl | ho
        · rw [h1]
          exact fun z => nomatch z
        · exact sgns_mem h2 o ho
theorem sgn_code {o : Int} {c : Nat} (h0 : 0 ≤ o) (h : sgn o = some c) : (c : Int) = o := by
  unfold sgn at h
  by_cases h1 : o = 10
  · rw [if_pos h1] at h
    have := Option.some.inj h
    omega
  · rw [if_neg h1] at h
    by_cases h2 : o < 32 ∨ 127 ≤ o ∨ o = 37
    · rw [if_pos h2] at h
      cases h
    · rw [if_neg h2] at h
      have := Option.some.inj h
      omega
/-- the text whose octets stand from a place on and the place behind it -/
def txtAt (os : List Int) (pl : Int) : Option (List Nat × Nat) := match numAt os pl with
  | none => none
  | some (n, e) => if (os.length : Int) - e < n then none else match sgns ((os.drop e).take n.toNat) with
    | none => none
    | some cs => some (cs, e + n.toNat)
/-- a text's octets are read again -/
theorem sgns_codes : ∀ {cs : List Nat}, (∀ c ∈ cs, sgn (c : Int) = some c) → sgns (cs.map fun c : Nat => (c : Int)) = some cs
  | [], _ => rfl
  | c :: cs, h => by
    show (match sgn (c : Int), sgns (cs.map fun c : Nat => (c : Int)) with
      | some c, some cs => some (c :: cs)
      | _, _ => none) = some (c :: cs)
    rw [h c (List.mem_cons_self ..), sgns_codes fun x hx => h x (List.mem_cons_of_mem _ hx)]
def body (cs : List Nat) : List Int := octs (cs.length : Int) ++ cs.map fun c : Nat => (c : Int)
theorem txtAt_mid (ahead behind : List Int) {cs : List Nat} (h : ∀ c ∈ cs, sgn (c : Int) = some c) : txtAt (ahead ++ body cs ++ behind) ahead.length = some (cs, ahead.length + (body cs).length) := by
  have e1 : ahead ++ body cs ++ behind = ahead ++ octs (cs.length : Int) ++ ((cs.map fun c : Nat => (c : Int)) ++ behind) := by
    unfold body
    simp only [List.append_assoc]
  have e2 := numAt_mid ahead ((cs.map fun c : Nat => (c : Int)) ++ behind) (n := (cs.length : Int)) (by omega)
  have e3 : ((ahead ++ octs (cs.length : Int) ++ ((cs.map fun c : Nat => (c : Int)) ++ behind)).drop (ahead.length + (octs (cs.length : Int)).length)).take cs.length = cs.map fun c : Nat => (c : Int) := by
    rw [← List.length_append, List.drop_left, List.take_append_of_le_length (by simp), List.take_of_length_le (by simp)]
  have e4 : (body cs).length = (octs (cs.length : Int)).length + cs.length := by
    unfold body
    simp
  unfold txtAt
  rw [e1, e2]
  show (if ((ahead ++ octs (cs.length : Int) ++ ((cs.map fun c : Nat => (c : Int)) ++ behind)).length : Int) - (ahead.length + (octs (cs.length : Int)).length : Nat) < (cs.length : Int) then none else match sgns (((ahead ++ octs (cs.length : Int) ++ ((cs.map fun c : Nat => (c : Int)) ++ behind)).drop (ahead.length + (octs (cs.length : Int)).length)).take ((cs.length : Int)).toNat) with
    | none => none
    | some ds => some (ds, ahead.length + (octs (cs.length : Int)).length + ((cs.length : Int)).toNat)) = _
  rw [if_neg (by simp only [List.length_append, List.length_map]; omega), Int.toNat_natCast, e3, sgns_codes h, e4]
  show some (cs, ahead.length + (octs (cs.length : Int)).length + cs.length) = _
  rw [Nat.add_assoc]
theorem txtAt_end {os : List Int} {pl : Int} {cs : List Nat} {e : Nat} (h : txtAt os pl = some (cs, e)) : cs.length ≤ os.length := by
  unfold txtAt at h
  cases q : numAt os pl with
  | none =>
    rw [q] at h
    cases h
  | some ne =>
    obtain ⟨n, f⟩ := ne
    rw [q] at h
    by_cases hc : (os.length : Int) - f < n
    · simp only [if_pos hc] at h
      cases h
    · simp only [if_neg hc] at h
      cases q2 : sgns ((os.drop f).take n.toNat) with
      | none =>
        rw [q2] at h
        cases h
      | some ds =>
        rw [q2] at h
        have e1 : (ds, f + n.toNat) = (cs, e) := Option.some.inj h
        have e2 : ds = cs := congrArg Prod.fst e1
        have e3 := congrArg List.length (sgns_all q2)
        rw [List.length_map, List.length_map, List.length_take, List.length_drop] at e3
        rw [← e2]
        omega
/-- each octet times its place -/
def prods (os : List Int) : List Int := (List.range os.length).map fun i => os.getD i 0 * ((i : Int) + 1)
theorem prods_len (os : List Int) : (prods os).length = os.length := by simp [prods]
theorem prods_get {os : List Int} {i : Nat} {x : Int} (h : os[i]? = some x) : (prods os)[i]? = some (x * ((i : Int) + 1)) := by
  have hi := (List.getElem?_eq_some_iff.mp h).1
  unfold prods
  rw [List.getElem?_map, List.getElem?_range hi]
  show some (os.getD i 0 * ((i : Int) + 1)) = _
  rw [List.getD_eq_getElem?_getD, h]
  rfl
theorem prods_same (c : Int) : ∀ n : Nat, ((List.range n).map fun i : Nat => c * ((i : Int) + 1)).sum * 2 = c * ((n : Int) * ((n : Int) + 1))
  | 0 => by simp
  | n + 1 => by
    rw [List.range_succ, List.map_append, List.sum_append, Int.add_mul, prods_same c n]
    simp only [List.map_cons, List.map_nil, List.sum_cons, List.sum_nil, Int.add_zero]
    rw [Int.mul_assoc, ← Int.mul_add]
    congr 1
    have e : ((n + 1 : Nat) : Int) = (n : Int) + 1 := by omega
    rw [e]
    generalize (n : Int) = m
    rw [Int.mul_add (m + 1) (m + 1) 1, Int.add_mul m 1 (m + 1)]
    omega
theorem prods_rep (c : Int) (n : Nat) : (prods (List.replicate n c)).sum * 2 = c * ((n : Int) * ((n : Int) + 1)) := by
  rw [← prods_same c n]
  unfold prods
  rw [List.length_replicate]
  congr 2
  apply List.map_congr_left
  intro i hi
  have hi2 := List.mem_range.mp hi
  rw [List.getD_eq_getElem?_getD, List.getElem?_replicate, if_pos hi2]
  rfl
end Oct
/-! Octets: what each def promises; the defs' readings keep it. -/
namespace LO
open PySem PySem.Spec PyProof.Rows L2 Kx LH Oct
def TI (K : PySem.W.Frag) (H : Hp) (v : V) (ns : List Int) : Prop := ∃ a, v = .ref a ∧ SqT K H a (ns.map V.int)
theorem TI.same {K : PySem.W.Frag} {H H' : Hp} {v : V} {ns : List Int} (s : Same H H') (h : TI K H v ns) : TI K H' v ns := let ⟨a, e, t⟩ := h; ⟨a, e, Same.sqt s t⟩
def Ok8 (os : List Int) : Prop := ∀ x ∈ os, 0 ≤ x ∧ x < 256
def sgV : Option Nat → V
  | none => .non
  | some c => .str ⟨#[c]⟩
def NumV (H : Hp) (v : V) : Option (Int × Nat) → Prop
  | none => v = .non
  | some (n, e) => ∃ p, v = .ref p ∧ H p = some (.tup [.int n, .int (e : Nat)])
def TxtV (H : Hp) (v : V) : Option (List Nat × Nat) → Prop
  | none => v = .non
  | some (cs, e) => ∃ p, v = .ref p ∧ H p = some (.tup [.str (SX.S cs), .int (e : Nat)])
def signs95 : Str := " !\"#$&'()*+,-./0123456789:;<=>?@ABCDEFGHIJKLMNOPQRSTUVWXYZ[\\]^_`abcdefghijklmnopqrstuvwxyz{|}~\n"
/-! ### promises -/
def sp_octets_of_number (K : PySem.W.Frag) : Sp := fun vs H Q _ => ∃ n : Int, vs = [.int n] ∧ 0 ≤ n ∧ (octs n).length ≤ 50000 ∧ ∀ p H', Same H H' → H p = none → H' p = some (.tup ((octs n).map V.int)) → Q (.ref p) H'
def sp_number_octets := sp_octets_of_number
def sp_octets_of_text (K : PySem.W.Frag) : Sp := fun vs H Q _ => ∃ cs : List Nat, vs = [.str (SX.S cs)] ∧ cs.length ≤ 20000 ∧ ∀ v H', Same H H' → TI K H' v (body cs) → Q v H'
def sp_text_octets := sp_octets_of_text
def sp_number_of (K : PySem.W.Frag) : Sp := fun vs H Q _ => ∃ (a : Addr) (fs : List Int), vs = [.ref a] ∧ SqL K H a (fs.map V.int) ∧ fs ≠ [] ∧ fs.length ≤ 20000 ∧ (∀ f ∈ fs, 0 ≤ f ∧ f < 128) ∧ ∀ H', Same H H' → Q (.int (val fs)) H'
def sp_behind_number (K : PySem.W.Frag) : Sp := fun vs H Q _ => ∃ (t : V) (os : List Int) (pl : Int), vs = [t, .int pl] ∧ TI K H t os ∧ os.length ≤ 100000 ∧ -(2 ^ 62) ≤ pl ∧ pl < 2 ^ 62 ∧
  Q (if pl < 0 then .non else match fidx (os.drop pl.toNat) with | none => .non | some j => .int ((pl.toNat + j : Nat) + 1)) H
def sp_number_in (K : PySem.W.Frag) : Sp := fun vs H Q _ => ∃ (t : V) (os : List Int) (pl : Int), vs = [t, .int pl] ∧ TI K H t os ∧ os.length ≤ 19000 ∧ Ok8 os ∧ -(2 ^ 62) ≤ pl ∧ pl < 2 ^ 62 ∧ ∀ v H', Same H H' → NumV H' v (numAt os pl) → Q v H'
def sp_read_number := sp_number_in
def sp_sign_of (K : PySem.W.Frag) : Sp := fun vs H Q _ => ∃ o : Int, vs = [.int o] ∧ 0 ≤ o ∧ Q (sgV (sgn o)) H
def sp_text_in (K : PySem.W.Frag) : Sp := fun vs H Q _ => ∃ (t : V) (os : List Int) (pl : Int), vs = [t, .int pl] ∧ TI K H t os ∧ os.length ≤ 19000 ∧ Ok8 os ∧ -(2 ^ 62) ≤ pl ∧ pl < 2 ^ 62 ∧ ∀ v H', Same H H' → TxtV H' v (txtAt os pl) → Q v H'
def sp_read_text := sp_text_in
def sp_sum_of_octets (K : PySem.W.Frag) : Sp := fun vs H Q _ => ∃ (t : V) (os : List Int), vs = [t] ∧ TI K H t os ∧ os.length ≤ 100000 ∧ Ok8 os ∧ ∀ H', Same H H' → Q (.int ((prods os).sum % 65521)) H'
def sp__law_number_octets (K : PySem.W.Frag) : Sp := fun vs H Q _ => ∃ n : Int, vs = [.int n] ∧ 0 ≤ n ∧ (octs n).length ≤ 50000 ∧ ∀ p H', Same H H' → H p = none → H' p = some (.lst ((octs n).map V.int)) → Q (.ref p) H'
def sp__law_sum (K : PySem.W.Frag) : Sp := fun vs H Q _ => ∃ (a : Addr) (os : List Int), vs = [.ref a] ∧ SqL K H a (os.map V.int) ∧ os.length ≤ 90000 ∧ Ok8 os ∧ ∀ H', Same H H' → Q (.int ((prods os).sum % 65521)) H'
def sp__law_body (K : PySem.W.Frag) : Sp := fun vs H Q _ => ∃ cs : List Nat, vs = [.str (SX.S cs)] ∧ cs.length ≤ 20000 ∧ ∀ p H', Same H H' → H p = none → H' p = some (.lst ((body cs).map V.int)) → Q (.ref p) H'
def sp__law_signs (K : PySem.W.Frag) : Sp := fun vs H Q _ => vs = [] ∧ Q (.str signs95) H
def sp__law_octet (K : PySem.W.Frag) : Sp := fun vs H Q _ => ∃ (M : Addr → Prop) (d : Addr), vs = [.ref d] ∧ Wf M H ∧ Deal M H d ∧ ∀ r H', 0 ≤ r → r < 256 → Fr M H H' → Deal M H' d → Q (.int r) H'
def sp__law_number_at (K : PySem.W.Frag) : Sp := fun vs H Q _ => ∃ (a : Addr) (os : List Int) (pl : Int), vs = [.ref a, .int pl] ∧ SqL K H a (os.map V.int) ∧ os.length ≤ 19000 ∧ Ok8 os ∧ ∀ v H', Same H H' → NumV H' v (numAt os pl) → Q v H'
def sp__law_some_number (K : PySem.W.Frag) : Sp := fun vs H Q _ => ∃ (M : Addr → Prop) (d : Addr), vs = [.ref d] ∧ Wf M H ∧ Deal M H d ∧ ∀ n H', 0 ≤ n → n < 128 ^ 190 → Fr M H H' → Deal M H' d → Q (.int n) H'
def sp__law_some_text (K : PySem.W.Frag) : Sp := fun vs H Q _ => ∃ (M : Addr → Prop) (d : Addr), vs = [.ref d] ∧ Wf M H ∧ Deal M H d ∧ ∀ (cs : List Nat) H', (∀ c ∈ cs, c ∈ signs95.cps.toList) → cs.length ≤ 300 → Fr M H H' → Deal M H' d → Q (.str (SX.S cs)) H'
def sp__law_noise (K : PySem.W.Frag) : Sp := fun vs H Q _ => ∃ (M : Addr → Prop) (d : Addr) (m : Int), vs = [.ref d, .int m] ∧ Wf M H ∧ Deal M H d ∧ 0 < m ∧ m ≤ 1000 ∧
  ∀ (os : List Int) p H', Ok8 os → os.length ≤ m.toNat → Fr M H H' → Deal M H' d → H p = none → H' p = some (.lst (os.map V.int)) → Q (.ref p) H'
def sp__law_text_at (K : PySem.W.Frag) : Sp := fun vs H Q _ => ∃ (a : Addr) (os : List Int) (pl : Int), vs = [.ref a, .int pl] ∧ SqL K H a (os.map V.int) ∧ os.length ≤ 19000 ∧ Ok8 os ∧ ∀ v H', Same H H' → TxtV H' v (txtAt os pl) → Q v H'
abbrev N_octets_of_number : List Str := ["number", "found", "rest"]
abbrev N_octets_of_text : List Str := ["text", "sign"]
abbrev N_number_of : List Str := ["figures", "row", "base", "pairs", "at"]
abbrev N_behind_number : List Str := ["octets", "at", "place"]
abbrev N_number_in : List Str := ["octets", "at", "end", "figures", "octet"]
abbrev N_sign_of : List Str := ["octet"]
abbrev N_text_in : List Str := ["octets", "at", "told", "end", "signs", "octet"]
abbrev N_number_octets : List Str := ["number"]
abbrev N_text_octets : List Str := ["text"]
abbrev N_read_number : List Str := ["octets", "at"]
abbrev N_read_text : List Str := ["octets", "at"]
abbrev N_sum_of_octets : List Str := ["octets", "found", "at", "octet"]
abbrev N__law_number_octets : List Str := ["number", "found", "rest"]
abbrev N__law_sum : List Str := ["octets", "at"]
abbrev N__law_body : List Str := ["text", "sign"]
abbrev N__law_signs : List Str := []
abbrev N__law_octet : List Str := ["deal"]
abbrev N__law_number_at : List Str := ["octets", "at", "number", "base", "place"]
abbrev N__law_some_number : List Str := ["deal", "edge", "turn", "some"]
abbrev N__law_some_text : List Str := ["deal", "signs", "step", "start", "turn"]
abbrev N__law_noise : List Str := ["deal", "many", "turn"]
abbrev N__law_text_at : List Str := ["octets", "at", "told", "codes", "signs", "some", "sign", "octet"]
def t__law_number_octets (K : PySem.W.Frag) : TS :=
    (tSeq (tPar 1 2 (tCons (tLst tNil) (tCons (tV 0) tNil)))
    (tSeq (tWhile (tTM (tOp (qI2 fun i j => decide (j < i)) (tV 2) (tC (.int 127)))) (tSeq (tDrop (tApp (tV 1) (tOp qAdd (tOp qMod (tCB qInt (tCons (tV 2) tNil)) (tC (.int 128))) (tC (.int 128)))))
    (tAsg (tOp qDiv (tV 2) (tC (.int 128))) (gName 2))))
    (tRet (tOp rCat (tV 1) (tLst (tCons (tV 2) tNil))))))
def t__law_body (K : PySem.W.Frag) : TS :=
    (tRet (tOp rCat (tCall (sp__law_number_octets K) [] E0 (tCons (tCB (qLen K) (tCons (tV 0) tNil)) tNil)) (tLc (iStr (tV 0)) (gName 1) tYes (tCB qOrd (tCons (tV 1) tNil)) [1])))
def t__law_octet (K : PySem.W.Frag) : TS :=
    (tRet (tCall (sp__law_of K) [] E0 (tCons (tV 0) (tCons (tLst (tCons (tC (.int 0)) (tCons (tC (.int 1)) (tCons (tC (.int 127)) (tCons (tC (.int 128)) (tCons (tC (.int 255)) (tCons (tCall (sp__law_any K) [] E0 (tCons (tV 0) (tCons (tC (.int 256)) tNil))) (tCons (tCall (sp__law_any K) [] E0 (tCons (tV 0) (tCons (tC (.int 256)) tNil))) (tCons (tCall (sp__law_any K) [] E0 (tCons (tV 0) (tCons (tC (.int 128)) tNil))) tNil))))))))) tNil))))
def t__law_noise (K : PySem.W.Frag) : TS :=
    (tRet (tLc (iRng1 (tCons (tCall (sp__law_any K) [] E0 (tCons (tV 0) (tCons (tV 1) tNil))) tNil)) (gName 2) tYes (tCall (sp__law_octet K) [] E0 (tCons (tV 0) tNil)) [2]))
def t__law_number_at (K : PySem.W.Frag) : TS :=
    (tSeq (tPar3 2 3 4 (tCons (tC (.int 0)) (tCons (tC (.int 1)) (tCons (tV 1) tNil))))
    (tSeq (tIfS (tTM (tOp (qI2 fun i j => decide (i < j)) (tV 1) (tC (.int 0)))) (tRet (tC .non)) tNext)
    (tSeq (tWhile (tAnd (tTM (tOp (qI2 fun i j => decide (i < j)) (tV 4) (tCB (qLen K) (tCons (tV 0) tNil)))) (tTM (tOp (qI2 fun i j => decide (j < i)) (tOp (qIx K) (tV 0) (tV 4)) (tC (.int 127))))) (tPar3 2 3 4 (tCons (tOp qAdd (tV 2) (tOp qMulW (tV 3) (tOp qSub (tOp (qIx K) (tV 0) (tV 4)) (tC (.int 128))))) (tCons (tOp qMulW (tV 3) (tC (.int 128))) (tCons (tOp qAdd (tV 4) (tC (.int 1))) tNil)))))
    (tSeq (tIfS (tOr (tTM (tOp (qI2 fun i j => decide (j ≤ i)) (tV 4) (tCB (qLen K) (tCons (tV 0) tNil)))) (tAnd (tTM (tOp (qI2 fun i j => decide (j < i)) (tV 4) (tV 1))) (tTM (tOp qEqS (tOp (qIx K) (tV 0) (tV 4)) (tC (.int 0)))))) (tRet (tC .non)) tNext)
    (tRet (tTup (tCons (tOp qAdd (tV 2) (tOp qMulW (tV 3) (tOp (qIx K) (tV 0) (tV 4)))) (tCons (tOp qAdd (tV 4) (tC (.int 1))) tNil))))))))
def t__law_some_number (K : PySem.W.Frag) : TS :=
    (tSeq (tAsg (tOp qPow (tC (.int 128)) (tC (.int 9))) (gName 1))
    (tSeq (tFor (iRng1 (tCons (tCall (sp__law_any K) [] E0 (tCons (tV 0) (tCons (tC (.int 20)) tNil))) tNil)) (gName 2) (tAsg (tOp qMulW (tV 1) (tOp qPow (tC (.int 128)) (tC (.int 9)))) (gName 1)))
    (tSeq (tAsg (tLst (tCons (tC (.int 0)) (tCons (tC (.int 1)) (tCons (tC (.int 127)) (tCons (tC (.int 128)) (tCons (tC (.int 129)) (tCons (tC (.int 255)) (tCons (tC (.int 16383)) (tCons (tC (.int 16384)) (tCons (tC (.int 16385)) (tCons (tC (.int 2097151)) (tCons (tC (.int 2097152)) (tCons (tCall (sp__law_any K) [] E0 (tCons (tV 0) (tCons (tC (.int 128)) tNil))) (tCons (tCall (sp__law_any K) [] E0 (tCons (tV 0) (tCons (tC (.int 20000)) tNil))) (tCons (tCall (sp__law_wide K) [] E0 (tCons (tV 0) (tCons (tOp qPow (tC (.int 10)) (tC (.int 20))) tNil))) tNil))))))))))))))) (gName 3))
    (tRet (tCall (sp__law_of K) [] E0 (tCons (tV 0) (tCons (tOp rCat (tV 3) (tLst (tCons (tV 1) (tCons (tOp qSub (tV 1) (tC (.int 1))) (tCons (tOp qAdd (tV 1) (tC (.int 1))) (tCons (tOp qAdd (tOp qMulW (tV 1) (tC (.int 127))) (tCall (sp__law_wide K) [] E0 (tCons (tV 0) (tCons (tOp qPow (tC (.int 10)) (tC (.int 20))) tNil)))) (tCons (tOp qSub (tOp qPow (tC (.int 128)) (tC (.int 8))) (tC (.int 1))) (tCons (tOp qPow (tC (.int 128)) (tC (.int 8))) tNil)))))))) tNil)))))))
def t__law_signs (K : PySem.W.Frag) : TS :=
    (tRet (tC (.str " !\"#$&'()*+,-./0123456789:;<=>?@ABCDEFGHIJKLMNOPQRSTUVWXYZ[\\]^_`abcdefghijklmnopqrstuvwxyz{|}~\n")))
def t__law_some_text (K : PySem.W.Frag) : TS :=
    (tSeq (tAsg (tCall (sp__law_signs K) [] E0 tNil) (gName 1))
    (tSeq (tAsg (tTup (tCons (tCall (sp__law_of K) [] E0 (tCons (tV 0) (tCons (tLst (tCons (tC (.int 1)) (tCons (tC (.int 7)) (tCons (tC (.int 11)) (tCons (tC (.int 94)) tNil))))) tNil))) (tCons (tCall (sp__law_any K) [] E0 (tCons (tV 0) (tCons (tC (.int 95)) tNil))) tNil))) (gTup K 2 (gCons (gName 2) (gCons (gName 3) gNil))))
    (tSeq (tIfS (tTM (tOp qEqS (tCall (sp__law_any K) [] E0 (tCons (tV 0) (tCons (tC (.int 4)) tNil))) (tC (.int 0)))) (tRet (tM1 (qJoin K) (tC (.str "")) (tLc (iRng1 (tCons (tCall (sp__law_of K) [] E0 (tCons (tV 0) (tCons (tLst (tCons (tC (.int 0)) (tCons (tC (.int 1)) (tCons (tC (.int 95)) (tCons (tC (.int 127)) (tCons (tC (.int 128)) (tCons (tC (.int 129)) (tCons (tC (.int 300)) tNil)))))))) tNil))) tNil)) (gName 4) tYes (tOp (qIx K) (tV 1) (tOp qMod (tCB qInt (tCons (tOp qAdd (tV 3) (tOp qMul (tV 4) (tV 2))) tNil)) (tC (.int 95)))) [4]))) tNext)
    (tRet (tM1 (qJoin K) (tC (.str "")) (tLc (iRng1 (tCons (tCall (sp__law_of K) [] E0 (tCons (tV 0) (tCons (tLst (tCons (tC (.int 0)) (tCons (tC (.int 1)) (tCons (tC (.int 2)) (tCons (tC (.int 9)) (tCons (tC (.int 40)) tNil)))))) tNil))) tNil)) (gName 4) tYes (tCall (sp__law_of K) [] E0 (tCons (tV 0) (tCons (tV 1) tNil))) [4]))))))
def t__law_sum (K : PySem.W.Frag) : TS :=
    (tRet (tOp qMod (tCB qInt (tCons (tCB (rSum K) (tCons (tLc (iRng1 (tCons (tCB (qLen K) (tCons (tV 0) tNil)) tNil)) (gName 1) tYes (tOp qMul (tOp (qIx K) (tV 0) (tV 1)) (tOp qAdd (tV 1) (tC (.int 1)))) [1]) tNil)) tNil)) (tC (.int 65521))))
def t__law_text_at (K : PySem.W.Frag) : TS :=
    (tSeq (tAsg (tCall (sp__law_number_at K) [] E0 (tCons (tV 0) (tCons (tV 1) tNil))) (gName 2))
    (tSeq (tIfS (tOr (tTM (tOp qIsN (tV 2) (tC .non))) (tTM (tOp (qI2 fun i j => decide (j < i)) (tOp (qIx K) (tV 2) (tC (.int 0))) (tOp qSub (tCB (qLen K) (tCons (tV 0) tNil)) (tOp (qIx K) (tV 2) (tC (.int 1))))))) (tRet (tC .non)) tNext)
    (tSeq (tAsg (tTup (tCons (tLc (iStr (tCall (sp__law_signs K) [] E0 tNil)) (gName 6) tYes (tCB qOrd (tCons (tV 6) tNil)) [6]) (tCons (tCall (sp__law_signs K) [] E0 tNil) tNil))) (gTup K 2 (gCons (gName 3) (gCons (gName 4) gNil))))
    (tSeq (tAsg (tSl (qSl K) (tV 0) (tPt (tOp (qIx K) (tV 2) (tC (.int 1)))) (tPt (tOp qAdd (tOp (qIx K) (tV 2) (tC (.int 1))) (tOp (qIx K) (tV 2) (tC (.int 0)))))) (gName 5))
    (tSeq (tIfS (tTM (tOp (qI2 fun i j => decide (j < i)) (tCB (qLen K) (tCons (tLc (iList K (tV 5)) (gName 7) (tTM (tOp (rIn K true) (tV 7) (tV 3))) (tV 7) [7]) tNil)) (tC (.int 0)))) (tRet (tC .non)) tNext)
    (tRet (tTup (tCons (tM1 (qJoin K) (tC (.str "")) (tLc (iList K (tV 5)) (gName 7) tYes (tOp (qIx K) (tV 4) (tBM K "list" (rIndex K) (tV 3) (tCons (tV 7) tNil))) [7])) (tCons (tOp qAdd (tOp (qIx K) (tV 2) (tC (.int 1))) (tOp (qIx K) (tV 2) (tC (.int 0)))) tNil)))))))))
def t_octets_of_number (K : PySem.W.Frag) : TS :=
    (tSeq (tAsg (tLst tNil) (gName 1))
    (tSeq (tAsg (tV 0) (gName 2))
    (tSeq (tWhile (tTM (tOp (qI2 fun i j => decide (j ≤ i)) (tV 2) (tC (.int 128)))) (tSeq (tDrop (tApp (tV 1) (tOp qAdd (tC (.int 128)) (tOp qMod (tV 2) (tC (.int 128))))))
    (tAsg (tOp qDiv (tV 2) (tC (.int 128))) (gName 2))))
    (tSeq (tDrop (tApp (tV 1) (tV 2)))
    (tRet (tCB (qTupO K) (tCons (tV 1) tNil)))))))
def t_number_octets (K : PySem.W.Frag) : TS :=
    (tRet (tCall (sp_octets_of_number K) [] E0 (tCons (tV 0) tNil)))
def t_behind_number (K : PySem.W.Frag) : TS :=
    (tSeq (tIfS (tTM (tOp (qI2 fun i j => decide (i < j)) (tV 1) (tC (.int 0)))) (tRet (tC .non)) tNext)
    (tSeq (tFor (iRng2 (tCons (tV 1) (tCons (tCB (qLen K) (tCons (tV 0) tNil)) tNil))) (gName 2) (tIfS (tTM (tOp (qI2 fun i j => decide (i < j)) (tOp (qIx K) (tV 0) (tV 2)) (tC (.int 128)))) (tRet (tOp qAdd (tV 2) (tC (.int 1)))) tNext))
    (tRet (tC .non))))
def t_number_of (K : PySem.W.Frag) : TS :=
    (tSeq (tAsg (tTup (tCons (tCB (qLstO K) (tCons (tV 0) tNil)) (tCons (tC (.int 128)) tNil))) (gTup K 2 (gCons (gName 1) (gCons (gName 2) gNil))))
    (tSeq (tWhile (tTM (tOp (qI2 fun i j => decide (j < i)) (tCB (qLen K) (tCons (tV 1) tNil)) (tC (.int 1)))) (tSeq (tAsg (tLc (iRng3 (tCons (tC (.int 0)) (tCons (tOp qSub (tCB (qLen K) (tCons (tV 1) tNil)) (tC (.int 1))) (tCons (tC (.int 2)) tNil)))) (gName 4) tYes (tOp qAdd (tOp (qIx K) (tV 1) (tV 4)) (tOp qMulW (tV 2) (tOp (qIx K) (tV 1) (tOp qAdd (tV 4) (tC (.int 1)))))) [4]) (gName 3))
    (tSeq (tIfS (tTM (tOp qEqS (tOp qMod (tCB (qLen K) (tCons (tV 1) tNil)) (tC (.int 2))) (tC (.int 1)))) (tDrop (tApp (tV 3) (tOp (qIx K) (tV 1) (tOp qSub (tCB (qLen K) (tCons (tV 1) tNil)) (tC (.int 1)))))) tNext)
    (tSeq (tAsg (tV 3) (gName 1))
    (tAsg (tOp qMulW (tV 2) (tV 2)) (gName 2))))))
    (tRet (tOp (qIx K) (tV 1) (tC (.int 0))))))
def t_number_in (K : PySem.W.Frag) : TS :=
    (tSeq (tAsg (tCall (sp_behind_number K) [] E0 (tCons (tV 0) (tCons (tV 1) tNil))) (gName 2))
    (tSeq (tIfS (tOr (tTM (tOp qIsN (tV 2) (tC .non))) (tAnd (tTM (tOp (qI2 fun i j => decide (j < i)) (tOp qSub (tV 2) (tV 1)) (tC (.int 1)))) (tTM (tOp qEqS (tOp (qIx K) (tV 0) (tOp qSub (tV 2) (tC (.int 1)))) (tC (.int 0)))))) (tRet (tC .non)) tNext)
    (tSeq (tAsg (tOp rCat (tLc (iTup K (tSl (qSl K) (tV 0) (tPt (tV 1)) (tPt (tOp qSub (tV 2) (tC (.int 1)))))) (gName 4) tYes (tOp qSub (tV 4) (tC (.int 128))) [4]) (tLst (tCons (tOp (qIx K) (tV 0) (tOp qSub (tV 2) (tC (.int 1)))) tNil))) (gName 3))
    (tRet (tTup (tCons (tCall (sp_number_of K) [] E0 (tCons (tV 3) tNil)) (tCons (tV 2) tNil)))))))
def t_read_number (K : PySem.W.Frag) : TS :=
    (tRet (tCall (sp_number_in K) [] E0 (tCons (tCB (qTupO K) (tCons (tV 0) tNil)) (tCons (tV 1) tNil))))
def t_sign_of (K : PySem.W.Frag) : TS :=
    (tSeq (tIfS (tTM (tOp qEqS (tV 0) (tC (.int 10)))) (tRet (tC (.str "\n"))) tNext)
    (tSeq (tIfS (tOr (tTM (tOp (qI2 fun i j => decide (i < j)) (tV 0) (tC (.int 32)))) (tOr (tTM (tOp (qI2 fun i j => decide (j ≤ i)) (tV 0) (tOp qAdd (tC (.int 32)) (tCB (qLen K) (tCons (tC (.str " !\"#$\n&'()*+,-./0123456789:;<=>?@ABCDEFGHIJKLMNOPQRSTUVWXYZ[\\]^_`abcdefghijklmnopqrstuvwxyz{|}~")) tNil))))) (tTM (tOp qEqS (tV 0) (tC (.int 37)))))) (tRet (tC .non)) tNext)
    (tRet (tOp (qIx K) (tC (.str " !\"#$\n&'()*+,-./0123456789:;<=>?@ABCDEFGHIJKLMNOPQRSTUVWXYZ[\\]^_`abcdefghijklmnopqrstuvwxyz{|}~")) (tOp qSub (tV 0) (tC (.int 32)))))))
def t_text_in (K : PySem.W.Frag) : TS :=
    (tSeq (tAsg (tCall (sp_number_in K) [] E0 (tCons (tV 0) (tCons (tV 1) tNil))) (gName 2))
    (tSeq (tIfS (tOr (tTM (tOp qIsN (tV 2) (tC .non))) (tTM (tOp (qI2 fun i j => decide (j < i)) (tOp (qIx K) (tV 2) (tC (.int 0))) (tOp qSub (tCB (qLen K) (tCons (tV 0) tNil)) (tOp (qIx K) (tV 2) (tC (.int 1))))))) (tRet (tC .non)) tNext)
    (tSeq (tAsg (tOp qAdd (tOp (qIx K) (tV 2) (tC (.int 0))) (tOp (qIx K) (tV 2) (tC (.int 1)))) (gName 3))
    (tSeq (tAsg (tLc (iTup K (tSl (qSl K) (tV 0) (tPt (tOp (qIx K) (tV 2) (tC (.int 1)))) (tPt (tV 3)))) (gName 5) tYes (tCall (sp_sign_of K) [] E0 (tCons (tV 5) tNil)) [5]) (gName 4))
    (tSeq (tIfS (tTM (tOp (rIn K false) (tC .non) (tV 4))) (tRet (tC .non)) tNext)
    (tRet (tTup (tCons (tM1 (qJoin K) (tC (.str "")) (tV 4)) (tCons (tV 3) tNil)))))))))
def t_read_text (K : PySem.W.Frag) : TS :=
    (tRet (tCall (sp_text_in K) [] E0 (tCons (tCB (qTupO K) (tCons (tV 0) tNil)) (tCons (tV 1) tNil))))
def t_sum_of_octets (K : PySem.W.Frag) : TS :=
    (tSeq (tAsg (tC (.int 0)) (gName 1))
    (tSeq (tFor (iEnumT K (tCons (tV 0) tNil)) (gTup K 2 (gCons (gName 2) (gCons (gName 3) gNil))) (tAugA 1 (tOp qMul (tOp qAdd (tV 2) (tC (.int 1))) (tV 3))))
    (tRet (tOp qMod (tV 1) (tC (.int 65521))))))
def t_octets_of_text (K : PySem.W.Frag) : TS :=
    (tRet (tOp (qCatT K) (tCall (sp_octets_of_number K) [] E0 (tCons (tCB (qLen K) (tCons (tV 0) tNil)) tNil)) (tCB (qTupO K) (tCons (tLc (iStr (tV 0)) (gName 1) tYes (tCB qOrd (tCons (tV 1) tNil)) [1]) tNil))))
def t_text_octets (K : PySem.W.Frag) : TS :=
    (tRet (tCall (sp_octets_of_text K) [] E0 (tCons (tV 0) tNil)))
section
variable {K : PySem.W.Frag}
theorem line5' {n : Nat} (h : n ≤ 100000) : n < sizeLine := Nat.lt_of_le_of_lt h (by decide)
theorem snoc_ints (l : List Int) (x : Int) : l.map V.int ++ [V.int x] = (l ++ [x]).map V.int := by rw [List.map_append]; rfl
theorem octs_split {n r : Int} {acc : List Int} (h : octs n = acc ++ octs r) (hr : ¬ r < 128) : octs n = (acc ++ [128 + r % 128]) ++ octs (r / 128) := by
  rw [h, octs_ge hr, List.append_assoc]
  rfl
theorem rd_octets_of_number (vs : List V) (H : Hp) (Q : VK) (E : XK) (h : sp_octets_of_number K vs H Q E) : t_octets_of_number K { nx := fun _ H' => Q .non H', rt := Q } (start N_octets_of_number vs) H := by
  obtain ⟨n, rfl, h0, hl, q⟩ := h
  refine ⟨Nat.zero_le _, fun l nl => ?_⟩
  refine ⟨fun m σ H' => ∃ r acc, σ = [some (.int n), some (.ref l), some (.int r)] ∧ Same H H' ∧ H' l = some (.lst (acc.map V.int)) ∧ octs n = acc ++ octs r ∧ 0 ≤ r ∧ m = r.toNat, ⟨_, n, [], rfl, same_new nl, upd_same, rfl, h0, rfl⟩, fun m σ H' hW => ?_⟩
  obtain ⟨r, acc, rfl, sm, el, eo, hr0, rfl⟩ := hW
  have hal : acc.length ≤ 50000 := by
    have e := congrArg List.length eo
    rw [List.length_append] at e
    omega
  refine iteD (fun hr => ?_) fun hr => ?_
  · refine ⟨fun σ' H2 => ∃ m', m' < r.toNat ∧ ∃ r acc, σ' = [some (.int n), some (.ref l), some (.int r)] ∧ Same H H2 ∧ H2 l = some (.lst (acc.map V.int)) ∧ octs n = acc ++ octs r ∧ 0 ≤ r ∧ m' = r.toNat, fun _ _ hN => hN, ?_⟩
    refine ⟨⟨_, el⟩, by decide, _, el, line5' (by rw [List.length_map]; omega), ⟨by decide, by decide⟩, ?_⟩
    refine ⟨_, ?_, r / 128, acc ++ [128 + r % 128], rfl, same_mut sm nl, ?_, octs_split eo (by omega), by omega, rfl⟩
    · omega
    · rw [upd_same, snoc_ints]
  · rw [octs_lt (show r < 128 by omega)] at eo
    refine ⟨⟨_, el⟩, _, el, line5' (by rw [List.length_map]; omega), ?_⟩
    refine .inl ⟨_, sql_of upd_same, fun p np => ?_⟩
    rw [snoc_ints, ← eo] at np ⊢
    have s2 : Same H (upd H' l (.lst ((octs n).map V.int))) := same_mut sm nl
    exact q p _ (s2.trans (same_new np)) (s2.free np) upd_same
theorem rd_number_octets (vs : List V) (H : Hp) (Q : VK) (E : XK) (h : sp_number_octets K vs H Q E) : t_number_octets K { nx := fun _ H' => Q .non H', rt := Q } (start N_number_octets vs) H := by
  obtain ⟨n, rfl, h0, hl, q⟩ := h
  exact ⟨n, rfl, h0, hl, q⟩
theorem rd__law_number_octets (vs : List V) (H : Hp) (Q : VK) (E : XK) (h : sp__law_number_octets K vs H Q E) : t__law_number_octets K { nx := fun _ H' => Q .non H', rt := Q } (start N__law_number_octets vs) H := by
  obtain ⟨n, rfl, h0, hl, q⟩ := h
  refine ⟨Nat.zero_le _, fun l nl => ⟨_, _, rfl, ?_⟩⟩
  refine ⟨fun m σ H' => ∃ r acc, σ = [some (.int n), some (.ref l), some (.int r)] ∧ Same H H' ∧ H' l = some (.lst (acc.map V.int)) ∧ octs n = acc ++ octs r ∧ 0 ≤ r ∧ m = r.toNat, ⟨_, n, [], rfl, same_new nl, upd_same, rfl, h0, rfl⟩, fun m σ H' hW => ?_⟩
  obtain ⟨r, acc, rfl, sm, el, eo, hr0, rfl⟩ := hW
  have hal : acc.length ≤ 50000 := by
    have e := congrArg List.length eo
    rw [List.length_append] at e
    omega
  refine iteD (fun hr => ?_) fun hr => ?_
  · refine ⟨fun σ' H2 => ∃ m', m' < r.toNat ∧ ∃ r acc, σ' = [some (.int n), some (.ref l), some (.int r)] ∧ Same H H2 ∧ H2 l = some (.lst (acc.map V.int)) ∧ octs n = acc ++ octs r ∧ 0 ≤ r ∧ m' = r.toNat, fun _ _ hN => hN, ?_⟩
    refine ⟨⟨_, el⟩, by decide, _, el, line5' (by rw [List.length_map]; omega), ⟨by decide, by decide⟩, ?_⟩
    refine ⟨_, ?_, r / 128, acc ++ [128 + r % 128], rfl, same_mut sm nl, ?_, octs_split eo (by omega), by omega, rfl⟩
    · omega
    · rw [upd_same, Int.add_comm, snoc_ints]
  · rw [octs_lt (show r < 128 by omega)] at eo
    refine ⟨by show 1 ≤ sizeLine; decide, fun l2 nl2 => ?_⟩
    have hne : l ≠ l2 := ne_of_none el nl2
    refine ⟨l, l2, _, _, rfl, rfl, by rw [upd_ne hne]; exact el, upd_same, by rw [List.length_map]; exact Nat.le_of_lt (line5' (by show acc.length + 1 ≤ 100000; omega)), fun p np => ?_⟩
    rw [snoc_ints, ← eo]
    have s2 : Same H (upd H' l2 (.lst [.int r])) := sm.trans (same_new nl2)
    exact q p _ (s2.trans (same_new np)) (s2.free np) upd_same
theorem S_str (z : Str) : z = SX.S z.cps.toList := (SX.S_tl z).symm
theorem one_S (c : Nat) : (⟨#[c]⟩ : Str) = SX.S [c] := rfl
theorem S_cps (cs : List Nat) : (SX.S cs).cps.toList = cs := rfl
theorem S_size (cs : List Nat) : (SX.S cs).cps.size = cs.length := by simp [SX.S]
theorem octs_small {n : Nat} (h : n ≤ 100000) : (octs (n : Int)).length ≤ 3 := octs_len 2 _ (by
  have : ((128 : Int) ^ (2 + 1)) = 2097152 := by decide
  rw [this]
  omega)
/-- [ord(sign) for sign in text] -/
theorem ords {H1 : Hp} {D : Addr} {Qd : Hp → Prop} {cs : List Nat} {σ : L2.St} (hσ : ∃ x y, σ = [x, y]) (nD : H1 D = none) (hn : cs.length ≤ 100000) (hd : ∀ H, Same H1 H → H D = some (.lst ((cs.map fun c : Nat => (c : Int)).map V.int)) → Qd H) :
    ∃ W : Nat → Nat → Hp → Prop, (∃ m, W 0 m (upd H1 D (.lst []))) ∧ ∀ i m H, W i m H →
      ((Its (SX.S cs)).stop i H ∧ Qd H) ∨ ((Its (SX.S cs)).go i H ∧ ∃ Nx : Hp → Prop, (∀ H', Nx H' → ∃ m', m' < m ∧ W (i + 1) m' H') ∧ ∀ x H', (Its (SX.S cs)).yld i H x H' → gName 1 x (wipe σ [1]) H' fun σ2 H2 => wipe σ2 [1] = wipe σ [1] ∧ tYes σ2 H2 fun b H3 =>
        if b = true then (tCB qOrd (tCons (tV 1) tNil)) σ2 H3 fun y H4 => ∃ acc, H4 D = some (.lst acc) ∧ acc.length < sizeLine ∧ Nx (upd H4 D (.lst (acc ++ [y]))) else Nx H3) := by
  obtain ⟨x0, y0, rfl⟩ := hσ
  have w := walk_str (z := SX.S cs)
  rw [S_size] at w
  refine lc_fun w (fun i => .int ((cs.getD i 0 : Nat) : Int)) nD hn (fun _ => rfl) (fun _ _ => trivial) (fun i x H H' hi sm y => ?_) fun H sm e => hd H sm ?_
  · obtain ⟨rfl, c, hc, rfl⟩ := y
    refine ⟨Same.refl _, fun Q k => ⟨c, rfl, ?_⟩⟩
    have e : cs[i]? = some c := by
      rw [← hc]
      simp [SX.S]
    have e2 := k H' (Same.refl _)
    rw [getD_of e] at e2
    exact e2
  · rw [e, range_map cs 0 fun c : Nat => V.int (c : Int), List.map_map]
    rfl
theorem rd_octets_of_text (vs : List V) (H : Hp) (Q : VK) (E : XK) (h : sp_octets_of_text K vs H Q E) : t_octets_of_text K { nx := fun _ H' => Q .non H', rt := Q } (start N_octets_of_text vs) H := by
  obtain ⟨cs, rfl, hl, q⟩ := h
  have hS : (SX.S cs).length = cs.length := SX.S_len cs
  have h3 := octs_small (n := cs.length) (by omega)
  refine ⟨Nat.le_of_lt (line5' (by rw [hS]; omega)), ((SX.S cs).length : Int), rfl, by omega, by rw [hS]; omega, fun p H1 s1 np e1 => ?_⟩
  rw [hS] at e1
  refine ⟨SX.S cs, rfl, fun l nl => ords ⟨_, _, rfl⟩ nl (by omega) fun H2 s2 e2 => ?_⟩
  refine .inl ⟨_, sql_of e2, fun t nt => ?_⟩
  have s3 := s2.trans (same_new (o := .tup ((cs.map fun c : Nat => (c : Int)).map V.int)) nt)
  have e1' := s3 _ _ e1
  refine ⟨_, _, sqt_of e1', sqt_of upd_same, Nat.le_of_lt (line5' (by simp only [List.length_map]; omega)), fun r H4 s4 hr => ?_⟩
  refine q (.ref r) _ ((s1.trans s3).trans s4) ⟨r, rfl, ?_⟩
  unfold body
  rw [List.map_append]
  exact hr
theorem rd_text_octets (vs : List V) (H : Hp) (Q : VK) (E : XK) (h : sp_text_octets K vs H Q E) : t_text_octets K { nx := fun _ H' => Q .non H', rt := Q } (start N_text_octets vs) H := by
  obtain ⟨n, rfl, hl, q⟩ := h
  exact ⟨n, rfl, hl, q⟩
theorem rd__law_body (vs : List V) (H : Hp) (Q : VK) (E : XK) (h : sp__law_body K vs H Q E) : t__law_body K { nx := fun _ H' => Q .non H', rt := Q } (start N__law_body vs) H := by
  obtain ⟨cs, rfl, hl, q⟩ := h
  have hS : (SX.S cs).length = cs.length := SX.S_len cs
  have h3 := octs_small (n := cs.length) (by omega)
  refine ⟨Nat.le_of_lt (line5' (by rw [hS]; omega)), ((SX.S cs).length : Int), rfl, by omega, by rw [hS]; omega, fun p H1 s1 np e1 => ?_⟩
  rw [hS] at e1
  refine ⟨SX.S cs, rfl, fun l nl => ords ⟨_, _, rfl⟩ nl (by omega) fun H2 s2 e2 => ?_⟩
  refine ⟨p, l, _, _, rfl, rfl, s2 _ _ e1, e2, Nat.le_of_lt (line5' (by simp only [List.length_map]; omega)), fun r nr => ?_⟩
  refine q r _ ((s1.trans s2).trans (same_new nr)) ((s1.trans s2).free nr) ?_
  rw [upd_same]
  unfold body
  rw [List.map_append]
end
section
variable {K : PySem.W.Frag}
theorem pow_bits (e : Nat) : ((128 : Int) ^ e).natAbs < 2 ^ (7 * e + 1) := by
  have h1 : ((128 : Int) ^ e).natAbs = 2 ^ (7 * e) := by
    rw [Int.natAbs_pow, Nat.pow_mul]
    rfl
  rw [h1]
  exact Nat.pow_lt_pow_right (by decide) (by omega)
theorem bits_le {x b : Int} {k : Nat} (h0 : 0 ≤ x) (h : x < b) (hb : b.natAbs < 2 ^ k) : x.natAbs < 2 ^ k := Nat.lt_of_le_of_lt (by omega) hb
theorem walk_rng3 {n : Nat} : Walk (Itc 0 2 n) n (fun _ => True) (YFn fun i => .int (0 + (i : Nat) * 2)) := walk_rangeC
theorem rd_number_of (vs : List V) (H : Hp) (Q : VK) (E : XK) (h : sp_number_of K vs H Q E) : t_number_of K { nx := fun _ H' => Q .non H', rt := Q } (start N_number_of vs) H := by
  obtain ⟨a, fs, rfl, hS, hne, hl, hb, q⟩ := h
  refine ⟨_, .inl hS, fun l nl => ⟨by show 2 ≤ sizeLine; decide, fun t nt => ?_⟩⟩
  have s0 := (same_new (o := .lst (fs.map V.int)) nl).trans (same_new (o := .tup [.ref l, .int 128]) nt)
  have el0 : (upd (upd H l (.lst (fs.map V.int))) t (.tup [.ref l, .int 128])) l = some (.lst (fs.map V.int)) := by
    rw [upd_ne (ne_of_none upd_same nt)]
    exact upd_same
  refine ⟨t, [.ref l, .int 128], rfl, sqt_of upd_same, rfl, .ref l, [.int 128], rfl, .int 128, [], rfl, rfl, ?_⟩
  revert s0 el0
  generalize upd (upd H l (.lst (fs.map V.int))) t (.tup [.ref l, .int 128]) = H0
  intro s0 el0
  refine ⟨fun m σ H' => ∃ (r : Addr) (row : List Int) (e : Nat) (y3 y4 : Option V), σ = [some (.ref a), some (.ref r), some (.int (128 ^ e)), y3, y4] ∧ Same H H' ∧ H' r = some (.lst (row.map V.int)) ∧ valB (128 ^ e) row = val fs ∧ row ≠ [] ∧ (∀ x ∈ row, 0 ≤ x ∧ x < 128 ^ e) ∧ 1 ≤ e ∧ row.length ≤ 20000 ∧ (row.length - 1) * e < 20000 ∧ m = row.length,
    ⟨_, l, fs, 1, none, none, rfl, s0, el0, rfl, hne, hb, Nat.le_refl _, hl, by omega, rfl⟩, fun m σ H' hW => ?_⟩
  obtain ⟨r, row, e, y3, y4, rfl, sm, er, hv, hrne, hrb, he, hrl, hre, rfl⟩ := hW
  have h1 : 1 ≤ row.length := by
    have := List.length_pos_iff.mpr hrne
    omega
  refine ⟨_, .inl (sql_of er), ?_⟩
  refine iteD (fun hgt => ?_) fun hgt => ?_
  · have h2 : 2 ≤ row.length := by
      rw [List.length_map] at hgt
      omega
    have hee : e < 20000 := by
      have : 1 * e ≤ (row.length - 1) * e := Nat.mul_le_mul_right e (by omega)
      omega
    have hbp : (0 : Int) < 128 ^ e := Int.pow_pos (by decide)
    have hbits := pow_bits e
    refine ⟨fun σ' H2 => ∃ m', m' < row.length ∧ ∃ (r : Addr) (row : List Int) (e : Nat) (y3 y4 : Option V), σ' = [some (.ref a), some (.ref r), some (.int (128 ^ e)), y3, y4] ∧ Same H H2 ∧ H2 r = some (.lst (row.map V.int)) ∧ valB (128 ^ e) row = val fs ∧ row ≠ [] ∧ (∀ x ∈ row, 0 ≤ x ∧ x < 128 ^ e) ∧ 1 ≤ e ∧ row.length ≤ 20000 ∧ (row.length - 1) * e < 20000 ∧ m' = row.length, fun _ _ hN => hN, ?_⟩
    refine ⟨_, .inl (sql_of er), 0, (row.length : Int) - 1, 2, row.length / 2, by rw [List.length_map], rg2 row.length (by omega) h1, fun p np => ?_⟩
    refine lc_fun walk_rng3 (fun i => .int (row.getD (2 * i) 0 + 128 ^ e * row.getD (2 * i + 1) 0)) np (by omega) (fun _ => rfl) (fun _ _ => trivial) (fun i x H2 H3 hi s2 y => ?_) fun H2 s2 e2 => ?_
    · obtain ⟨rfl, rfl⟩ := y
      refine ⟨Same.refl _, fun Q' k => ?_⟩
      have g1 : row[2 * i]? = some row[2 * i] := List.getElem?_eq_getElem (by omega)
      have g2 : row[2 * i + 1]? = some row[2 * i + 1] := List.getElem?_eq_getElem (by omega)
      have er3 := s2 _ _ er
      have c1 : (0 : Int) + (i : Nat) * 2 = ((2 * i : Nat) : Int) := by omega
      have c2 : (0 : Int) + (i : Nat) * 2 + 1 = ((2 * i + 1 : Nat) : Int) := by omega
      have b2 := hrb _ (List.getElem_mem (l := row) (n := 2 * i + 1) (by omega))
      refine ⟨_, _, .inl (sql_of er3), ints_atI c1 g1, _, _, .inl (sql_of er3), ints_atI c2 g2, wide_mul hbits (bits_le b2.1 b2.2 hbits) (by omega) (by omega) (by omega), ?_⟩
      have kk := k _ (Same.refl _)
      rw [getD_of g1, getD_of g2] at kk
      exact kk
    · have er2 := s2 _ _ er
      refine ⟨_, .inl (sql_of er2), by decide, ?_⟩
      have hst := step_len (128 ^ e) row
      have base : ∀ H3, Same H' H3 → H3 p = some (.lst ((step (128 ^ e) row).map V.int)) → tSeq (tAsg (tV 3) (gName 1)) (tAsg (tOp qMulW (tV 2) (tV 2)) (gName 2)) { nx := fun σ' H2 => ∃ m', m' < row.length ∧ ∃ (r : Addr) (row : List Int) (e : Nat) (y3 y4 : Option V), σ' = [some (.ref a), some (.ref r), some (.int (128 ^ e)), y3, y4] ∧ Same H H2 ∧ H2 r = some (.lst (row.map V.int)) ∧ valB (128 ^ e) row = val fs ∧ row ≠ [] ∧ (∀ x ∈ row, 0 ≤ x ∧ x < 128 ^ e) ∧ 1 ≤ e ∧ row.length ≤ 20000 ∧ (row.length - 1) * e < 20000 ∧ m' = row.length, rt := Q } [some (.ref a), some (.ref r), some (.int (128 ^ e)), some (.ref p), y4] H3 := by
        intro H3 s3 e3
        refine ⟨wide_mul hbits hbits (by omega) (by omega) (by omega), ?_⟩
        have ep : (128 : Int) ^ e * 128 ^ e = 128 ^ (e + e) := (Int.pow_add _ _ _).symm
        refine ⟨(step (128 ^ e) row).length, by omega, p, step (128 ^ e) row, e + e, some (.ref p), y4, by rw [← ep]; rfl, sm.trans s3, e3, ?_, ?_, ?_, by omega, by omega, ?_, rfl⟩
        · rw [← ep, step_val, hv]
        · intro z
          have := congrArg List.length z
          rw [hst] at this
          simp at this
          omega
        · rw [← ep]
          exact step_bound hbp hrb
        · rw [hst]
          have a1 : ((row.length + 1) / 2 - 1) * (e + e) ≤ (row.length - 1) * e := by
            have a2 : ((row.length + 1) / 2 - 1) * (e + e) = (((row.length + 1) / 2 - 1) * 2) * e := by
              rw [Nat.mul_assoc, Nat.two_mul]
            rw [a2]
            exact Nat.mul_le_mul_right e (by omega)
          omega
      have eacc : ∀ i, i < row.length / 2 → (step (128 ^ e) row)[i]? = some (row.getD (2 * i) 0 + 128 ^ e * row.getD (2 * i + 1) 0) := fun i hi => by
        have g1 : row[2 * i]? = some row[2 * i] := List.getElem?_eq_getElem (by omega)
        have g2 : row[2 * i + 1]? = some row[2 * i + 1] := List.getElem?_eq_getElem (by omega)
        rw [getD_of g1, getD_of g2]
        exact step_get _ _ _ _ _ g1 g2
      have elst : ((List.range (row.length / 2)).map fun i => V.int (row.getD (2 * i) 0 + 128 ^ e * row.getD (2 * i + 1) 0)) = ((step (128 ^ e) row).take (row.length / 2)).map V.int := by
        apply List.ext_getElem?
        intro i
        rw [List.getElem?_map, List.getElem?_map]
        by_cases hi : i < row.length / 2
        · rw [List.getElem?_range hi, List.getElem?_take, if_pos hi, eacc i hi]
          rfl
        · rw [List.getElem?_eq_none (by simp; omega), List.getElem?_take, if_neg hi]
          rfl
      rw [elst] at e2
      have emod : (((row.map V.int).length : Nat) : Int) % 2 = ((row.length % 2 : Nat) : Int) := by
        rw [List.length_map]
        omega
      rw [emod]
      refine iteD (fun hodd => ?_) fun hodd => ?_
      · have hodd2 : row.length % 2 = 1 := by omega
        refine ⟨⟨_, e2⟩, _, .inl (sql_of er2), ?_⟩
        have g : row[2 * (row.length / 2)]? = some row[2 * (row.length / 2)] := List.getElem?_eq_getElem (by omega)
        refine ⟨_, _, .inl (sql_of er2), ints_atI (i := 2 * (row.length / 2)) (by rw [List.length_map]; omega) g, _, e2, line5' (by rw [List.length_map, List.length_take]; omega), ?_⟩
        refine base _ (same_mut s2 np) ?_
        rw [upd_same, snoc_ints]
        have hso := step_odd (128 ^ e) row (row.length / 2) _ (by omega) g
        have hsl : (step (128 ^ e) row).length = row.length / 2 + 1 := by omega
        have : (step (128 ^ e) row).take (row.length / 2) ++ [row[2 * (row.length / 2)]] = step (128 ^ e) row := by
          have t1 := List.take_add_one (l := step (128 ^ e) row) (i := row.length / 2)
          rw [hso] at t1
          rw [show (some row[2 * (row.length / 2)]).toList = [row[2 * (row.length / 2)]] from rfl] at t1
          rw [← t1, List.take_of_length_le (by omega)]
        rw [this]
      · refine base _ s2 ?_
        rw [e2, List.take_of_length_le (by omega)]
  · obtain ⟨x, rfl⟩ : ∃ x, row = [x] := by
      rw [List.length_map] at hgt
      cases row with
      | nil => exact absurd rfl hrne
      | cons x r2 =>
        cases r2 with
        | nil => exact ⟨x, rfl⟩
        | cons y r3 =>
          simp at hgt
          omega
    refine ⟨_, _, .inl (sql_of er), ints_atI (i := 0) rfl rfl, ?_⟩
    have ev : val fs = x := by
      rw [← hv]
      simp [valB]
    rw [← ev]
    exact q H' sm
theorem rd_behind_number (vs : List V) (H : Hp) (Q : VK) (E : XK) (h : sp_behind_number K vs H Q E) : t_behind_number K { nx := fun _ H' => Q .non H', rt := Q } (start N_behind_number vs) H := by
  obtain ⟨t, os, pl, rfl, ⟨a, rfl, hT⟩, hl, b1, b2, q⟩ := h
  refine iteD (fun h0 => ?_) fun h0 => ?_
  · rw [if_pos h0] at q
    exact q
  rw [if_neg h0] at q
  refine ⟨_, .inr hT, pl, (os.length : Int), by rw [List.length_map], ⟨b1, b2, by omega, by omega⟩, ?_⟩
  refine for_range (lo := pl) (n := ((os.length : Int) - pl).toNat) (fun i σ H' => ∃ y, σ = [some (.ref a), some (.int pl), y] ∧ H' = H ∧ ∀ j x, j < i → (os.drop pl.toNat)[j]? = some x → ¬ x < 128) ⟨none, rfl, rfl, fun j x hj => by omega⟩ (fun i σ H' hi hP => ?_) fun σ H' hP => ?_
  · obtain ⟨y, rfl, rfl, hno⟩ := hP
    have hix : pl.toNat + i < os.length := by omega
    have g : os[pl.toNat + i]? = some os[pl.toNat + i] := List.getElem?_eq_getElem hix
    have gd : (os.drop pl.toNat)[i]? = some os[pl.toNat + i] := by
      rw [List.getElem?_drop]
      exact g
    refine ⟨_, _, .inr hT, ints_atI (i := pl.toNat + i) (by omega) g, ?_⟩
    refine iteD (fun hx => ?_) fun hx => ?_
    · rw [fidx_of gd hx fun j x hj hx2 => hno j x hj hx2] at q
      have e : pl + (i : Int) + 1 = ((pl.toNat + i : Nat) : Int) + 1 := by omega
      show Q (.int (pl + (i : Int) + 1)) H'
      rw [e]
      exact q
    · refine ⟨some (.int (pl + (i : Int))), rfl, rfl, fun j x hj hx2 => ?_⟩
      by_cases hji : j = i
      · subst hji
        rw [gd] at hx2
        rw [← Option.some.inj hx2]
        exact hx
      · exact hno j x (by omega) hx2
  · obtain ⟨y, rfl, rfl, hno⟩ := hP
    rw [fidx_no fun j x hx => hno j x (by
      have := (List.getElem?_eq_some_iff.mp hx).1
      rw [List.length_drop] at this
      omega) hx] at q
    exact q
end
section
variable {K : PySem.W.Frag}
theorem rd_number_in (vs : List V) (H : Hp) (Q : VK) (E : XK) (h : sp_number_in K vs H Q E) : t_number_in K { nx := fun _ H' => Q .non H', rt := Q } (start N_number_in vs) H := by
  obtain ⟨t, os, pl, rfl, ⟨a, rfl, hT⟩, hl, h8, b1, b2, q⟩ := h
  refine ⟨.ref a, os, pl, rfl, ⟨a, rfl, hT⟩, by omega, b1, b2, ?_⟩
  by_cases h0 : pl < 0
  · rw [if_pos h0]
    have e : numAt os pl = none := by
      unfold Oct.numAt
      rw [if_pos h0]
    exact q .non H (Same.refl H) (by rw [e]; rfl)
  rw [if_neg h0]
  cases hf : fidx (os.drop pl.toNat) with
  | none =>
    have e : numAt os pl = none := by
      unfold Oct.numAt
      rw [if_neg h0, hf]
    exact q .non H (Same.refl H) (by rw [e]; rfl)
  | some j =>
    obtain ⟨hj, hx8, hno⟩ := fidx_some hf
    rw [List.length_drop] at hj
    obtain ⟨x, g⟩ : ∃ x, os[pl.toNat + j]? = some x := ⟨_, List.getElem?_eq_getElem (by omega)⟩
    have gx : os.getD (pl.toNat + j) 0 = x := getD_of g
    have hx := hx8 x (by rw [List.getElem?_drop]; exact g)
    have hx0 := h8 x (List.mem_of_getElem? g)
    have c1 : (((pl.toNat + j : Nat) : Int) + 1) - 1 = ((pl.toNat + j : Nat) : Int) := by omega
    have hix := ints_atI c1 g
    dsimp only [gName]
    refine st_ifd (0 < j ∧ x = 0) (fun k hk => ?_) (fun hc => ?_) fun hc => ?_
    · refine iteD (fun h1 => ?_) fun h1 => ?_
      · refine ⟨_, _, .inr hT, hix, ?_⟩
        have e : decide (x = 0) = decide (0 < j ∧ x = 0) := by
          have : 0 < j := by omega
          simp [this]
        show k (decide (x = 0)) H
        rw [e]
        exact hk
      · have e : decide (0 < j ∧ x = 0) = false := decide_eq_false fun z => h1 (by omega)
        rw [e] at hk
        exact hk
    · have e : numAt os pl = none := by
        unfold Oct.numAt
        rw [if_neg h0, hf]
        show (if 0 < j ∧ os.getD (pl.toNat + j) 0 = 0 then none else _) = none
        rw [gx, if_pos hc]
      exact q .non H (Same.refl H) (by rw [e]; rfl)
    · have e : numAt os pl = some (val (((os.drop pl.toNat).take j).map (· - 128) ++ [x]), pl.toNat + j + 1) := by
        unfold Oct.numAt
        rw [if_neg h0, hf]
        show (if 0 < j ∧ os.getD (pl.toNat + j) 0 = 0 then none else _) = _
        rw [gx, if_neg hc]
      have ecut : cutV (os.map V.int) (some pl) (some (((pl.toNat + j : Nat) : Int) + 1 - 1)) = ((os.drop pl.toNat).take j).map V.int := by
        have e := cut_nn (os.map V.int) pl.toNat (pl.toNat + j)
        rw [show ((pl.toNat : Nat) : Int) = pl by omega] at e
        rw [c1, e, Nat.add_sub_cancel_left, List.map_take, List.map_drop]
      refine .inr ⟨_, hT, fun b H1 s1 hT1 => ?_⟩
      rw [ecut] at hT1
      refine ⟨b, rfl, ⟨_, hT1⟩, fun l nl => ?_⟩
      generalize hsl : (os.drop pl.toNat).take j = sl at hT1 e
      have hsll : sl.length ≤ 19000 := by
        rw [← hsl, List.length_take, List.length_drop]
        omega
      have w := walk_tup (K := K) (a := b) (xs := sl.map V.int)
      rw [List.length_map] at w
      refine lc_fun w (fun i => .int (sl.getD i 0 - 128)) nl (by omega) (fun _ => rfl) (fun H2 s2 => Same.sqt s2 hT1) (fun i y H2 H3 hi s2 hy => ?_) fun H2 s2 e2 => ?_
      · obtain ⟨rfl, hy⟩ := hy
        obtain ⟨k, hk, rfl⟩ := ints_get hy
        refine ⟨Same.refl _, fun Q' k' => ?_⟩
        have kk := k' H3 (Same.refl _)
        rw [getD_of hk] at kk
        exact kk
      · have em : ((List.range sl.length).map fun i => V.int (sl.getD i 0 - 128)) = (sl.map (· - 128)).map V.int := by
          rw [range_map sl 0 fun z => V.int (z - 128), List.map_map]
          rfl
        rw [em] at e2
        refine ⟨_, _, .inr (Same.sqt (s1.trans s2) hT), hix, by show 1 ≤ sizeLine; decide, fun l2 nl2 => ?_⟩
        have hne : l ≠ l2 := ne_of_none e2 nl2
        refine ⟨l, l2, _, _, rfl, rfl, by rw [upd_ne hne]; exact e2, upd_same, Nat.le_of_lt (line5' (by simp only [List.length_map]; show sl.length + 1 ≤ 100000; omega)), fun f nf => ?_⟩
        rw [snoc_ints]
        have s3 : Same H (upd (upd H2 l2 (.lst [.int x])) f (.lst ((sl.map (· - 128) ++ [x]).map V.int))) := (s1.trans s2).trans ((same_new nl2).trans (same_new nf))
        refine ⟨f, sl.map (· - 128) ++ [x], rfl, sql_of upd_same, by simp, by simp; omega, fun y hy => ?_, fun H4 s4 => ⟨by show 2 ≤ sizeLine; decide, fun t nt => ?_⟩⟩
        · rcases List.mem_append.mp hy with hy | hy
          · obtain ⟨z, hz, rfl⟩ := List.mem_map.mp hy
            rw [← hsl] at hz
            have hz8 := h8 z (List.mem_of_mem_drop (List.mem_of_mem_take hz))
            obtain ⟨i, hi, ei⟩ := List.mem_iff_getElem.mp hz
            have hi2 : i < j := by
              rw [List.length_take] at hi
              omega
            have gi : (os.drop pl.toNat)[i]? = some z := by
              rw [List.getElem_take] at ei
              rw [← ei]
              exact List.getElem?_eq_getElem _
            have := hno i z hi2 gi
            omega
          · rw [List.mem_singleton.mp hy]
            exact ⟨hx0.1, hx⟩
        · refine q (.ref t) _ (s3.trans (s4.trans (same_new nt))) ?_
          rw [e]
          exact ⟨t, rfl, upd_same⟩
theorem rd_read_number (vs : List V) (H : Hp) (Q : VK) (E : XK) (h : sp_read_number K vs H Q E) : t_read_number K { nx := fun _ H' => Q .non H', rt := Q } (start N_read_number vs) H := by
  obtain ⟨t, os, pl, rfl, ⟨a, rfl, hT⟩, hl, h8, b1, b2, q⟩ := h
  refine .inr ⟨_, hT, ?_⟩
  exact ⟨.ref a, os, pl, rfl, ⟨a, rfl, hT⟩, hl, h8, b1, b2, q⟩
theorem sgn_get : ∀ i : Fin 95, (i.val ≠ 5) → (" !\"#$\n&'()*+,-./0123456789:;<=>?@ABCDEFGHIJKLMNOPQRSTUVWXYZ[\\]^_`abcdefghijklmnopqrstuvwxyz{|}~" : Str).cps.toList[i.val]? = some (i.val + 32) := by decide +kernel
theorem sgn_len : (" !\"#$\n&'()*+,-./0123456789:;<=>?@ABCDEFGHIJKLMNOPQRSTUVWXYZ[\\]^_`abcdefghijklmnopqrstuvwxyz{|}~" : Str).length = 95 := by decide +kernel
theorem rd_sign_of (vs : List V) (H : Hp) (Q : VK) (E : XK) (h : sp_sign_of K vs H Q E) : t_sign_of K { nx := fun _ H' => Q .non H', rt := Q } (start N_sign_of vs) H := by
  obtain ⟨o, rfl, h0, q⟩ := h
  unfold sgn at q
  refine iteD (fun h10 => ?_) fun h10 => ?_
  · rw [if_pos h10] at q
    exact q
  rw [if_neg h10] at q
  refine iteD (fun h32 => ?_) fun h32 => ?_
  · rw [if_pos (.inl h32)] at q
    exact q
  refine ⟨by rw [sgn_len]; decide, ?_⟩
  rw [sgn_len]
  refine iteD (fun h127 => ?_) fun h127 => ?_
  · rw [if_pos (.inr (.inl (by omega)))] at q
    exact q
  refine iteD (fun h37 => ?_) fun h37 => ?_
  · rw [if_pos (.inr (.inr h37))] at q
    exact q
  rw [if_neg (by omega)] at q
  have hg := sgn_get ⟨(o - 32).toNat, by omega⟩ (by show (o - 32).toNat ≠ 5; omega)
  have hg2 : (" !\"#$\n&'()*+,-./0123456789:;<=>?@ABCDEFGHIJKLMNOPQRSTUVWXYZ[\\]^_`abcdefghijklmnopqrstuvwxyz{|}~" : Str).cps.toList[(o - 32).toNat]? = some ((o - 32).toNat + 32) := hg
  refine ⟨by rw [sgn_len]; decide, (o - 32).toNat + 32, ?_, ?_⟩
  · have e : o - 32 = (((o - 32).toNat : Nat) : Int) := by omega
    rw [e]
    exact atI_nat hg2
  · have e : (o - 32).toNat + 32 = o.toNat := by omega
    rw [e]
    exact q
theorem join_one : ∀ cs : List Nat, TL.joinL [] (cs.map fun c => [c]) = cs
  | [] => rfl
  | [c] => rfl
  | c :: d :: cs => by
    have ih := join_one (d :: cs)
    show [c] ++ [] ++ TL.joinL [] ((d :: cs).map fun c => [c]) = c :: d :: cs
    rw [ih]
    rfl
theorem join_S1 (cs : List Nat) : Txt.join (SX.S []) (cs.map fun c => (⟨#[c]⟩ : Str)) = SX.S cs := by
  have e := SX.join_S [] (cs.map fun c => [c])
  rw [join_one, List.map_map] at e
  exact e
theorem sum_one (cs : List Nat) : ((cs.map fun c => (⟨#[c]⟩ : Str)).map (·.length)).sum = cs.length := by
  induction cs with
  | nil => rfl
  | cons c cs ih =>
    rw [List.map_cons, List.map_cons, List.sum_cons, ih]
    show 1 + cs.length = cs.length + 1
    omega
/-- "".join of one-sign texts -/
theorem join_ok {H : Hp} {p : Addr} {cs : List Nat} (e : H p = some (.lst (cs.map fun c => V.str ⟨#[c]⟩))) (hl : cs.length ≤ 100000) :
    ∃ ys : List Str, Sq K H p (ys.map V.str) ∧ (ys.map (·.length)).sum + ys.length * ("" : Str).length ≤ 16777216 ∧ Txt.join "" ys = SX.S cs := by
  refine ⟨cs.map fun c => (⟨#[c]⟩ : Str), .inl (sql_of ?_), ?_, ?_⟩
  · rw [e, List.map_map]
    rfl
  · rw [sum_one, List.length_map]
    show cs.length + cs.length * 0 ≤ 16777216
    omega
  · have e3 : ("" : Str) = SX.S [] := by decide +kernel
    rw [e3, join_S1 cs]
theorem rd_text_in (vs : List V) (H : Hp) (Q : VK) (E : XK) (h : sp_text_in K vs H Q E) : t_text_in K { nx := fun _ H' => Q .non H', rt := Q } (start N_text_in vs) H := by
  obtain ⟨t, os, pl, rfl, ⟨a, rfl, hT⟩, hl, h8, b1, b2, q⟩ := h
  refine ⟨.ref a, os, pl, rfl, ⟨a, rfl, hT⟩, hl, h8, b1, b2, fun v H1 s1 hv => ?_⟩
  have hT1 := Same.sqt s1 hT
  cases hn : numAt os pl with
  | none =>
    rw [hn] at hv
    obtain rfl : v = .non := hv
    have e : txtAt os pl = none := by
      unfold txtAt
      rw [hn]
    exact q .non H1 s1 (by rw [e]; rfl)
  | some ne =>
    obtain ⟨n, e0⟩ := ne
    have hend := numAt_end hn
    have hpos := numAt_pos (fun x hx => (h8 x hx).1) hn
    rw [hn] at hv
    obtain ⟨p, rfl, ep⟩ : ∃ p, v = .ref p ∧ H1 p = some (.tup [.int n, .int (e0 : Nat)]) := hv
    dsimp only [gName]
    refine st_ifd ((os.length : Int) - e0 < n) (fun k hk => ?_) (fun hc => ?_) fun hc => ?_
    · refine ⟨_, _, .inr (sqt_of ep), rfl, _, .inr hT1, _, _, .inr (sqt_of ep), rfl, ?_⟩
      rw [List.length_map]
      exact hk
    · have e : txtAt os pl = none := by
        unfold txtAt
        rw [hn]
        show (if (os.length : Int) - e0 < n then none else _) = none
        rw [if_pos hc]
      exact q .non H1 s1 (by rw [e]; rfl)
    · refine ⟨_, _, .inr (sqt_of ep), rfl, _, _, .inr (sqt_of ep), rfl, _, _, .inr (sqt_of ep), rfl, .inr ⟨_, hT1, fun b H2 s2 hT2 => ?_⟩⟩
      have ee : n + ((e0 : Nat) : Int) = ((e0 + n.toNat : Nat) : Int) := by omega
      rw [ee, cut_nn, Nat.add_sub_cancel_left, ← List.map_drop, ← List.map_take] at hT2
      refine ⟨b, rfl, ⟨_, hT2⟩, fun l nl => ?_⟩
      have et : txtAt os pl = match sgns ((os.drop e0).take n.toNat) with
        | none => none
        | some cs => some (cs, e0 + n.toNat) := by
        unfold txtAt
        rw [hn]
        show (if (os.length : Int) - e0 < n then none else _) = _
        exact if_neg hc
      generalize hsl : (os.drop e0).take n.toNat = sl at hT2 et
      have hsll : sl.length ≤ 19000 := by
        rw [← hsl, List.length_take, List.length_drop]
        omega
      have w := walk_tup (K := K) (a := b) (xs := sl.map V.int)
      rw [List.length_map] at w
      refine lc_fun w (fun i => sgV (sgn (sl.getD i 0))) nl (by omega) (fun _ => rfl) (fun H3 s3 => Same.sqt s3 hT2) (fun i y H3 H4 hi s3 hy => ?_) fun H3 s3 e3 => ?_
      · obtain ⟨rfl, hy⟩ := hy
        obtain ⟨k, hk, rfl⟩ := ints_get hy
        refine ⟨Same.refl _, fun Q' k' => ⟨k, rfl, ?_, ?_⟩⟩
        · have : k ∈ os := by
            have h := List.mem_of_getElem? hk
            rw [← hsl] at h
            exact List.mem_of_mem_drop (List.mem_of_mem_take h)
          exact (h8 k this).1
        · have kk := k' H4 (Same.refl _)
          rw [getD_of hk] at kk
          exact kk
      · rw [range_map sl 0 fun z => sgV (sgn z)] at e3
        have hfl : (sl.map fun z => sgV (sgn z)).all flatV = true := by
          rw [List.all_eq_true]
          intro z hz
          obtain ⟨o, _, rfl⟩ := List.mem_map.mp hz
          cases sgn o <;> rfl
        have eir : n + ((e0 : Nat) : Int) = ((e0 + n.toNat : Nat) : Int) := ee
        cases hs : sgns sl with
        | none =>
          rw [hs] at et
          obtain ⟨o, ho, eo⟩ := sgns_none hs
          have hin : inV .non (sl.map fun z => sgV (sgn z)) = true := by
            unfold inV
            rw [List.any_eq_true]
            exact ⟨sgV (sgn o), List.mem_map.mpr ⟨o, ho, rfl⟩, by rw [eo]; rfl⟩
          refine ⟨l, _, rfl, .inl (sql_of e3), rfl, hfl, ?_⟩
          show (if inV .non (sl.map fun z => sgV (sgn z)) = true then _ else _)
          rw [hin]
          exact iteT (q .non H3 (s1.trans (s2.trans s3)) (by rw [et]; rfl))
        | some cs =>
          rw [hs] at et
          have hal := sgns_all hs
          have hin : inV .non (sl.map fun z => sgV (sgn z)) = false := by
            cases hb : inV .non (sl.map fun z => sgV (sgn z)) with
            | false => rfl
            | true =>
              unfold inV at hb
              rw [List.any_eq_true] at hb
              obtain ⟨z, hz, ez⟩ := hb
              obtain ⟨o, ho, rfl⟩ := List.mem_map.mp hz
              have := sgns_mem hs o ho
              cases hso : sgn o with
              | none => exact absurd hso this
              | some c =>
                rw [hso] at ez
                cases ez
          have em : (sl.map fun z => sgV (sgn z)) = cs.map fun c => V.str ⟨#[c]⟩ := by
            have e1 : (sl.map fun z => sgV (sgn z)) = (sl.map sgn).map sgV := by rw [List.map_map]; rfl
            rw [e1, hal, List.map_map]
            rfl
          refine ⟨l, _, rfl, .inl (sql_of e3), rfl, hfl, ?_⟩
          show (if inV .non (sl.map fun z => sgV (sgn z)) = true then _ else _)
          rw [hin]
          rw [em] at e3
          have hcl : cs.length ≤ 19000 := by
            have := congrArg List.length hal
            rw [List.length_map, List.length_map] at this
            omega
          obtain ⟨ys, j1, j2, j3⟩ := join_ok (K := K) e3 (by omega)
          refine iteF ⟨⟨_, rfl⟩, ys, j1, j2, ?_⟩
          rw [j3]
          refine ⟨by show 2 ≤ sizeLine; decide, fun r nr => ?_⟩
          refine q (.ref r) _ ((s1.trans (s2.trans s3)).trans (same_new nr)) ?_
          rw [et, eir]
          exact ⟨r, rfl, upd_same⟩
theorem rd_read_text (vs : List V) (H : Hp) (Q : VK) (E : XK) (h : sp_read_text K vs H Q E) : t_read_text K { nx := fun _ H' => Q .non H', rt := Q } (start N_read_text vs) H := by
  obtain ⟨t, os, pl, rfl, ⟨a, rfl, hT⟩, hl, h8, b1, b2, q⟩ := h
  refine .inr ⟨_, hT, ?_⟩
  exact ⟨.ref a, os, pl, rfl, ⟨a, rfl, hT⟩, hl, h8, b1, b2, q⟩
end
section
variable {K : PySem.W.Frag}
theorem sumT {l : List Int} {i : Nat} {z : Int} (h : l[i]? = some z) : (l.take (i + 1)).sum = (l.take i).sum + z := by
  rw [List.take_add_one, List.sum_append, h]
  simp
theorem rd_sum_of_octets (vs : List V) (H : Hp) (Q : VK) (E : XK) (h : sp_sum_of_octets K vs H Q E) : t_sum_of_octets K { nx := fun _ H' => Q .non H', rt := Q } (start N_sum_of_octets vs) H := by
  obtain ⟨t, os, rfl, ⟨a, rfl, hT⟩, hl, h8, q⟩ := h
  refine ⟨a, _, rfl, hT, for_enumT (K := K) (a := a) (xs := os.map V.int) (fun i σ H' => ∃ y2 y3, σ = [some (.ref a), some (.int ((prods os).take i).sum), y2, y3] ∧ Same H H') ⟨none, none, rfl, Same.refl H⟩ (fun i σ H' hP => by obtain ⟨_, _, _, s⟩ := hP; exact Same.sqt s hT) (fun i x T σ H' hi hP nT => ?_) fun σ H' hP => ?_⟩
  · obtain ⟨y2, y3, rfl, sm⟩ := hP
    obtain ⟨k, hk, rfl⟩ := ints_get hi
    refine ⟨T, _, rfl, sqt_of upd_same, rfl, .int (i : Nat), [.int k], rfl, .int k, [], rfl, rfl, ?_⟩
    have h8k := h8 k (List.mem_of_getElem? hk)
    have hix := (List.getElem?_eq_some_iff.mp hk).1
    refine ⟨.inr ⟨by omega, by omega⟩, some (.int (i : Nat)), some (.int k), ?_, sm.trans (same_new nT)⟩
    have e : ((prods os).take (i + 1)).sum = ((prods os).take i).sum + ((i : Int) + 1) * k := by
      rw [sumT (prods_get hk), Int.mul_comm]
    rw [e]
    rfl
  · obtain ⟨y2, y3, rfl, sm⟩ := hP
    refine ⟨by decide, ?_⟩
    rw [List.take_of_length_le (by rw [prods_len, List.length_map]; exact Nat.le_refl _)]
    exact q H' sm
theorem rd__law_sum (vs : List V) (H : Hp) (Q : VK) (E : XK) (h : sp__law_sum K vs H Q E) : t__law_sum K { nx := fun _ H' => Q .non H', rt := Q } (start N__law_sum vs) H := by
  obtain ⟨a, os, rfl, hS, hl, h8, q⟩ := h
  refine ⟨_, .inl hS, os.length, by rw [List.length_map], by omega, by omega, fun l nl => ?_⟩
  refine lc_fun (walk_range (lo := 0) (n := os.length)) (fun i => .int (os.getD i 0 * ((i : Int) + 1))) nl (by omega) (fun _ => rfl) (fun _ _ => trivial) (fun i x H2 H3 hi s2 y => ?_) fun H2 s2 e2 => ?_
  · obtain ⟨rfl, rfl⟩ := y
    refine ⟨Same.refl _, fun Q' k => ?_⟩
    have g : os[i]? = some os[i] := List.getElem?_eq_getElem hi
    have h8k := h8 _ (List.mem_of_getElem? g)
    refine ⟨_, _, .inl (Same.seq s2 hS), ints_atI (i := i) (by omega) g, .inl ⟨by omega, by omega⟩, ?_⟩
    have kk := k _ (Same.refl _)
    rw [getD_of g] at kk
    rw [Int.zero_add]
    exact kk
  · refine ⟨l, prods os, rfl, sql_of ?_, by decide, q H2 s2⟩
    rw [e2]
    unfold prods
    rw [List.map_map]
    rfl
theorem rd__law_signs (vs : List V) (H : Hp) (Q : VK) (E : XK) (h : sp__law_signs K vs H Q E) : t__law_signs K { nx := fun _ H' => Q .non H', rt := Q } (start N__law_signs vs) H := by
  obtain ⟨rfl, q⟩ := h
  exact q
theorem rd__law_octet (vs : List V) (H : Hp) (Q : VK) (E : XK) (h : sp__law_octet K vs H Q E) : t__law_octet K { nx := fun _ H' => Q .non H', rt := Q } (start N__law_octet vs) H := by
  obtain ⟨M, d, rfl, w, D, q⟩ := h
  refine ⟨M, d, 256, rfl, w, D, by decide, by decide, fun r1 H1 a0 a1 f1 D1 => ⟨M, d, 256, rfl, f1.w', D1, by decide, by decide, fun r2 H2 b0 b1 f2 D2 => ⟨M, d, 128, rfl, f2.w', D2, by decide, by decide, fun r3 H3 c0 c1 f3 D3 => ⟨by show 8 ≤ sizeLine; decide, fun l nl => ?_⟩⟩⟩⟩
  have f13 := f1.trans (f2.trans f3)
  have fl := Fr.new (o := .lst [.int 0, .int 1, .int 127, .int 128, .int 255, .int r1, .int r2, .int r3]) f13 nl
  have nM : ¬ M l := f13.w'.notM nl
  have D4 : Deal M (upd H3 l (.lst [.int 0, .int 1, .int 127, .int 128, .int 255, .int r1, .int r2, .int r3])) d := by
    obtain ⟨c, cs, m, D3⟩ := D3
    exact ⟨c, cs, m, D3.md, D3.mc, D3.ne, by rw [upd_ne (fun e => nM (by rw [← e]; exact D3.md))]; exact D3.hd, by rw [upd_ne (fun e => nM (by rw [← e]; exact D3.mc))]; exact D3.hc, D3.len, D3.cb, D3.m0, D3.m1⟩
  refine ⟨M, d, fl.w', D4, .inl ⟨l, _, rfl, .inl ⟨nM, upd_same⟩, by simp, by simp, fun v H5 hv f5 D5 => ?_⟩⟩
  have hr : ∃ r, v = .int r ∧ 0 ≤ r ∧ r < 256 := by
    simp only [List.mem_cons, List.not_mem_nil, or_false] at hv
    rcases hv with rfl | rfl | rfl | rfl | rfl | rfl | rfl | rfl
    · exact ⟨_, rfl, by decide, by decide⟩
    · exact ⟨_, rfl, by decide, by decide⟩
    · exact ⟨_, rfl, by decide, by decide⟩
    · exact ⟨_, rfl, by decide, by decide⟩
    · exact ⟨_, rfl, by decide, by decide⟩
    · exact ⟨_, rfl, a0, a1⟩
    · exact ⟨_, rfl, b0, b1⟩
    · exact ⟨_, rfl, c0, by omega⟩
  obtain ⟨r, rfl, r0, r1'⟩ := hr
  exact q r H5 r0 r1' (fl.trans f5) D5
theorem Deal.new {M : Addr → Prop} {H : Hp} {d l : Addr} {o : HO} (w : Wf M H) (D : Deal M H d) (nl : H l = none) : Deal M (upd H l o) d := by
  have nM : ¬ M l := w.notM nl
  obtain ⟨c, cs, m, D3⟩ := D
  exact ⟨c, cs, m, D3.md, D3.mc, D3.ne, by rw [upd_ne (fun e => nM (by rw [← e]; exact D3.md))]; exact D3.hd, by rw [upd_ne (fun e => nM (by rw [← e]; exact D3.mc))]; exact D3.hc, D3.len, D3.cb, D3.m0, D3.m1⟩
/-- an object that is not of M changes -/
theorem Deal.mut {M : Addr → Prop} {H : Hp} {d l : Addr} {o : HO} (n : ¬ M l) (D : Deal M H d) : Deal M (upd H l o) d := by
  obtain ⟨c, cs, m, D3⟩ := D
  exact ⟨c, cs, m, D3.md, D3.mc, D3.ne, by rw [upd_ne (fun e => n (by rw [← e]; exact D3.md))]; exact D3.hd, by rw [upd_ne (fun e => n (by rw [← e]; exact D3.mc))]; exact D3.hc, D3.len, D3.cb, D3.m0, D3.m1⟩
theorem rd__law_noise (vs : List V) (H : Hp) (Q : VK) (E : XK) (h : sp__law_noise K vs H Q E) : t__law_noise K { nx := fun _ H' => Q .non H', rt := Q } (start N__law_noise vs) H := by
  obtain ⟨M, d, m, rfl, w, D, hm, hm2, q⟩ := h
  refine ⟨M, d, m, rfl, w, D, hm, by omega, fun n H1 n0 n1 f1 D1 => ⟨n, rfl, by omega, by omega, fun l nl => ?_⟩⟩
  have nM : ¬ M l := f1.w'.notM nl
  have nlH : H l = none := by
    cases e : H l with
    | none => rfl
    | some o =>
      have := f1.keep l o nM e
      rw [nl] at this
      cases this
  refine lc_range (lo := 0) (n := n.toNat) (fun i H' => Fr M H H' ∧ Deal M H' d ∧ ∃ os : List Int, H' l = some (.lst (os.map V.int)) ∧ os.length = i ∧ Ok8 os) ⟨f1.new nl, Deal.new f1.w' D1 nl, [], upd_same, rfl, fun _ h => by simp at h⟩ (fun i H' hi hP => ?_) fun H' hP => ?_
  · obtain ⟨f, D', os, el, rfl, h8⟩ := hP
    refine ⟨rfl, M, d, rfl, f.w', D', fun r H2 r0 r1 f2 D2 => ⟨os.map V.int, f2.keep _ _ nM el, line5' (by rw [List.length_map]; omega), ?_⟩⟩
    refine ⟨(f.trans f2).mut nlH, Deal.mut nM D2, os ++ [r], by rw [upd_same, snoc_ints], by simp, fun x hx => ?_⟩
    rcases List.mem_append.mp hx with hx | hx
    · exact h8 x hx
    · rw [List.mem_singleton.mp hx]
      exact ⟨r0, r1⟩
  · obtain ⟨f, D', os, el, hol, h8⟩ := hP
    exact q os l H' h8 (by omega) f D' nlH el
end
section
variable {K : PySem.W.Frag}
theorem val_snoc (l : List Int) (x : Int) : val (l ++ [x]) = val l + 128 ^ l.length * x := valB_snoc 128 l x
theorem rd__law_number_at (vs : List V) (H : Hp) (Q : VK) (E : XK) (h : sp__law_number_at K vs H Q E) : t__law_number_at K { nx := fun _ H' => Q .non H', rt := Q } (start N__law_number_at vs) H := by
  obtain ⟨a, os, pl, rfl, hS, hl, h8, q⟩ := h
  refine ⟨_, _, _, rfl, ?_⟩
  refine iteD (fun h0 => ?_) fun h0 => ?_
  · have e : numAt os pl = none := by
      unfold Oct.numAt
      rw [if_pos h0]
    exact q .non H (Same.refl H) (by rw [e]; rfl)
  have epl : pl = ((pl.toNat : Nat) : Int) := by omega
  have hlen : ((os.map V.int).length : Int) = (os.length : Int) := by rw [List.length_map]
  refine ⟨fun m σ H' => ∃ j : Nat, σ = [some (.ref a), some (.int pl), some (.int (val (((os.drop pl.toNat).take j).map (· - 128)))), some (.int (128 ^ j)), some (.int (pl + (j : Int)))] ∧ H' = H ∧ (j = 0 ∨ pl.toNat + j ≤ os.length) ∧ (∀ i x, i < j → (os.drop pl.toNat)[i]? = some x → ¬ x < 128) ∧ m = os.length - (pl.toNat + j),
    ⟨_, 0, ?_, rfl, .inl rfl, fun i x hi => by omega, rfl⟩, fun m σ H' hW => ?_⟩
  · show _ = ([some (.ref a), some (.int pl), some (.int (val (((os.drop pl.toNat).take 0).map (· - 128)))), some (.int (128 ^ 0)), some (.int (pl + ((0 : Nat) : Int)))] : L2.St)
    have e0 : pl + ((0 : Nat) : Int) = pl := by omega
    rw [e0]
    rfl
  obtain ⟨j, rfl, rfl, hj, hno, rfl⟩ := hW
  have eplj : pl + (j : Int) = ((pl.toNat + j : Nat) : Int) := by omega
  have finish : ∀ (D : Ends), D.rt = Q → ¬ (∃ x, os[pl.toNat + j]? = some x ∧ ¬ x < 128) → (tSeq (tIfS (tOr (tTM (tOp (qI2 fun i j => decide (j ≤ i)) (tV 4) (tCB (qLen K) (tCons (tV 0) tNil)))) (tAnd (tTM (tOp (qI2 fun i j => decide (j < i)) (tV 4) (tV 1))) (tTM (tOp qEqS (tOp (qIx K) (tV 0) (tV 4)) (tC (.int 0)))))) (tRet (tC .non)) tNext)
    (tRet (tTup (tCons (tOp qAdd (tV 2) (tOp qMulW (tV 3) (tOp (qIx K) (tV 0) (tV 4)))) (tCons (tOp qAdd (tV 4) (tC (.int 1))) tNil))))) D [some (.ref a), some (.int pl), some (.int (val (((os.drop pl.toNat).take j).map (· - 128)))), some (.int (128 ^ j)), some (.int (pl + (j : Int)))] H' := by
    intro D0 hrt hend
    by_cases hin : pl.toNat + j < os.length
    · obtain ⟨x, g⟩ : ∃ x, os[pl.toNat + j]? = some x := ⟨_, List.getElem?_eq_getElem hin⟩
      have gd : (os.drop pl.toNat)[j]? = some x := by
        rw [List.getElem?_drop]
        exact g
      have hx : x < 128 := by
        by_cases hx : x < 128
        · exact hx
        · exact absurd ⟨x, g, hx⟩ hend
      have h8x := h8 x (List.mem_of_getElem? g)
      have hf := fidx_of gd hx fun i y hi hy => hno i y hi hy
      have gx : os.getD (pl.toNat + j) 0 = x := getD_of g
      have hix : atI (os.map V.int) (pl + (j : Int)) = some (.int x) := ints_atI eplj g
      have en : numAt os pl = if 0 < j ∧ x = 0 then none else some (val (((os.drop pl.toNat).take j).map (· - 128) ++ [x]), pl.toNat + j + 1) := by
        unfold Oct.numAt
        rw [if_neg h0, hf]
        show (if 0 < j ∧ os.getD (pl.toNat + j) 0 = 0 then none else some (val (((os.drop pl.toNat).take j).map (· - 128) ++ [os.getD (pl.toNat + j) 0]), pl.toNat + j + 1)) = _
        rw [gx]
      refine st_ifd (0 < j ∧ x = 0) (fun k hk => ?_) (fun hc => ?_) fun hc => ?_
      · refine ⟨_, .inl hS, ?_⟩
        rw [hlen]
        refine iteD (fun hge => absurd hge (by omega)) fun _ => ?_
        refine iteD (fun h1 => ?_) fun h1 => ?_
        · refine ⟨_, _, .inl hS, hix, ?_⟩
          have e : decide (x = 0) = decide (0 < j ∧ x = 0) := by
            have : 0 < j := by omega
            simp [this]
          show k (decide (x = 0)) H'
          rw [e]
          exact hk
        · have e : decide (0 < j ∧ x = 0) = false := decide_eq_false fun z => h1 (by omega)
          rw [e] at hk
          exact hk
      · rw [if_pos hc] at en
        show D0.rt .non H'
        rw [hrt]
        exact q .non H' (Same.refl _) (by rw [en]; rfl)
      · rw [if_neg hc] at en
        have hbits := pow_bits j
        refine ⟨_, _, .inl hS, hix, wide_mul hbits (show x.natAbs < 2 ^ 8 by omega) (by omega) (by omega) (by omega), by show 2 ≤ sizeLine; decide, fun t nt => ?_⟩
        rw [hrt]
        refine q (.ref t) _ (same_new nt) ?_
        rw [en]
        refine ⟨t, rfl, ?_⟩
        have elen : (((os.drop pl.toNat).take j).map (· - 128)).length = j := by
          rw [List.length_map, List.length_take, List.length_drop]
          omega
        have ev : val (((os.drop pl.toNat).take j).map (· - 128) ++ [x]) = val (((os.drop pl.toNat).take j).map (· - 128)) + 128 ^ j * x := by
          rw [val_snoc, elen]
        have ee : pl + (j : Int) + 1 = ((pl.toNat + j + 1 : Nat) : Int) := by omega
        rw [ev, ← ee]
        exact upd_same
    · have hf : fidx (os.drop pl.toNat) = none := fidx_no fun i x hx => by
        have hi := (List.getElem?_eq_some_iff.mp hx).1
        rw [List.length_drop] at hi
        rcases hj with rfl | hj
        · omega
        · exact hno i x (by omega) hx
      have en : numAt os pl = none := by
        unfold Oct.numAt
        rw [if_neg h0, hf]
      refine ⟨_, .inl hS, ?_⟩
      rw [hlen]
      refine iteD (fun _ => ?_) fun hlt => absurd (show (os.length : Int) ≤ pl + (j : Int) by omega) hlt
      show D0.rt .non H'
      rw [hrt]
      exact q .non H' (Same.refl _) (by rw [en]; rfl)
  refine ⟨_, .inl hS, ?_⟩
  rw [hlen]
  refine iteD (fun hlt => ?_) fun hlt => finish _ rfl fun ⟨x, g, _⟩ => hlt (by
    have := (List.getElem?_eq_some_iff.mp g).1
    omega)
  have hin : pl.toNat + j < os.length := by omega
  obtain ⟨x, g⟩ : ∃ x, os[pl.toNat + j]? = some x := ⟨_, List.getElem?_eq_getElem hin⟩
  have gd : (os.drop pl.toNat)[j]? = some x := by
    rw [List.getElem?_drop]
    exact g
  have h8x := h8 x (List.mem_of_getElem? g)
  have hix : atI (os.map V.int) (pl + (j : Int)) = some (.int x) := ints_atI eplj g
  refine ⟨_, _, .inl hS, hix, ?_⟩
  refine iteD (fun hx => ?_) fun hx => finish _ rfl fun ⟨y, g2, hy⟩ => hx (by
    rw [g] at g2
    have := Option.some.inj g2
    omega)
  have hbits := pow_bits j
  refine ⟨_, fun _ _ hN => hN, ?_⟩
  refine ⟨_, _, .inl hS, hix, wide_mul hbits (show (x - 128).natAbs < 2 ^ 8 by omega) (by omega) (by omega) (by omega), wide_mul hbits (show (128 : Int).natAbs < 2 ^ 8 by decide) (by omega) (by omega) (by omega), _, _, _, rfl, ?_⟩
  refine ⟨os.length - (pl.toNat + (j + 1)), by omega, j + 1, ?_, rfl, .inr (by omega), fun i y hi hy => ?_, rfl⟩
  · have elen : (((os.drop pl.toNat).take j).map (· - 128)).length = j := by
      rw [List.length_map, List.length_take, List.length_drop]
      omega
    have et : ((os.drop pl.toNat).take (j + 1)).map (· - 128) = ((os.drop pl.toNat).take j).map (· - 128) ++ [x - 128] := by
      rw [List.take_add_one, gd, List.map_append]
      rfl
    have ev : val (((os.drop pl.toNat).take (j + 1)).map (· - 128)) = val (((os.drop pl.toNat).take j).map (· - 128)) + 128 ^ j * (x - 128) := by
      rw [et, val_snoc, elen]
    have e3 : pl + ((j + 1 : Nat) : Int) = pl + (j : Int) + 1 := by omega
    rw [ev, e3, Int.pow_succ]
    rfl
  · by_cases hij : i = j
    · subst hij
      rw [gd] at hy
      have := Option.some.inj hy
      omega
    · exact hno i y (by omega) hy
end
section
variable {K : PySem.W.Frag}
theorem Wf.up {M : Addr → Prop} {H : Hp} {l : Addr} {o : HO} (w : Wf M H) (nl : H l = none) : Wf M (upd H l o) := w.same (same_new nl)
theorem c9 : CPow 128 9 := ⟨by decide, by decide, by decide⟩
theorem rd__law_some_number (vs : List V) (H : Hp) (Q : VK) (E : XK) (h : sp__law_some_number K vs H Q E) : t__law_some_number K { nx := fun _ H' => Q .non H', rt := Q } (start N__law_some_number vs) H := by
  obtain ⟨M, d, rfl, w, D, q⟩ := h
  refine ⟨c9, M, d, 20, rfl, w, D, by decide, by decide, fun n H1 n0 n1 f1 D1 => ⟨n, rfl, by omega, by omega, ?_⟩⟩
  refine for_range (lo := 0) (n := n.toNat) (fun i σ H' => ∃ y2, σ = [some (.ref d), some (.int (128 ^ (9 * (i + 1)))), y2, none] ∧ H' = H1) ⟨none, rfl, rfl⟩ (fun i σ H' hi hP => ?_) fun σ H' hP => ?_
  · obtain ⟨y2, rfl, rfl⟩ := hP
    have hb := pow_bits (9 * (i + 1))
    have h9 : ((128 : Int) ^ (9 : Int).toNat).natAbs < 2 ^ 64 := by decide +kernel
    refine ⟨c9, wide_mul hb h9 (by omega) (by omega) (by omega), some (.int (0 + (i : Int))), ?_, rfl⟩
    have e : (128 : Int) ^ (9 * (i + 1 + 1)) = 128 ^ (9 * (i + 1)) * 128 ^ (9 : Int).toNat := by
      rw [show 9 * (i + 1 + 1) = 9 * (i + 1) + 9 by omega, Int.pow_add]
      rfl
    rw [e]
    rfl
  · obtain ⟨y2, rfl, rfl⟩ := hP
    have hpos : (0 : Int) < 128 ^ (9 * (n.toNat + 1)) := Int.pow_pos (by decide)
    have hle : (128 : Int) ^ (9 * (n.toNat + 1)) ≤ 128 ^ 180 := by
      have h1 := Nat.pow_le_pow_right (n := 128) (by decide) (show 9 * (n.toNat + 1) ≤ 180 by omega)
      have e1 : ((128 : Int) ^ (9 * (n.toNat + 1))) = (((128 ^ (9 * (n.toNat + 1)) : Nat)) : Int) := by
        rw [Int.natCast_pow]
        rfl
      have e2 : ((128 : Int) ^ 180) = (((128 ^ 180 : Nat)) : Int) := by
        rw [Int.natCast_pow]
        rfl
      rw [e1, e2]
      exact Int.ofNat_le.mpr h1
    have hb := pow_bits (9 * (n.toNat + 1))
    have hbig : (128 : Int) ^ 180 * 128 + 10 ^ (20 : Int).toNat < 128 ^ 190 := by decide +kernel
    have h20 : (0 : Int) < 10 ^ (20 : Int).toNat := by decide +kernel
    have h8 : (128 : Int) ^ (8 : Int).toNat < 10 ^ (20 : Int).toNat := by decide +kernel
    have h8p : (1 : Int) ≤ 128 ^ (8 : Int).toNat := by decide +kernel
    have h7 : (2097152 : Int) < 10 ^ (20 : Int).toNat := by decide +kernel
    refine ⟨M, d, 128, rfl, f1.w', D1, by decide, by decide, fun r1 H2 a0 a1 f2 D2 => ⟨M, d, 20000, rfl, f2.w', D2, by decide, by decide, fun r2 H3 b0 b1 f3 D3 => ?_⟩⟩
    refine ⟨⟨by decide, by decide, by decide⟩, M, d, _, rfl, f3.w', D3, h20, fun r3 H4 c0 c1 f4 D4 => ⟨by show 14 ≤ sizeLine; decide, fun l nl => ?_⟩⟩
    have D5 := Deal.new (o := .lst [.int 0, .int 1, .int 127, .int 128, .int 129, .int 255, .int 16383, .int 16384, .int 16385, .int 2097151, .int 2097152, .int r1, .int r2, .int r3]) f4.w' D4 nl
    have f5 := (f1.trans (f2.trans (f3.trans f4))).new (o := .lst [.int 0, .int 1, .int 127, .int 128, .int 129, .int 255, .int 16383, .int 16384, .int 16385, .int 2097151, .int 2097152, .int r1, .int r2, .int r3]) nl
    have el : (upd H4 l (.lst [.int 0, .int 1, .int 127, .int 128, .int 129, .int 255, .int 16383, .int 16384, .int 16385, .int 2097151, .int 2097152, .int r1, .int r2, .int r3])) l = some _ := upd_same
    have nM : ¬ M l := f4.w'.notM nl
    revert D5 f5 el
    generalize upd H4 l (.lst [.int 0, .int 1, .int 127, .int 128, .int 129, .int 255, .int 16383, .int 16384, .int 16385, .int 2097151, .int 2097152, .int r1, .int r2, .int r3]) = H5
    intro D5 f5 el
    refine ⟨wide_mul hb (show (127 : Int).natAbs < 2 ^ 8 by decide) (by omega) (by omega) (by omega), ⟨by decide, by decide, by decide⟩, M, d, _, rfl, f5.w', D5, h20, fun r4 H6 d0 d1 f6 D6 => ?_⟩
    refine ⟨⟨by decide, by decide, by decide⟩, ⟨by decide, by decide, by decide⟩, by show 6 ≤ sizeLine; decide, fun l2 nl2 => ?_⟩
    have el6 := f6.keep _ _ nM el
    have hne : l ≠ l2 := ne_of_none el6 nl2
    have D7 := fun o => Deal.new (o := o) f6.w' D6 nl2
    have f7 := fun o => (f5.trans f6).new (o := o) nl2
    refine ⟨l, l2, _, _, rfl, rfl, by rw [upd_ne hne]; exact el6, upd_same, by show 20 ≤ sizeLine; decide, fun l3 nl3 => ?_⟩
    have D8 := fun o => Deal.new (o := o) (f7 _).w' (D7 _) nl3
    have f8 := fun o => (f7 _).new (o := o) nl3
    have nM3 := (f7 _).w'.notM nl3
    refine ⟨M, d, (f8 _).w', (D8 _), .inl ⟨l3, _, rfl, .inl ⟨nM3, upd_same⟩, by simp, by simp, fun v H9 hv f9 D9 => ?_⟩⟩
    revert hpos hle hbig h20 h8 h8p h7
    intro hpos hle hbig h20 h8 h8p h7
    have hr : ∃ r, v = .int r ∧ 0 ≤ r ∧ r < 128 ^ 190 := by
      simp only [List.cons_append, List.nil_append, List.mem_cons, List.not_mem_nil, or_false] at hv
      generalize (128 : Int) ^ 190 = B at hbig ⊢
      generalize (128 : Int) ^ 180 = B2 at hbig hle
      generalize (128 : Int) ^ (9 * (n.toNat + 1)) = e at hpos hle hv
      generalize (10 : Int) ^ (20 : Int).toNat = T at hbig h20 h8 h7 c1 d1
      generalize (128 : Int) ^ (8 : Int).toNat = e8 at h8 h8p hv
      rcases hv with rfl | rfl | rfl | rfl | rfl | rfl | rfl | rfl | rfl | rfl | rfl | rfl | rfl | rfl | rfl | rfl | rfl | rfl | rfl | rfl <;> exact ⟨_, rfl, by omega, by omega⟩
    obtain ⟨r, rfl, h0, h1⟩ := hr
    exact q r H9 h0 h1 ((f8 _).trans f9) D9
theorem signs_len : signs95.cps.toList.length = 95 := by decide +kernel
theorem mem4 {v : V} {a b c e : Int} (h : v ∈ [V.int a, .int b, .int c, .int e]) : ∃ s, v = .int s ∧ (s = a ∨ s = b ∨ s = c ∨ s = e) := by
  simp only [List.mem_cons, List.not_mem_nil, or_false] at h
  rcases h with rfl | rfl | rfl | rfl
  · exact ⟨_, rfl, .inl rfl⟩
  · exact ⟨_, rfl, .inr (.inl rfl)⟩
  · exact ⟨_, rfl, .inr (.inr (.inl rfl))⟩
  · exact ⟨_, rfl, .inr (.inr (.inr rfl))⟩
theorem rd__law_some_text (vs : List V) (H : Hp) (Q : VK) (E : XK) (h : sp__law_some_text K vs H Q E) : t__law_some_text K { nx := fun _ H' => Q .non H', rt := Q } (start N__law_some_text vs) H := by
  obtain ⟨M, d, rfl, w, D, q⟩ := h
  refine ⟨rfl, by show 4 ≤ sizeLine; decide, fun l nl => ?_⟩
  have D1 := Deal.new (o := .lst [.int 1, .int 7, .int 11, .int 94]) w D nl
  have f1 := (Fr.refl w).new (o := .lst [.int 1, .int 7, .int 11, .int 94]) nl
  refine ⟨M, d, f1.w', D1, .inl ⟨l, _, rfl, .inl ⟨w.notM nl, upd_same⟩, by simp, by simp, fun v H2 hv f2 D2 => ?_⟩⟩
  obtain ⟨s, rfl, hs⟩ := mem4 hv
  have hs0 : 0 ≤ s ∧ s ≤ 94 := by omega
  refine ⟨M, d, 95, rfl, f2.w', D2, by decide, by decide, fun r H3 r0 r1 f3 D3 => ⟨by show 2 ≤ sizeLine; decide, fun t nt => ?_⟩⟩
  have D4 := Deal.new (o := .tup [.int s, .int r]) f3.w' D3 nt
  have f4 := (f1.trans (f2.trans f3)).new (o := .tup [.int s, .int r]) nt
  refine ⟨t, [.int s, .int r], rfl, sqt_of upd_same, rfl, .int s, [.int r], rfl, .int r, [], rfl, rfl, ?_⟩
  revert D4 f4
  generalize upd H3 t (.tup [.int s, .int r]) = H4
  intro D4 f4
  refine ⟨M, d, 4, rfl, f4.w', D4, by decide, by decide, fun r2 H5 _ _ f5 D5 => ?_⟩
  have f05 := f4.trans f5
  refine iteD (fun _ => ?_) fun _ => ?_
  · refine ⟨⟨_, rfl⟩, by show 7 ≤ sizeLine; decide, fun l2 nl2 => ?_⟩
    have D6 := fun o => Deal.new (o := o) f5.w' D5 nl2
    have f6 := fun o => f05.new (o := o) nl2
    refine ⟨M, d, (f6 _).w', (D6 _), .inl ⟨l2, _, rfl, .inl ⟨f5.w'.notM nl2, upd_same⟩, by simp, by simp, fun v H7 hv f7 D7 => ?_⟩⟩
    have hn : ∃ n, v = .int n ∧ 0 ≤ n ∧ n ≤ 300 := by
      simp only [List.mem_cons, List.not_mem_nil, or_false] at hv
      rcases hv with rfl | rfl | rfl | rfl | rfl | rfl | rfl <;> exact ⟨_, rfl, by decide, by decide⟩
    obtain ⟨n, rfl, n0, n1⟩ := hn
    refine ⟨n, rfl, by omega, by omega, fun l3 nl3 => ?_⟩
    refine lc_fun (walk_range (lo := 0) (n := n.toNat)) (fun i => .str ⟨#[signs95.cps.toList.getD ((r + (i : Int) * s) % 95).toNat 0]⟩) nl3 (by omega) (fun _ => rfl) (fun _ _ => trivial) (fun i x H8 H9 hi s8 y => ?_) fun H8 s8 e8 => ?_
    · obtain ⟨rfl, rfl⟩ := y
      refine ⟨Same.refl _, fun Q' k => ?_⟩
      have hm0 : 0 ≤ (r + (0 + (i : Int)) * s) % 95 := Int.emod_nonneg _ (by decide)
      have hm1 : (r + (0 + (i : Int)) * s) % 95 < 95 := Int.emod_lt_of_pos _ (by decide)
      refine ⟨.inr ⟨by omega, by omega⟩, by decide, Nat.le_of_lt (line5' (by show signs95.length ≤ 100000; decide +kernel)), signs95.cps.toList.getD ((r + (0 + (i : Int)) * s) % 95).toNat 0, ?_, ?_⟩
      · have hlt : ((r + (0 + (i : Int)) * s) % 95).toNat < signs95.cps.toList.length := by
          rw [signs_len]
          omega
        have e := atI_nat (List.getElem?_eq_getElem hlt)
        have e2 : (((r + (0 + (i : Int)) * s) % 95).toNat : Int) = (r + (0 + (i : Int)) * s) % 95 := by omega
        rw [e2] at e
        rw [List.getD_eq_getElem?_getD, List.getElem?_eq_getElem hlt]
        exact e
      · have kk := k _ (Same.refl _)
        rw [Int.zero_add]
        exact kk
    · have em : ((List.range n.toNat).map fun i : Nat => V.str ⟨#[signs95.cps.toList.getD ((r + (i : Int) * s) % 95).toNat 0]⟩) = ((List.range n.toNat).map fun i : Nat => signs95.cps.toList.getD ((r + (i : Int) * s) % 95).toNat 0).map fun c => V.str ⟨#[c]⟩ := by
        rw [List.map_map]
        rfl
      rw [em] at e8
      have f8 := ((f6 _).trans f7).trans (.same f7.w' s8)
      obtain ⟨ys, j1, j2, j3⟩ := join_ok (K := K) e8 (by simp; omega)
      refine ⟨ys, j1, j2, ?_⟩
      rw [j3]
      refine q _ H8 (fun c hc => ?_) (by simp; omega) f8 ?_
      · obtain ⟨i, _, rfl⟩ := List.mem_map.mp hc
        have hm0 : 0 ≤ (r + (i : Int) * s) % 95 := Int.emod_nonneg _ (by decide)
        have hm1 : (r + (i : Int) * s) % 95 < 95 := Int.emod_lt_of_pos _ (by decide)
        have hlt : ((r + (i : Int) * s) % 95).toNat < signs95.cps.toList.length := by
          rw [signs_len]
          omega
        rw [List.getD_eq_getElem?_getD, List.getElem?_eq_getElem hlt]
        exact List.getElem_mem hlt
      · obtain ⟨c, cs, m, D8⟩ := D7
        exact ⟨c, cs, m, D8.md, D8.mc, D8.ne, s8 _ _ D8.hd, s8 _ _ D8.hc, D8.len, D8.cb, D8.m0, D8.m1⟩
  · refine ⟨⟨_, rfl⟩, by show 5 ≤ sizeLine; decide, fun l2 nl2 => ?_⟩
    have D6 := fun o => Deal.new (o := o) f5.w' D5 nl2
    have f6 := fun o => f05.new (o := o) nl2
    refine ⟨M, d, (f6 _).w', (D6 _), .inl ⟨l2, _, rfl, .inl ⟨f5.w'.notM nl2, upd_same⟩, by simp, by simp, fun v H7 hv f7 D7 => ?_⟩⟩
    have hn : ∃ n, v = .int n ∧ 0 ≤ n ∧ n ≤ 40 := by
      simp only [List.mem_cons, List.not_mem_nil, or_false] at hv
      rcases hv with rfl | rfl | rfl | rfl | rfl <;> exact ⟨_, rfl, by decide, by decide⟩
    obtain ⟨n, rfl, n0, n1⟩ := hn
    refine ⟨n, rfl, by omega, by omega, fun l3 nl3 => ?_⟩
    have nM : ¬ M l3 := f7.w'.notM nl3
    have f07 := (f6 _).trans f7
    refine lc_range (lo := 0) (n := n.toNat) (fun i H' => Fr M H7 H' ∧ Deal M H' d ∧ ∃ cs : List Nat, H' l3 = some (.lst (cs.map fun c => V.str ⟨#[c]⟩)) ∧ cs.length = i ∧ ∀ c ∈ cs, c ∈ signs95.cps.toList) ⟨(Fr.refl f7.w').new nl3, Deal.new f7.w' D7 nl3, [], upd_same, rfl, fun _ h => by simp at h⟩ (fun i H' hi hP => ?_) fun H' hP => ?_
    · obtain ⟨f, D', cs, el, rfl, hc⟩ := hP
      refine ⟨rfl, M, d, f.w', D', .inr ⟨signs95, rfl, ?_, by decide +kernel, fun c H8 hcm f8 D8 => ?_⟩⟩
      · intro z
        have := signs_len
        rw [z] at this
        cases this
      · refine ⟨_, f8.keep _ _ nM el, line5' (by rw [List.length_map]; omega), (f.trans f8).mut nl3, Deal.mut nM D8, cs ++ [c], ?_, by simp, fun x hx => ?_⟩
        · rw [upd_same, List.map_append]
          rfl
        · rcases List.mem_append.mp hx with hx | hx
          · exact hc x hx
          · rw [List.mem_singleton.mp hx]
            exact hcm
    · obtain ⟨f, D', cs, el, hcl, hc⟩ := hP
      obtain ⟨ys, j1, j2, j3⟩ := join_ok (K := K) el (by omega)
      refine ⟨ys, j1, j2, ?_⟩
      rw [j3]
      exact q cs H' hc (by omega) (f07.trans f) D'
end
section
variable {K : PySem.W.Frag}
def codesL : List Int := signs95.cps.toList.map fun c : Nat => (c : Int)
theorem codes_flat : (codesL.map V.int).all flatV = true := by decide +kernel
theorem codes_len : codesL.length = 95 := by decide +kernel
theorem codes_in_ : ∀ o : Fin 256, inV (.int ((o.val : Nat) : Int)) (codesL.map V.int) = (sgn ((o.val : Nat) : Int)).isSome := by decide +kernel
theorem codes_at_ : ∀ o : Fin 256, (sgn ((o.val : Nat) : Int)).isSome = true → (codesL[codesL.idxOf ((o.val : Nat) : Int)]? = some ((o.val : Nat) : Int) ∧ signs95.cps.toList[codesL.idxOf ((o.val : Nat) : Int)]? = sgn ((o.val : Nat) : Int) ∧
  (codesL.take (codesL.idxOf ((o.val : Nat) : Int))).all (fun c => !(eqV (.int c) (.int ((o.val : Nat) : Int)))) = true) := by decide +kernel
theorem codes_in {o : Int} (h0 : 0 ≤ o) (h1 : o < 256) : inV (.int o) (codesL.map V.int) = (sgn o).isSome := by
  have h := codes_in_ ⟨o.toNat, by omega⟩
  have e : ((o.toNat : Nat) : Int) = o := by omega
  simp only [e] at h
  exact h
theorem codes_at {o : Int} {c : Nat} (h0 : 0 ≤ o) (h1 : o < 256) (hc : sgn o = some c) : ∃ j : Nat, codesL[j]? = some o ∧ signs95.cps.toList[j]? = some c ∧ ∀ (m : Nat) (z : V), m < j → (codesL.map V.int)[m]? = some z → eqV z (.int o) = false := by
  have h := codes_at_ ⟨o.toNat, by omega⟩
  have e : ((o.toNat : Nat) : Int) = o := by omega
  simp only [e] at h
  obtain ⟨a, b, d⟩ := h (by rw [hc]; rfl)
  refine ⟨_, a, b.trans hc, fun m z hm hz => ?_⟩
  obtain ⟨k, hk, rfl⟩ := ints_get hz
  rw [List.all_eq_true] at d
  have hk2 : k ∈ codesL.take (codesL.idxOf o) := by
    refine List.mem_of_getElem? (i := m) ?_
    rw [List.getElem?_take, if_pos hm]
    exact hk
  have := d k hk2
  simpa using this
theorem rd__law_text_at (vs : List V) (H : Hp) (Q : VK) (E : XK) (h : sp__law_text_at K vs H Q E) : t__law_text_at K { nx := fun _ H' => Q .non H', rt := Q } (start N__law_text_at vs) H := by
  obtain ⟨a, os, pl, rfl, hS, hl, h8, q⟩ := h
  refine ⟨a, os, pl, rfl, hS, hl, h8, fun v H1 s1 hv => ?_⟩
  have hS1 := Same.seq s1 hS
  cases hn : numAt os pl with
  | none =>
    rw [hn] at hv
    obtain rfl : v = .non := hv
    have e : txtAt os pl = none := by
      unfold txtAt
      rw [hn]
    exact q .non H1 s1 (by rw [e]; rfl)
  | some ne =>
    obtain ⟨n, e0⟩ := ne
    have hend := numAt_end hn
    have hpos := numAt_pos (fun x hx => (h8 x hx).1) hn
    rw [hn] at hv
    obtain ⟨p, rfl, ep⟩ : ∃ p, v = .ref p ∧ H1 p = some (.tup [.int n, .int (e0 : Nat)]) := hv
    dsimp only [gName]
    refine st_ifd ((os.length : Int) - e0 < n) (fun k hk => ?_) (fun hc => ?_) fun hc => ?_
    · refine ⟨_, _, .inr (sqt_of ep), rfl, _, .inl hS1, _, _, .inr (sqt_of ep), rfl, ?_⟩
      rw [List.length_map]
      exact hk
    · have e : txtAt os pl = none := by
        unfold txtAt
        rw [hn]
        show (if (os.length : Int) - e0 < n then none else _) = none
        rw [if_pos hc]
      exact q .non H1 s1 (by rw [e]; rfl)
    · refine ⟨rfl, signs95, rfl, fun lc nlc => ?_⟩
      have w := walk_str (z := signs95)
      rw [show signs95.cps.size = codesL.length by decide +kernel] at w
      refine lc_fun w (fun i => .int (codesL.getD i 0)) nlc (by rw [codes_len]; decide) (fun _ => rfl) (fun _ _ => trivial) (fun i x H2 H3 hi s2 y => ?_) fun H2 s2 e2 => ?_
      · obtain ⟨rfl, c, hc2, rfl⟩ := y
        refine ⟨Same.refl _, fun Q' k' => ⟨c, rfl, ?_⟩⟩
        have e : codesL[i]? = some (c : Int) := by
          unfold codesL
          rw [List.getElem?_map, Array.getElem?_toList, hc2]
          rfl
        have kk := k' _ (Same.refl _)
        rw [getD_of e] at kk
        exact kk
      · rw [range_map codesL 0 V.int] at e2
        refine ⟨rfl, by show 2 ≤ sizeLine; decide, fun tp ntp => ?_⟩
        have e2' : (upd H2 tp (.tup [.ref lc, .str signs95])) lc = some (.lst (codesL.map V.int)) := by
          rw [upd_ne (ne_of_none e2 ntp)]
          exact e2
        have s13 := ((same_new (o := .lst []) nlc).trans (Same.refl _)) |> fun _ => s2.trans (same_new (o := .tup [.ref lc, .str signs95]) ntp)
        have etp : (upd H2 tp (.tup [.ref lc, .str signs95])) tp = some (.tup [.ref lc, .str signs95]) := upd_same
        revert e2' s13 etp
        generalize upd H2 tp (.tup [.ref lc, .str signs95]) = H3
        intro e2' s13 etp
        refine ⟨tp, _, rfl, sqt_of etp, rfl, .ref lc, [.str signs95], rfl, .str signs95, [], rfl, rfl, ?_⟩
        have s13 : Same H1 H3 := fun x o hx => s13 x o hx
        have ep3 := s13 _ _ ep
        have hS3 := Same.seq s13 hS1
        refine ⟨_, _, .inr (sqt_of ep3), rfl, _, _, .inr (sqt_of ep3), rfl, _, _, .inr (sqt_of ep3), rfl, .inl ⟨_, hS3, fun b nb => ?_⟩⟩
        have ee : ((e0 : Nat) : Int) + n = ((e0 + n.toNat : Nat) : Int) := by omega
        rw [ee, cut_nn, Nat.add_sub_cancel_left, ← List.map_drop, ← List.map_take]
        have et : txtAt os pl = match sgns ((os.drop e0).take n.toNat) with
          | none => none
          | some cs => some (cs, e0 + n.toNat) := by
          unfold txtAt
          rw [hn]
          show (if (os.length : Int) - e0 < n then none else _) = _
          exact if_neg hc
        generalize hsl : (os.drop e0).take n.toNat = sl at et
        have hsll : sl.length ≤ 19000 := by
          rw [← hsl, List.length_take, List.length_drop]
          omega
        have h8s : ∀ k ∈ sl, 0 ≤ k ∧ k < 256 := fun k hk => by
          rw [← hsl] at hk
          exact h8 k (List.mem_of_mem_drop (List.mem_of_mem_take hk))
        have s34 : Same H3 (upd H3 b (.lst (sl.map V.int))) := same_new nb
        have eb : (upd H3 b (.lst (sl.map V.int))) b = some (.lst (sl.map V.int)) := upd_same
        revert s34 eb
        generalize upd H3 b (.lst (sl.map V.int)) = H4
        intro s34 eb
        have elc4 := s34 _ _ e2'
        have wl := walk_list (K := K) (a := b) (xs := sl.map V.int)
        rw [List.length_map] at wl
        dsimp only [gName]
        · refine ⟨b, rfl, ⟨_, sql_of eb⟩, fun l nl => ?_⟩
          refine lc_fil wl (fun i => !(sgn (sl.getD i 0)).isSome) (fun i => .int (sl.getD i 0)) nl (by omega) (fun _ => rfl) (fun H5 s5 => sql_of (s5 _ _ eb)) (fun i y H5 H6 hi s5 hy => ?_) fun H5 s5 e5 => ?_
          · obtain ⟨rfl, hy⟩ := hy
            obtain ⟨k5, hk5, rfl⟩ := ints_get hy
            have hm := h8s k5 (List.mem_of_getElem? hk5)
            refine ⟨Same.refl _, fun Q' k' => ?_, fun _ H7 s7 Q' k' => ?_⟩
            · refine ⟨lc, codesL.map V.int, rfl, .inl (sql_of (s5 _ _ elc4)), rfl, codes_flat, ?_⟩
              show Q' (!inV (.int k5) (codesL.map V.int)) _
              rw [codes_in hm.1 hm.2]
              have kk := k' _ (Same.refl _)
              rw [getD_of hk5] at kk
              exact kk
            · have kk := k' _ (Same.refl _)
              rw [getD_of hk5] at kk
              exact kk
          · refine ⟨_, .inl (sql_of e5), ?_⟩
            have eqb : decide ((0 : Int) < (((((List.range sl.length).filter fun i => !(sgn (sl.getD i 0)).isSome).map fun i => V.int (sl.getD i 0)).length : Nat) : Int)) = !(sgns sl).isSome := by
              rw [List.length_map]
              cases hs : sgns sl with
              | none =>
                obtain ⟨o, ho, eo⟩ := sgns_none hs
                obtain ⟨i, hi, rfl⟩ := List.getElem_of_mem ho
                have hmem : i ∈ (List.range sl.length).filter fun i => !(sgn (sl.getD i 0)).isSome := by
                  refine List.mem_filter.mpr ⟨List.mem_range.mpr hi, ?_⟩
                  rw [List.getD_eq_getElem?_getD, List.getElem?_eq_getElem hi]
                  show (!(sgn sl[i]).isSome) = true
                  rw [eo]
                  rfl
                have := List.length_pos_of_mem hmem
                exact decide_eq_true (by omega)
              | some cs =>
                have hno : (List.range sl.length).filter (fun i => !(sgn (sl.getD i 0)).isSome) = [] := by
                  rw [List.filter_eq_nil_iff]
                  intro i hi
                  have hi' := List.mem_range.mp hi
                  have := sgns_mem hs sl[i] (List.getElem_mem hi')
                  rw [List.getD_eq_getElem?_getD, List.getElem?_eq_getElem hi']
                  show ¬ (!(sgn sl[i]).isSome) = true
                  cases hq : sgn sl[i] with
                  | none => exact absurd hq this
                  | some c => simp
                rw [hno]
                rfl
            rw [List.length_map] at eqb
            rw [List.length_map]
            have s15 := s1.trans (s13.trans (s34.trans s5))
            refine (show (if decide ((0 : Int) < ((((List.range sl.length).filter fun i => !(sgn (sl.getD i 0)).isSome).length : Nat) : Int)) = true then _ else _) from ?_)
            rw [eqb]
            cases hs : sgns sl with
            | none =>
              rw [hs] at et
              exact iteT (q .non H5 s15 (by rw [et]; rfl))
            | some cs =>
              rw [hs] at et
              refine iteF ⟨⟨_, rfl⟩, b, rfl, ⟨_, sql_of (s5 _ _ eb)⟩, fun l2 nl2 => ?_⟩
              have hal := sgns_all hs
              have hcl : cs.length = sl.length := by
                have := congrArg List.length hal
                rw [List.length_map, List.length_map] at this
                omega
              have elc5 := s5 _ _ elc4
              have eb5 := s5 _ _ eb
              refine lc_fun wl (fun i => .str ⟨#[cs.getD i 0]⟩) nl2 (by omega) (fun _ => rfl) (fun H6 s6 => sql_of (s6 _ _ eb5)) (fun i y H6 H7 hi s6 hy => ?_) fun H6 s6 e6 => ?_
              · obtain ⟨rfl, hy⟩ := hy
                obtain ⟨k6, hk6, rfl⟩ := ints_get hy
                have hm := h8s k6 (List.mem_of_getElem? hk6)
                refine ⟨Same.refl _, fun Q' k' => ?_⟩
                have hci : ∃ c, cs[i]? = some c ∧ sgn k6 = some c := by
                  have h := congrArg (fun l : List (Option Nat) => l[i]?) hal
                  simp only [List.getElem?_map, hk6] at h
                  cases hq : cs[i]? with
                  | none =>
                    rw [hq] at h
                    cases h
                  | some c =>
                    rw [hq] at h
                    exact ⟨c, rfl, Option.some.inj h⟩
                obtain ⟨c, hc1, hc2⟩ := hci
                obtain ⟨j, hj1, hj2, hj3⟩ := codes_at hm.1 hm.2 hc2
                have kk := k' _ (Same.refl _)
                rw [getD_of hc1] at kk
                refine ⟨.inl ⟨rfl, _, sql_of (s6 _ _ elc5)⟩, lc, codesL.map V.int, .int k6, j, .int k6, rfl, rfl, sql_of (s6 _ _ elc5), rfl, codes_flat, ?_, ?_, hj3, ?_⟩
                · rw [List.getElem?_map, hj1]
                  rfl
                · show decide _ = true
                  simp
                · exact ⟨Nat.le_of_lt (line5' (by show signs95.length ≤ 100000; decide +kernel)), c, atI_nat hj2, kk⟩
              · have em : ((List.range sl.length).map fun i => V.str ⟨#[cs.getD i 0]⟩) = cs.map fun c => V.str ⟨#[c]⟩ := by
                  rw [← hcl]
                  exact range_map cs 0 fun c => V.str ⟨#[c]⟩
                rw [em] at e6
                obtain ⟨ys, j1, j2, j3⟩ := join_ok (K := K) e6 (by omega)
                refine ⟨ys, j1, j2, ?_⟩
                rw [j3]
                have ep6 := s6 _ _ (s5 _ _ (s34 _ _ ep3))
                refine ⟨_, _, .inr (sqt_of ep6), rfl, _, _, .inr (sqt_of ep6), rfl, by show 2 ≤ sizeLine; decide, fun r nr => ?_⟩
                refine q (.ref r) _ ((s15.trans s6).trans (same_new nr)) ?_
                rw [et]
                refine ⟨r, rfl, ?_⟩
                rw [← ee]
                exact upd_same
end
end LO
/-! What a law's own body keeps: where draws come from, the pairs gathered. -/
namespace LH
open PySem PySem.Spec PyProof.Rows L2 Kx LO Oct
section
variable {K : PySem.W.Frag}
structure LS (K : PySem.W.Frag) (M : Addr → Prop) (d p : Addr) (H : Hp) (ws : List V) : Prop where
  w : Wf M H
  dl : Deal M H d
  np : ¬ M p
  e : H p = some (.lst ws)
  pr : Prs K (Mo M p) H ws
variable {M : Addr → Prop} {d p : Addr} {H H' : Hp} {ws : List V}
theorem Prs.fr {N : Addr → Prop} (h : Prs K N H ws) (f : Fr N H H') : Prs K N H' ws := fun w hw => by
  obtain ⟨q, a, b, dd, e, t, ha, hb, hn, hz⟩ := h w hw
  exact ⟨q, a, b, dd, e, f.sqt t, ha.fr f, hb.fr f, hn, hz⟩
theorem Deal.same (D : Deal M H d) (s : Same H H') : Deal M H' d := by
  obtain ⟨c, cs, m, D⟩ := D
  exact ⟨c, cs, m, D.md, D.mc, D.ne, s _ _ D.hd, s _ _ D.hc, D.len, D.cb, D.m0, D.m1⟩
theorem LS.fr (S : LS K M d p H ws) (f : Fr M H H') (D : Deal M H' d) : LS K M d p H' ws ∧ Fr (Mo M p) H H' :=
  have g := f.mo S.np S.e
  ⟨⟨f.w', D, S.np, f.keep _ _ S.np S.e, S.pr.fr g⟩, g⟩
theorem LS.same (S : LS K M d p H ws) (s : Same H H') : LS K M d p H' ws ∧ Fr (Mo M p) H H' := S.fr (.same S.w s) (Deal.same S.dl s)
theorem LS.new (S : LS K M d p H ws) {l : Addr} {o : HO} (nl : H l = none) : LS K M d p (upd H l o) ws ∧ Fr (Mo M p) H (upd H l o) := S.same (same_new nl)
theorem LS.nm (S : LS K M d p H ws) {l : Addr} (nl : H l = none) : ¬ Mo M p l := fun m => by
  rcases m with m | rfl
  · exact S.w.notM nl m
  · rw [S.e] at nl
    cases nl
theorem LS.push (S : LS K M d p H ws) {x y : V} {dd : D} (hx : Dat K (Mo M p) H x dd) (hy : Dat K (Mo M p) H y dd) (hn : dd.noL = true) (hz : dd.sz ≤ 100000) {q : Addr} (nq : H q = none) :
    (upd H q (.tup [x, y])) p = some (.lst ws) ∧ LS K M d p (upd (upd H q (.tup [x, y])) p (.lst (ws ++ [.ref q]))) (ws ++ [.ref q]) ∧ Fr (Mo M p) H (upd (upd H q (.tup [x, y])) p (.lst (ws ++ [.ref q]))) := by
  obtain ⟨S1, f1⟩ := S.new (o := .tup [x, y]) nq
  have f2 := f1.put (xs := ws ++ [.ref q]) (.inr rfl)
  have g2 : Fr (Mo M p) (upd H q (.tup [x, y])) (upd (upd H q (.tup [x, y])) p (.lst (ws ++ [.ref q]))) := (Fr.refl f1.w').put (.inr rfl)
  refine ⟨S1.e, ⟨?_, ?_, S.np, upd_same, fun w hw => ?_⟩, f2⟩
  · refine ⟨fun a m => ?_, fun a xs m r => ?_⟩
    · have ne : a ≠ p := fun e => S.np (by rw [← e]; exact m)
      rw [upd_ne ne]
      exact S1.w.al a m
    · have ne : a ≠ p := fun e => S.np (by rw [← e]; exact m)
      refine S1.w.nt a xs m ?_
      unfold Rd at r ⊢
      rw [upd_ne ne] at r
      exact r
  · exact Deal.mut S.np S1.dl
  · rcases List.mem_append.mp hw with hw | hw
    · exact (S1.pr.fr g2) w hw
    · obtain rfl := List.mem_singleton.mp hw
      exact ⟨q, x, y, dd, rfl, g2.sqt (sqt_of upd_same), hx.fr f2, hy.fr f2, hn, hz⟩
theorem ite_same {c : Prop} [Decidable c] {A B R : Prop} (ha : R → A) (hb : R → B) (r : R) : if c then A else B := by
  by_cases h : c
  · rw [if_pos h]
    exact ha r
  · rw [if_neg h]
    exact hb r
theorem noL_ints (ns : List Int) : (D.t (ns.map D.i)).noL = true := by
  rw [D.noL_t]
  intro x hx
  obtain ⟨n, _, rfl⟩ := List.mem_map.mp hx
  simp [D.noL]
theorem sz_ints (ns : List Int) : (D.t (ns.map D.i)).sz = 1 + ns.length := by
  rw [D.sz_t, List.map_map]
  have : ∀ ns : List Int, (ns.map (D.sz ∘ D.i)).sum = ns.length := fun ns => by
    induction ns with
    | nil => rfl
    | cons n ns ih =>
      rw [List.map_cons, List.sum_cons, ih, List.length_cons]
      simp [D.sz]
      omega
  rw [this]
theorem cut_to' (ns : List Int) {r : Int} (h : 0 ≤ r) : cutV (ns.map V.int) none (some r) = (ns.take r.toNat).map V.int := by
  have e : r = ((r.toNat : Nat) : Int) := by omega
  rw [e, cut_to, List.map_take, ← e]
theorem cut_from' (ns : List Int) {r : Int} (h : 0 ≤ r) : cutV (ns.map V.int) (some r) none = (ns.drop r.toNat).map V.int := by
  have e : r = ((r.toNat : Nat) : Int) := by omega
  rw [e, cut_from, List.map_drop, ← e]
theorem two_ok : 2 ≤ sizeLine := by decide
/-- where a law's draws begin -/
theorem deal_start {H' : Hp} {d c : Addr} {cs : List Int} {m : Int} (ne : c ≠ d) (hd : H' d = some (.lst [.ref c, .int m])) (hc : H' c = some (.lst (cs.map V.int))) (hl : cs.length ≤ 63) (hb : ∀ x ∈ cs, 0 ≤ x) (m0 : 0 ≤ m) (m1 : m < 2147483647) :
    Wf (fun a => a = d ∨ a = c) H' ∧ Deal (fun a => a = d ∨ a = c) H' d := by
  refine ⟨⟨fun a m => ?_, fun a xs m r => ?_⟩, c, cs, m, .inl rfl, .inr rfl, ne, hd, hc, hl, hb, m0, m1⟩
  · rcases m with rfl | rfl
    · exact ⟨_, hd⟩
    · exact ⟨_, hc⟩
  · rcases m with rfl | rfl
    · rcases r with r | ⟨u, r⟩
      · rw [hd] at r
        cases r
      · rw [hd] at r
        cases r
    · rcases r with r | ⟨u, r⟩
      · rw [hc] at r
        cases r
      · rw [hc] at r
        cases r
theorem LS.start {w : Wf M H} {D : Deal M H d} {p : Addr} (np : H p = none) : LS K M d p (upd H p (.lst [])) [] :=
  ⟨w.same (same_new np), Deal.same D (same_new np), w.notM np, upd_same, fun w hw => by simp at hw⟩
end
end LH
/-! Small facts of the laws' bodies. -/
namespace LO
open PySem PySem.Spec PyProof.Rows L2 Kx LH Oct
section
variable {K : PySem.W.Frag} {M : Addr → Prop} {d p : Addr} {H H' : Hp} {ws : List V}
def numD : Option (Int × Nat) → D
  | none => .n
  | some (n, e) => .t [.i n, .i (e : Nat)]
def txtD : Option (List Nat × Nat) → D
  | none => .n
  | some (cs, e) => .t [.s (SX.S cs), .i (e : Nat)]
theorem numV_dat {v : V} {o : Option (Int × Nat)} (h : NumV H v o) : Dat K M H v (numD o) := by
  cases o with
  | none =>
    obtain rfl : v = .non := h
    exact .n
  | some ne =>
    obtain ⟨p, rfl, e⟩ : ∃ p, v = .ref p ∧ H p = some (.tup [.int ne.1, .int (ne.2 : Nat)]) := h
    exact .t (sqt_of e) (.cons (.i _) (.cons (.i _) .nil))
theorem txtV_dat {v : V} {o : Option (List Nat × Nat)} (h : TxtV H v o) : Dat K M H v (txtD o) := by
  cases o with
  | none =>
    obtain rfl : v = .non := h
    exact .n
  | some ne =>
    obtain ⟨p, rfl, e⟩ : ∃ p, v = .ref p ∧ H p = some (.tup [.str (SX.S ne.1), .int (ne.2 : Nat)]) := h
    exact .t (sqt_of e) (.cons (.s _) (.cons (.i _) .nil))
theorem numD_ok (o : Option (Int × Nat)) : (numD o).noL = true ∧ (numD o).sz ≤ 100000 := by
  cases o <;> simp [numD, D.noL, D.sz]
theorem txtD_ok (o : Option (List Nat × Nat)) : (txtD o).noL = true ∧ (txtD o).sz ≤ 100000 := by
  cases o <;> simp [txtD, D.noL, D.sz]
theorem ti_dat {v : V} {ns : List Int} (h : TI K H v ns) : Dat K M H v (.t (ns.map .i)) := by
  obtain ⟨a, rfl, t⟩ := h
  exact .t t (Dats.ints _)
theorem ints_ok (ns : List Int) (h : ns.length ≤ 90000) : (D.t (ns.map D.i)).noL = true ∧ (D.t (ns.map D.i)).sz ≤ 100000 := ⟨noL_ints ns, by rw [sz_ints]; omega⟩
theorem sign_all : ∀ c ∈ signs95.cps.toList, sgn ((c : Nat) : Int) = some c ∧ c < 256 := by decide +kernel
theorem octs_two (n : Int) (h : n < 16384) : (octs n).length ≤ 2 := octs_len 1 n (by omega)
theorem body_ok {cs : List Nat} (h : ∀ c ∈ cs, c ∈ signs95.cps.toList) (hl : cs.length ≤ 300) : (body cs).length ≤ 302 ∧ Ok8 (body cs) ∧ 1 ≤ (body cs).length := by
  have h1 := octs_two (cs.length : Int) (by omega)
  have h2 := (numAt_octs cs.length (cs.length : Int) (by omega) (by omega) []).2.1
  refine ⟨?_, fun x hx => ?_, ?_⟩
  · unfold body
    rw [List.length_append, List.length_map]
    omega
  · unfold body at hx
    rcases List.mem_append.mp hx with hx | hx
    · exact octs_range cs.length _ (by omega) (by omega) x hx
    · obtain ⟨c, hc, rfl⟩ := List.mem_map.mp hx
      have := (sign_all c (h c hc)).2
      omega
  · unfold body
    rw [List.length_append]
    omega
theorem Ok8.app {a b : List Int} (ha : Ok8 a) (hb : Ok8 b) : Ok8 (a ++ b) := fun x hx => by
  rcases List.mem_append.mp hx with hx | hx
  · exact ha x hx
  · exact hb x hx
/-- a row that takes an octet's place -/
def RowOk (M : Addr → Prop) (H : Hp) (v : V) : Prop := ∃ x os, v = .ref x ∧ ¬ M x ∧ H x = some (.lst (os.map V.int)) ∧ Ok8 os ∧ os.length ≤ 2
theorem RowOk.fr {v : V} (f : Fr M H H') (h : RowOk M H v) : RowOk M H' v := by
  obtain ⟨x, os, e, n, e2, o, l⟩ := h
  exact ⟨x, os, e, n, f.keep _ _ n e2, o, l⟩
theorem rep_sum : (prods (List.replicate 3000 (255 : Int))).sum = (255 : Int) * 3000 * 3001 / 2 := by
  have h := prods_rep 255 3000
  have e : ((255 : Int) * (((3000 : Nat) : Int) * (((3000 : Nat) : Int) + 1))) = 2295765000 := by decide
  rw [e] at h
  have e2 : (255 : Int) * 3000 * 3001 / 2 = 1147882500 := by decide
  rw [e2]
  omega
end
end LO
/-! Frames: what stands from a place on. -/
namespace Oct
open PySem
def sumI (b : List Int) : Int := (prods b).sum % 65521
def tail2 (b : List Int) : List Int := [sumI b % 256, sumI b / 256]
def framed (b : List Int) : List Int := octs (b.length : Int) ++ b ++ tail2 b
def frameAt (os : List Int) (pl : Int) : Option (List Int × Nat) := match numAt os pl with
  | none => none
  | some (n, e) => if (os.length : Int) - e < n + 2 then none else
      if (os.drop (e + n.toNat)).take 2 = tail2 ((os.drop e).take n.toNat) then some ((os.drop e).take n.toNat, e + n.toNat + 2) else none
theorem frameAt_end {os : List Int} (ho : ∀ x ∈ os, 0 ≤ x) {pl : Int} {b : List Int} {e : Nat} (h : frameAt os pl = some (b, e)) : 0 ≤ pl ∧ pl.toNat < e ∧ e ≤ os.length := by
  unfold frameAt at h
  cases q : numAt os pl with
  | none =>
    rw [q] at h
    cases h
  | some ne =>
    obtain ⟨n, f⟩ := ne
    have h1 := numAt_end q
    have h2 := numAt_pos ho q
    rw [q] at h
    by_cases hc : (os.length : Int) - f < n + 2
    · simp only [if_pos hc] at h
      cases h
    · simp only [if_neg hc] at h
      by_cases hd : (os.drop (f + n.toNat)).take 2 = tail2 ((os.drop f).take n.toNat)
      · rw [if_pos hd] at h
        have := (Prod.mk.inj (Option.some.inj h)).2
        omega
      · rw [if_neg hd] at h
        cases h
theorem frameAt_mid (ahead behind b : List Int) : frameAt (ahead ++ framed b ++ behind) ahead.length = some (b, ahead.length + (framed b).length) := by
  have e1 : ahead ++ framed b ++ behind = ahead ++ octs (b.length : Int) ++ (b ++ (tail2 b ++ behind)) := by
    unfold framed
    simp only [List.append_assoc]
  have e2 := numAt_mid ahead (b ++ (tail2 b ++ behind)) (n := (b.length : Int)) (by omega)
  have d1 : (ahead ++ octs (b.length : Int) ++ (b ++ (tail2 b ++ behind))).drop (ahead.length + (octs (b.length : Int)).length) = b ++ (tail2 b ++ behind) := by
    rw [← List.length_append, List.drop_left]
  have d2 : (ahead ++ octs (b.length : Int) ++ (b ++ (tail2 b ++ behind))).drop (ahead.length + (octs (b.length : Int)).length + b.length) = tail2 b ++ behind := by
    rw [← List.drop_drop, d1, List.drop_left]
  have t1 : (b ++ (tail2 b ++ behind)).take b.length = b := List.take_left
  have t2 : (tail2 b ++ behind).take 2 = tail2 b := rfl
  have hl : (framed b).length = (octs (b.length : Int)).length + b.length + 2 := by
    unfold framed tail2
    simp only [List.length_append, List.length_cons, List.length_nil]
  unfold frameAt
  rw [e1, e2]
  simp only [Int.toNat_natCast]
  rw [if_neg (by simp only [List.length_append]; unfold tail2; simp only [List.length_cons, List.length_nil]; omega), d2, d1, t1, t2, if_pos rfl, hl]
  simp only [Nat.add_assoc]
theorem frameAt_len (os : List Int) : frameAt os os.length = none := by
  have : numAt os os.length = none := by
    unfold numAt
    rw [if_neg (by omega), Int.toNat_natCast, List.drop_length]
    rfl
  unfold frameAt
  rw [this]
theorem frameAt_cut (ahead b : List Int) {k : Nat} (hk : k < (framed b).length) : frameAt (ahead ++ (framed b).take k) ahead.length = none := by
  have hl : (framed b).length = (octs (b.length : Int)).length + b.length + 2 := by
    unfold framed tail2
    simp only [List.length_append, List.length_cons, List.length_nil]
  by_cases h : k < (octs (b.length : Int)).length
  · have e1 : (framed b).take k = (octs (b.length : Int)).take k := by
      unfold framed
      rw [List.append_assoc, List.take_append_of_le_length (by omega)]
    have hn : numAt (ahead ++ (framed b).take k) ahead.length = none := by
      unfold numAt
      rw [if_neg (by omega), Int.toNat_natCast, e1, List.drop_left]
      have f1 := (numAt_octs b.length (b.length : Int) (by omega) (by omega) []).1
      rw [List.append_nil] at f1
      have f2 := (fidx_some f1).2.2
      rw [fidx_no fun i x hx => ?_]
      rw [List.getElem?_take] at hx
      by_cases hi : i < k
      · rw [if_pos hi] at hx
        exact f2 i x (by omega) hx
      · rw [if_neg hi] at hx
        cases hx
    unfold frameAt
    rw [hn]
  · have e1 : ahead ++ (framed b).take k = ahead ++ octs (b.length : Int) ++ (b ++ tail2 b).take (k - (octs (b.length : Int)).length) := by
      unfold framed
      rw [List.append_assoc (octs _), List.take_append, List.take_of_length_le (by omega), List.append_assoc]
    have e2 := numAt_mid ahead ((b ++ tail2 b).take (k - (octs (b.length : Int)).length)) (n := (b.length : Int)) (by omega)
    unfold frameAt
    rw [e1, e2]
    simp only []
    rw [if_pos]
    simp only [List.length_append, List.length_take]
    unfold tail2
    simp only [List.length_cons, List.length_nil]
    omega
/-- the bodies of all whole right frames from a place on, the place behind them -/
inductive Frm (os : List Int) : Nat → List (List Int) → Nat → Prop
  | stop {pl : Nat} : frameAt os pl = none → Frm os pl [] pl
  | step {pl e e2 : Nat} {b : List Int} {bs : List (List Int)} : frameAt os pl = some (b, e) → Frm os e bs e2 → Frm os pl (b :: bs) e2
theorem Frm.det {os : List Int} : ∀ {pl : Nat} {bs cs : List (List Int)} {e f : Nat}, Frm os pl bs e → Frm os pl cs f → bs = cs ∧ e = f := by
  intro pl bs cs e f h
  induction h generalizing cs f with
  | stop h =>
    intro g
    cases g with
    | stop _ => exact ⟨rfl, rfl⟩
    | step g1 _ =>
      rw [h] at g1
      cases g1
  | step h1 _ ih =>
    intro g
    cases g with
    | stop g1 =>
      rw [h1] at g1
      cases g1
    | step g1 g2 =>
      rw [h1] at g1
      have e := Prod.mk.inj (Option.some.inj g1)
      obtain ⟨rfl, rfl⟩ := e
      obtain ⟨rfl, rfl⟩ := ih g2
      exact ⟨rfl, rfl⟩
theorem frm_rows (tail : List Int) (r : List (List Int)) (e : Nat) : ∀ (bs : List (List Int)) (ahead : List Int), Frm (ahead ++ (bs.map framed).flatten ++ tail) (ahead.length + ((bs.map framed).flatten).length) r e → Frm (ahead ++ (bs.map framed).flatten ++ tail) ahead.length (bs ++ r) e
  | [], ahead, h => by simpa using h
  | b :: bs, ahead, h => by
    have e1 : ahead ++ ((b :: bs).map framed).flatten ++ tail = ahead ++ framed b ++ ((bs.map framed).flatten ++ tail) := by
      simp only [List.map_cons, List.flatten_cons, List.append_assoc]
    have e2 : ahead ++ ((b :: bs).map framed).flatten ++ tail = (ahead ++ framed b) ++ (bs.map framed).flatten ++ tail := by
      simp only [List.map_cons, List.flatten_cons, List.append_assoc]
    refine .step (b := b) (e := ahead.length + (framed b).length) ?_ ?_
    · rw [e1]
      exact frameAt_mid _ _ _
    · rw [e2, ← List.length_append]
      refine frm_rows tail r e bs (ahead ++ framed b) ?_
      rw [← e2]
      have e3 : (ahead ++ framed b).length + ((bs.map framed).flatten).length = ahead.length + (((b :: bs).map framed).flatten).length := by
        simp only [List.map_cons, List.flatten_cons, List.length_append]
        omega
      rw [e3]
      exact h
/-- rows of whole frames -/
theorem frm_whole (bs : List (List Int)) : Frm (bs.map framed).flatten 0 bs ((bs.map framed).flatten).length := by
  have h := frm_rows [] [] ((bs.map framed).flatten).length bs []
  simp only [List.nil_append, List.append_nil, List.length_nil, Nat.zero_add] at h
  exact h (.stop (frameAt_len _))
/-- .. and a frame that is cut -/
theorem frm_cut (bs : List (List Int)) (b : List Int) {k : Nat} (hk : k < (framed b).length) : Frm ((bs.map framed).flatten ++ (framed b).take k) 0 bs ((bs.map framed).flatten).length := by
  have h := frm_rows ((framed b).take k) [] ((bs.map framed).flatten).length bs []
  simp only [List.nil_append, List.append_nil, List.length_nil, Nat.zero_add] at h
  exact h (.stop (frameAt_cut _ b hk))
theorem frm_ex {os : List Int} (ho : ∀ x ∈ os, 0 ≤ x) : ∀ (n pl : Nat), os.length - pl ≤ n → ∃ bs e, Frm os pl bs e := by
  intro n
  induction n with
  | zero =>
    intro pl hn
    cases q : frameAt os pl with
    | none => exact ⟨[], pl, .stop q⟩
    | some be =>
      obtain ⟨b, e⟩ := be
      have := frameAt_end ho q
      omega
  | succ n ih =>
    intro pl hn
    cases q : frameAt os pl with
    | none => exact ⟨[], pl, .stop q⟩
    | some be =>
      obtain ⟨b, e⟩ := be
      have := frameAt_end ho q
      obtain ⟨bs, f, h⟩ := ih e (by omega)
      exact ⟨b :: bs, f, .step q h⟩
theorem framed_len (b : List Int) : (framed b).length = (octs (b.length : Int)).length + b.length + 2 := by
  unfold framed tail2
  simp only [List.length_append, List.length_cons, List.length_nil]
theorem sumI_range (b : List Int) : 0 ≤ sumI b ∧ sumI b < 65521 := ⟨Int.emod_nonneg _ (by decide), Int.emod_lt_of_pos _ (by decide)⟩
theorem framed_ok {b : List Int} (h : ∀ x ∈ b, 0 ≤ x ∧ x < 256) : ∀ x ∈ framed b, 0 ≤ x ∧ x < 256 := fun x hx => by
  unfold framed at hx
  have hs := sumI_range b
  rcases List.mem_append.mp hx with hx | hx
  · rcases List.mem_append.mp hx with hx | hx
    · exact octs_range b.length _ (by omega) (by omega) x hx
    · exact h x hx
  · unfold tail2 at hx
    simp only [List.mem_cons, List.not_mem_nil, or_false] at hx
    rcases hx with rfl | rfl
    · exact ⟨Int.emod_nonneg _ (by decide), Int.emod_lt_of_pos _ (by decide)⟩
    · omega
end Oct
/-! Frames: promises and readings kept. -/
namespace LF
open PySem PySem.Spec PyProof.Rows L2 Kx LH LO Oct
def FraV (K : PySem.W.Frag) (H : Hp) (v : V) : Option (List Int × Nat) → Prop
  | none => v = .non
  | some (b, e) => ∃ p w, v = .ref p ∧ H p = some (.tup [w, .int (e : Nat)]) ∧ TI K H w b
def frD (bs : List (List Int)) (e : Nat) : D := .t [.t (bs.map fun b => .t (b.map .i)), .i (e : Nat)]
/-- lists of numbers -/
def LI (H : Hp) (v : V) (b : List Int) : Prop := ∃ x, v = .ref x ∧ H x = some (.lst (b.map V.int))
def sp_sum_pair (K : PySem.W.Frag) : Sp := fun vs H Q _ => ∃ (t : V) (os : List Int), vs = [t] ∧ TI K H t os ∧ os.length ≤ 90000 ∧ Ok8 os ∧ ∀ p H', Same H H' → H p = none → H' p = some (.tup ((tail2 os).map V.int)) → Q (.ref p) H'
def sp_frame (K : PySem.W.Frag) : Sp := fun vs H Q _ => ∃ (t : V) (b : List Int), vs = [t] ∧ TI K H t b ∧ b.length ≤ 15000 ∧ Ok8 b ∧ ∀ v H', Same H H' → TI K H' v (framed b) → Q v H'
def sp_frame_at (K : PySem.W.Frag) : Sp := fun vs H Q _ => ∃ (t : V) (os : List Int) (pl : Int), vs = [t, .int pl] ∧ TI K H t os ∧ os.length ≤ 19000 ∧ Ok8 os ∧ -(2 ^ 62) ≤ pl ∧ pl < 2 ^ 62 ∧ ∀ v H', Same H H' → FraV K H' v (frameAt os pl) → Q v H'
def sp_frames (K : PySem.W.Frag) : Sp := fun vs H Q _ => ∃ (t : V) (os : List Int), vs = [t] ∧ TI K H t os ∧ os.length ≤ 19000 ∧ Ok8 os ∧ ∀ v H' bs e, Same H H' → Frm os 0 bs e → (∀ M, Dat K M H' v (frD bs e)) → Q v H'
def sp__law_framed (K : PySem.W.Frag) : Sp := fun vs H Q _ => ∃ (a : Addr) (b : List Int), vs = [.ref a] ∧ H a = some (.lst (b.map V.int)) ∧ b.length ≤ 15000 ∧ Ok8 b ∧ ∀ p H', Same H H' → H p = none → H' p = some (.lst ((framed b).map V.int)) → Q (.ref p) H'
def sp__law_joined (K : PySem.W.Frag) : Sp := fun vs H Q _ => ∃ (a : Addr) (ws : List V) (bs : List (List Int)), vs = [.ref a] ∧ H a = some (.lst ws) ∧ F2 (LI H) ws bs ∧ bs.flatten.length ≤ 90000 ∧ ∀ p H', Same H H' → H p = none → H' p = some (.lst (bs.flatten.map V.int)) → Q (.ref p) H'
def sp__law_frames_in (K : PySem.W.Frag) : Sp := fun vs H Q _ => ∃ (a : Addr) (os : List Int), vs = [.ref a] ∧ H a = some (.lst (os.map V.int)) ∧ os.length ≤ 19000 ∧ Ok8 os ∧ ∀ v H' bs e, Same H H' → Frm os 0 bs e → (∃ p l ws, v = .ref p ∧ H' p = some (.tup [.ref l, .int (e : Nat)]) ∧ H' l = some (.lst ws) ∧ F2 (LI H') ws bs) → Q v H'
def sp__law_due (K : PySem.W.Frag) : Sp := fun vs H Q _ => ∃ (a : Addr) (os : List Int), vs = [.ref a] ∧ H a = some (.lst (os.map V.int)) ∧ os.length ≤ 19000 ∧ Ok8 os ∧ ∀ v H' bs e, Same H H' → Frm os 0 bs e → (∀ M, Dat K M H' v (frD bs e)) → Q v H'
def sp__law_some_body (K : PySem.W.Frag) : Sp := fun vs H Q _ => ∃ (M : Addr → Prop) (d : Addr), vs = [.ref d] ∧ Wf M H ∧ Deal M H d ∧ ∀ (b : List Int) p H', Ok8 b → b.length ≤ 300 → Fr M H H' → Deal M H' d → H p = none → H' p = some (.lst (b.map V.int)) → Q (.ref p) H'
def sp__law_bent (K : PySem.W.Frag) : Sp := fun vs H Q _ => ∃ (M : Addr → Prop) (d a : Addr) (os : List Int), vs = [.ref d, .ref a] ∧ Wf M H ∧ Deal M H d ∧ ¬ M a ∧ H a = some (.lst (os.map V.int)) ∧ os ≠ [] ∧ Ok8 os ∧ os.length ≤ 20000 ∧
  ∀ (b : List Int) p H', Ok8 b → b.length ≤ os.length + 1 → Fr M H H' → Deal M H' d → H p = none → H' p = some (.lst (b.map V.int)) → Q (.ref p) H'
abbrev N_sum_pair : List Str := ["body", "found"]
abbrev N_frame : List Str := ["body"]
abbrev N_frame_at : List Str := ["octets", "at", "told", "end", "body"]
abbrev N_frames : List Str := ["octets", "bodies", "place", "told"]
abbrev N__law_framed : List Str := ["body", "total"]
abbrev N__law_joined : List Str := ["rows", "found", "row"]
abbrev N__law_frames_in : List Str := ["octets", "bodies", "place", "turn", "told", "body", "behind", "total"]
abbrev N__law_due : List Str := ["octets", "bodies", "place", "body"]
abbrev N__law_some_body : List Str := ["deal", "many", "one", "step", "turn"]
abbrev N__law_bent : List Str := ["deal", "octets", "at", "sort"]
def t_sum_pair (K : PySem.W.Frag) : TS :=
    (tSeq (tAsg (tCall (sp_sum_of_octets K) [] E0 (tCons (tV 0) tNil)) (gName 1))
    (tRet (tTup (tCons (tOp qMod (tV 1) (tC (.int 256))) (tCons (tOp qDiv (tV 1) (tC (.int 256))) tNil)))))
def t_frame (K : PySem.W.Frag) : TS :=
    (tRet (tOp (qCatT K) (tOp (qCatT K) (tCall (sp_number_octets K) [] E0 (tCons (tCB (qLen K) (tCons (tV 0) tNil)) tNil)) (tCB (qTupO K) (tCons (tV 0) tNil))) (tCall (sp_sum_pair K) [] E0 (tCons (tV 0) tNil))))
def t_frame_at (K : PySem.W.Frag) : TS :=
    (tSeq (tAsg (tCall (sp_number_in K) [] E0 (tCons (tV 0) (tCons (tV 1) tNil))) (gName 2))
    (tSeq (tIfS (tOr (tTM (tOp qIsN (tV 2) (tC .non))) (tTM (tOp (qI2 fun i j => decide (j < i)) (tOp qAdd (tOp (qIx K) (tV 2) (tC (.int 0))) (tC (.int 2))) (tOp qSub (tCB (qLen K) (tCons (tV 0) tNil)) (tOp (qIx K) (tV 2) (tC (.int 1))))))) (tRet (tC .non)) tNext)
    (tSeq (tAsg (tOp qAdd (tOp (qIx K) (tV 2) (tC (.int 0))) (tOp (qIx K) (tV 2) (tC (.int 1)))) (gName 3))
    (tSeq (tAsg (tSl (qSl K) (tV 0) (tPt (tOp (qIx K) (tV 2) (tC (.int 1)))) (tPt (tV 3))) (gName 4))
    (tSeq (tIfS (tTM (tOp (rNeD K) (tSl (qSl K) (tV 0) (tPt (tV 3)) (tPt (tOp qAdd (tV 3) (tC (.int 2))))) (tCall (sp_sum_pair K) [] E0 (tCons (tV 4) tNil)))) (tRet (tC .non)) tNext)
    (tRet (tTup (tCons (tV 4) (tCons (tOp qAdd (tV 3) (tC (.int 2))) tNil)))))))))
def t_frames (K : PySem.W.Frag) : TS :=
    (tSeq (tAsg (tCB (qTupO K) (tCons (tV 0) tNil)) (gName 0))
    (tSeq (tPar 1 2 (tCons (tLst tNil) (tCons (tC (.int 0)) tNil)))
    (tSeq (tAsg (tCall (sp_frame_at K) [] E0 (tCons (tV 0) (tCons (tC (.int 0)) tNil))) (gName 3))
    (tSeq (tWhile (tTM (tOp qNotN (tV 3) (tC .non))) (tSeq (tDrop (tApp (tV 1) (tOp (qIx K) (tV 3) (tC (.int 0)))))
    (tSeq (tAsg (tOp (qIx K) (tV 3) (tC (.int 1))) (gName 2))
    (tAsg (tCall (sp_frame_at K) [] E0 (tCons (tV 0) (tCons (tV 2) tNil))) (gName 3)))))
    (tRet (tTup (tCons (tCB (qTupO K) (tCons (tV 1) tNil)) (tCons (tV 2) tNil))))))))
def t__law_framed (K : PySem.W.Frag) : TS :=
    (tSeq (tAsg (tCall (sp__law_sum K) [] E0 (tCons (tV 0) tNil)) (gName 1))
    (tRet (tOp rCat (tOp rCat (tCall (sp__law_number_octets K) [] E0 (tCons (tCB (qLen K) (tCons (tV 0) tNil)) tNil)) (tV 0)) (tLst (tCons (tOp qMod (tCB qInt (tCons (tV 1) tNil)) (tC (.int 256))) (tCons (tOp qDiv (tV 1) (tC (.int 256))) tNil))))))
def t__law_joined (K : PySem.W.Frag) : TS :=
    (tSeq (tAsg (tLst tNil) (gName 1))
    (tSeq (tFor (iList K (tV 0)) (gName 2) (tAsg (tOp rCat (tV 1) (tV 2)) (gName 1)))
    (tRet (tV 1))))
def t__law_frames_in (K : PySem.W.Frag) : TS :=
    (tSeq (tPar 1 2 (tCons (tLst tNil) (tCons (tC (.int 0)) tNil)))
    (tSeq (tFor (iRng1 (tCons (tOp qAdd (tCB (qLen K) (tCons (tV 0) tNil)) (tC (.int 1))) tNil)) (gName 3) (tSeq (tAsg (tCall (sp__law_number_at K) [] E0 (tCons (tV 0) (tCons (tV 2) tNil))) (gName 4))
    (tSeq (tIfS (tOr (tTM (tOp qIsN (tV 4) (tC .non))) (tTM (tOp (qI2 fun i j => decide (j < i)) (tOp qAdd (tOp (qIx K) (tV 4) (tC (.int 0))) (tC (.int 2))) (tOp qSub (tCB (qLen K) (tCons (tV 0) tNil)) (tOp (qIx K) (tV 4) (tC (.int 1))))))) (tRet (tTup (tCons (tV 1) (tCons (tV 2) tNil)))) tNext)
    (tSeq (tPar 5 6 (tCons (tSl (qSl K) (tV 0) (tPt (tOp (qIx K) (tV 4) (tC (.int 1)))) (tPt (tOp qAdd (tOp (qIx K) (tV 4) (tC (.int 1))) (tOp (qIx K) (tV 4) (tC (.int 0)))))) (tCons (tOp qAdd (tOp (qIx K) (tV 4) (tC (.int 1))) (tOp (qIx K) (tV 4) (tC (.int 0)))) tNil)))
    (tSeq (tAsg (tCall (sp__law_sum K) [] E0 (tCons (tV 5) tNil)) (gName 7))
    (tSeq (tIfS (tOr (tTM (tOp qNeS (tOp (qIx K) (tV 0) (tV 6)) (tOp qMod (tCB qInt (tCons (tV 7) tNil)) (tC (.int 256))))) (tTM (tOp qNeS (tOp (qIx K) (tV 0) (tOp qAdd (tV 6) (tC (.int 1)))) (tOp qDiv (tV 7) (tC (.int 256)))))) (tRet (tTup (tCons (tV 1) (tCons (tV 2) tNil)))) tNext)
    (tPar 1 2 (tCons (tOp rCat (tV 1) (tLst (tCons (tV 5) tNil))) (tCons (tOp qAdd (tV 6) (tC (.int 2))) tNil)))))))))
    (tRet (tTup (tCons (tV 1) (tCons (tV 2) tNil))))))
def t__law_due (K : PySem.W.Frag) : TS :=
    (tSeq (tAsg (tCall (sp__law_frames_in K) [] E0 (tCons (tV 0) tNil)) (gTup K 2 (gCons (gName 1) (gCons (gName 2) gNil))))
    (tRet (tTup (tCons (tCB (qTupO K) (tCons (tLc (iList K (tV 1)) (gName 3) tYes (tCB (qTupO K) (tCons (tV 3) tNil)) [3]) tNil)) (tCons (tV 2) tNil)))))
def t__law_some_body (K : PySem.W.Frag) : TS :=
    (tSeq (tAsg (tCall (sp__law_of K) [] E0 (tCons (tV 0) (tCons (tLst (tCons (tC (.int 0)) (tCons (tC (.int 1)) (tCons (tC (.int 2)) (tCons (tC (.int 5)) (tCons (tC (.int 20)) (tCons (tC (.int 126)) (tCons (tC (.int 127)) (tCons (tC (.int 128)) (tCons (tC (.int 129)) (tCons (tC (.int 300)) tNil))))))))))) tNil))) (gName 1))
    (tSeq (tIfS (tTM (tOp (qI2 fun i j => decide (j < i)) (tV 1) (tC (.int 30)))) (tSeq (tAsg (tTup (tCons (tCall (sp__law_octet K) [] E0 (tCons (tV 0) tNil)) (tCons (tCall (sp__law_of K) [] E0 (tCons (tV 0) (tCons (tLst (tCons (tC (.int 0)) (tCons (tC (.int 1)) (tCons (tC (.int 7)) (tCons (tC (.int 128)) tNil))))) tNil))) tNil))) (gTup K 2 (gCons (gName 2) (gCons (gName 3) gNil))))
    (tRet (tLc (iRng1 (tCons (tV 1) tNil)) (gName 4) tYes (tOp qMod (tCB qInt (tCons (tOp qAdd (tV 2) (tOp qMul (tV 4) (tV 3))) tNil)) (tC (.int 256))) [4]))) tNext)
    (tRet (tLc (iRng1 (tCons (tV 1) tNil)) (gName 4) tYes (tCall (sp__law_octet K) [] E0 (tCons (tV 0) tNil)) [4]))))
def t__law_bent (K : PySem.W.Frag) : TS :=
    (tSeq (tIfS (tTM (tOp qEqS (tCB (qLen K) (tCons (tV 1) tNil)) (tC (.int 0)))) (tRet (tV 1)) tNext)
    (tSeq (tPar 2 3 (tCons (tCall (sp__law_any K) [] E0 (tCons (tV 0) (tCons (tCB (qLen K) (tCons (tV 1) tNil)) tNil))) (tCons (tCall (sp__law_any K) [] E0 (tCons (tV 0) (tCons (tC (.int 4)) tNil))) tNil)))
    (tSeq (tIfS (tTM (tOp qEqS (tV 3) (tC (.int 0)))) (tRet (tOp rCat (tSl (qSl K) (tV 1) tNoPart (tPt (tV 2))) (tSl (qSl K) (tV 1) (tPt (tOp qAdd (tV 2) (tC (.int 1)))) tNoPart))) tNext)
    (tSeq (tIfS (tTM (tOp qEqS (tV 3) (tC (.int 1)))) (tRet (tOp rCat (tOp rCat (tSl (qSl K) (tV 1) tNoPart (tPt (tV 2))) (tLst (tCons (tCall (sp__law_octet K) [] E0 (tCons (tV 0) tNil)) tNil))) (tSl (qSl K) (tV 1) (tPt (tV 2)) tNoPart))) tNext)
    (tRet (tOp rCat (tOp rCat (tSl (qSl K) (tV 1) tNoPart (tPt (tV 2))) (tLst (tCons (tOp qMod (tCB qInt (tCons (tOp qAdd (tOp (qIx K) (tV 1) (tV 2)) (tCall (sp__law_of K) [] E0 (tCons (tV 0) (tCons (tLst (tCons (tC (.int 1)) (tCons (tC (.int 128)) (tCons (tC (.int 255)) (tCons (tOp qAdd (tC (.int 1)) (tCall (sp__law_any K) [] E0 (tCons (tV 0) (tCons (tC (.int 255)) tNil)))) tNil))))) tNil)))) tNil)) (tC (.int 256))) tNil))) (tSl (qSl K) (tV 1) (tPt (tOp qAdd (tV 2) (tC (.int 1)))) tNoPart)))))))
section
variable {K : PySem.W.Frag}
theorem F2.mono {R S : V → List Int → Prop} {vs : List V} {bs : List (List Int)} (f : ∀ a b, R a b → S a b) (h : F2 R vs bs) : F2 S vs bs := F2.imp f h
theorem LI.same {H H' : Hp} {v : V} {b : List Int} (s : Same H H') (h : LI H v b) : LI H' v b := let ⟨x, e, t⟩ := h; ⟨x, e, s _ _ t⟩
theorem none_of {H H' : Hp} {p : Addr} (s : Same H H') (h : H' p = none) : H p = none := by
  cases e : H p with
  | none => rfl
  | some o =>
    have := s p o e
    rw [h] at this
    cases this
theorem rd_sum_pair (vs : List V) (H : Hp) (Q : VK) (E : XK) (h : sp_sum_pair K vs H Q E) : t_sum_pair K { nx := fun _ H' => Q .non H', rt := Q } (start N_sum_pair vs) H := by
  obtain ⟨t, os, rfl, hT, hl, h8, q⟩ := h
  refine ⟨t, os, rfl, hT, by omega, h8, fun H1 s1 => ?_⟩
  refine ⟨by decide, ⟨by decide, by decide⟩, two_ok, fun p np => ?_⟩
  exact q p _ (s1.trans (same_new np)) (none_of s1 np) upd_same
theorem rd_frame (vs : List V) (H : Hp) (Q : VK) (E : XK) (h : sp_frame K vs H Q E) : t_frame K { nx := fun _ H' => Q .non H', rt := Q } (start N_frame vs) H := by
  obtain ⟨t, b, rfl, ⟨a, rfl, hT⟩, hl, h8, q⟩ := h
  have h2 := octs_two (b.length : Int) (by omega)
  refine ⟨_, .inr hT, ((b.map V.int).length : Nat), rfl, by omega, by rw [List.length_map]; omega, fun p H1 s1 np ep => ?_⟩
  rw [List.length_map] at ep
  have hT1 := Same.sqt s1 hT
  refine .inr ⟨_, hT1, _, _, sqt_of ep, hT1, Nat.le_of_lt (line5' (by simp only [List.length_map]; omega)), fun c H2 s2 hc => ?_⟩
  refine ⟨.ref a, b, rfl, ⟨a, rfl, Same.sqt s2 hT1⟩, by omega, h8, fun p2 H3 s3 np2 ep2 => ?_⟩
  refine ⟨_, _, Same.sqt s3 hc, sqt_of ep2, Nat.le_of_lt (line5' (by unfold tail2; simp only [List.length_append, List.length_map, List.length_cons, List.length_nil]; omega)), fun c2 H4 s4 hc2 => ?_⟩
  refine q (.ref c2) H4 (s1.trans (s2.trans (s3.trans s4))) ⟨c2, rfl, ?_⟩
  unfold framed
  rw [List.map_append, List.map_append]
  exact hc2
theorem eqv2 (x y z w : Int) : PyData.eqv (.tuple [.int x, .int y]) (.tuple [.int z, .int w]) = decide ([x, y] = [z, w]) := by
  simp only [PyData.eqv, PyData.eqvAll]
  by_cases h1 : x = z
  · by_cases h2 : y = w
    · subst h1
      subst h2
      simp
    · simp [h1, h2]
  · simp [h1]
theorem shaped2 (x y : Int) : SeqAt.shaped (.tuple [.int x, .int y]) = true := by
  rfl
theorem rd_frame_at (vs : List V) (H : Hp) (Q : VK) (E : XK) (h : sp_frame_at K vs H Q E) : t_frame_at K { nx := fun _ H' => Q .non H', rt := Q } (start N_frame_at vs) H := by
  obtain ⟨t, os, pl, rfl, ⟨a, rfl, hT⟩, hl, h8, b1, b2, q⟩ := h
  refine ⟨.ref a, os, pl, rfl, ⟨a, rfl, hT⟩, hl, h8, b1, b2, fun v H1 s1 hv => ?_⟩
  have hT1 := Same.sqt s1 hT
  cases hn : numAt os pl with
  | none =>
    rw [hn] at hv
    obtain rfl : v = .non := hv
    have e : frameAt os pl = none := by
      unfold frameAt
      rw [hn]
    exact q .non H1 s1 (by rw [e]; rfl)
  | some ne =>
    obtain ⟨n, e0⟩ := ne
    have hend := numAt_end hn
    have hpos := numAt_pos (fun x hx => (h8 x hx).1) hn
    rw [hn] at hv
    obtain ⟨p, rfl, ep⟩ : ∃ p, v = .ref p ∧ H1 p = some (.tup [.int n, .int (e0 : Nat)]) := hv
    dsimp only [gName]
    refine st_ifd ((os.length : Int) - e0 < n + 2) (fun k hk => ?_) (fun hc => ?_) fun hc => ?_
    · refine ⟨_, _, .inr (sqt_of ep), rfl, _, .inr hT1, _, _, .inr (sqt_of ep), rfl, ?_⟩
      rw [List.length_map]
      exact hk
    · have e : frameAt os pl = none := by
        unfold frameAt
        rw [hn]
        exact if_pos hc
      exact q .non H1 s1 (by rw [e]; rfl)
    · refine ⟨_, _, .inr (sqt_of ep), rfl, _, _, .inr (sqt_of ep), rfl, _, _, .inr (sqt_of ep), rfl, .inr ⟨_, hT1, fun b H2 s2 hT2 => ?_⟩⟩
      have ee : n + ((e0 : Nat) : Int) = ((e0 + n.toNat : Nat) : Int) := by omega
      have ee2 : n + ((e0 : Nat) : Int) + 2 = ((e0 + n.toNat + 2 : Nat) : Int) := by omega
      rw [ee, cut_nn, Nat.add_sub_cancel_left, ← List.map_drop, ← List.map_take] at hT2
      have et : frameAt os pl = if (os.drop (e0 + n.toNat)).take 2 = tail2 ((os.drop e0).take n.toNat) then some ((os.drop e0).take n.toNat, e0 + n.toNat + 2) else none := by
        unfold frameAt
        rw [hn]
        exact if_neg hc
      refine .inr ⟨_, Same.sqt s2 hT1, fun b2 H3 s3 hT3 => ?_⟩
      rw [ee2, ee, cut_nn, Nat.add_sub_cancel_left, ← List.map_drop, ← List.map_take] at hT3
      generalize hsl : (os.drop e0).take n.toNat = sl at hT2 et
      have hsll : sl.length ≤ 19000 := by
        rw [← hsl, List.length_take, List.length_drop]
        omega
      have h8s : Ok8 sl := fun k hk => by
        rw [← hsl] at hk
        exact h8 k (List.mem_of_mem_drop (List.mem_of_mem_take hk))
      have hT2' := Same.sqt s3 hT2
      refine ⟨.ref b, sl, rfl, ⟨b, rfl, hT2'⟩, by omega, h8s, fun p2 H4 s4 np2 ep2 => ?_⟩
      have h2l : ((os.drop (e0 + n.toNat)).take 2).length = 2 := by
        rw [List.length_take, List.length_drop]
        omega
      generalize hx2 : (os.drop (e0 + n.toNat)).take 2 = x2 at hT3 h2l et
      match x2, h2l with
      | [x, y], _ =>
        have hT3' := Same.sqt s4 hT3
        refine ⟨.tuple [.int x, .int y], .tuple [.int (sumI sl % 256), .int (sumI sl / 256)], .tup hT3' (.cons (.int _) (.cons (.int _) .nil)), .tup (sqt_of ep2) (.cons (.int _) (.cons (.int _) .nil)), shaped2 _ _, shaped2 _ _, ?_⟩
        rw [eqv2]
        refine iteND (fun hne => ?_) fun heq => ?_
        · rw [if_neg (show ¬ [x, y] = tail2 sl from hne)] at et
          exact q .non H4 (s1.trans (s2.trans (s3.trans s4))) (by rw [et]; rfl)
        · rw [if_pos (show [x, y] = tail2 sl from heq)] at et
          refine ⟨two_ok, fun r nr => ?_⟩
          rw [ee2]
          refine q (.ref r) _ (s1.trans (s2.trans (s3.trans (s4.trans (same_new nr))))) ?_
          rw [et]
          exact ⟨r, .ref b, rfl, upd_same, b, rfl, Same.sqt (s4.trans (same_new nr)) hT2'⟩
end
section
variable {K : PySem.W.Frag}
theorem sqt_upd {H : Hp} {l a : Addr} {us xs : List V} {o : HO} (e : H l = some (.lst us)) (h : SqT K H a xs) : SqT K (upd H l o) a xs := by
  rcases h with h | h
  · have ne : a ≠ l := by
      rintro rfl
      rcases h with h | ⟨u, h⟩ <;> (rw [e] at h; cases h)
    rcases h with h | ⟨u, h⟩
    · exact .inl (.inl (by rw [upd_ne ne]; exact h))
    · exact .inl (.inr ⟨u, by rw [upd_ne ne]; exact h⟩)
  · exact .inr h
theorem ti_upd {H : Hp} {l : Addr} {us : List V} {o : HO} {v : V} {b : List Int} (e : H l = some (.lst us)) (h : TI K H v b) : TI K (upd H l o) v b := let ⟨x, e1, t⟩ := h; ⟨x, e1, sqt_upd e t⟩
theorem f2_dats {H : Hp} {M : Addr → Prop} : ∀ {ws : List V} {bs : List (List Int)}, F2 (TI K H) ws bs → Dats K M H ws (bs.map fun b => .t (b.map .i))
  | _, _, .nil => .nil
  | _, _, .cons h t => .cons (ti_dat h) (f2_dats t)
theorem F2.get {R : V → List Int → Prop} : ∀ {ws : List V} {bs : List (List Int)} (i : Nat) {x : V}, F2 R ws bs → ws[i]? = some x → ∃ b, bs[i]? = some b ∧ R x b
  | _, _, 0, _, .cons h _, e => ⟨_, rfl, by cases e; exact h⟩
  | _ :: _, _ :: _, i + 1, _, .cons _ t, e => F2.get i t e
theorem rd_frames (vs : List V) (H : Hp) (Q : VK) (E : XK) (h : sp_frames K vs H Q E) : t_frames K { nx := fun _ H' => Q .non H', rt := Q } (start N_frames vs) H := by
  obtain ⟨t, os, rfl, ⟨a, rfl, hT⟩, hl, h8, q⟩ := h
  refine .inr ⟨_, hT, by show 0 ≤ sizeLine; decide, fun l nl => ⟨_, _, rfl, ?_⟩⟩
  have s0 : Same H (upd H l (.lst [])) := same_new nl
  refine ⟨.ref a, os, 0, rfl, ⟨a, rfl, Same.sqt s0 hT⟩, hl, h8, by decide, by decide, fun v H1 s1 hv => ?_⟩
  refine ⟨fun m σ H' => ∃ (done : List (List Int)) (pl : Nat) (v : V) (ws : List V), σ = [some (.ref a), some (.ref l), some (.int (pl : Nat)), some v] ∧ Same H H' ∧ H' l = some (.lst ws) ∧ F2 (TI K H') ws done ∧ FraV K H' v (frameAt os (pl : Nat)) ∧ (∀ r e, Frm os pl r e → Frm os 0 (done ++ r) e) ∧ pl ≤ os.length ∧ done.length ≤ pl ∧ m = os.length - pl,
    ⟨_, [], 0, v, [], rfl, s0.trans s1, s1 _ _ upd_same, .nil, hv, fun r e h => h, Nat.zero_le _, Nat.zero_le _, rfl⟩, fun m σ H' hW => ?_⟩
  obtain ⟨done, pl, v, ws, rfl, sm, el, hF, hv, hpre, hpl, hdl, rfl⟩ := hW
  cases hf : frameAt os (pl : Nat) with
  | none =>
    rw [hf] at hv
    obtain rfl : v = .non := hv
    refine .inl ⟨_, sql_of el, fun p np => ⟨two_ok, fun r nr => ?_⟩⟩
    have f := hpre [] pl (.stop hf)
    rw [List.append_nil] at f
    refine q (.ref r) _ done pl (sm.trans ((same_new np).trans (same_new nr))) f fun M => ?_
    have s2 := (same_new (o := .tup ws) np).trans (same_new (o := .tup [.ref p, .int (pl : Nat)]) nr)
    exact .t (sqt_of upd_same) (.cons (.t (Same.sqt (same_new nr) (sqt_of upd_same)) ((f2_dats hF).same s2)) (.cons (.i _) .nil))
  | some be =>
    obtain ⟨b, e⟩ := be
    rw [hf] at hv
    obtain ⟨p, w, rfl, ep, hw⟩ : ∃ p w, v = .ref p ∧ H' p = some (.tup [w, .int (e : Nat)]) ∧ TI K H' w b := hv
    have hend := frameAt_end (fun x hx => (h8 x hx).1) hf
    have hwl : ws.length ≤ os.length := by
      have := F2.length hF
      omega
    have nep : p ≠ l := by
      rintro rfl
      rw [el] at ep
      cases ep
    refine ⟨_, fun _ _ hN => hN, ?_⟩
    refine ⟨⟨_, el⟩, _, _, .inr (sqt_of ep), rfl, _, el, line5' (by omega), ?_⟩
    have ep2 : (upd H' l (.lst (ws ++ [w]))) p = some (.tup [w, .int (e : Nat)]) := by
      rw [upd_ne nep]
      exact ep
    have s2 : Same H (upd H' l (.lst (ws ++ [w]))) := same_mut sm nl
    have hF2 : F2 (TI K (upd H' l (.lst (ws ++ [w])))) (ws ++ [w]) (done ++ [b]) := F2.snoc (F2.mono (fun _ _ h => ti_upd el h) hF) (ti_upd el hw)
    have el2 : (upd H' l (.lst (ws ++ [w]))) l = some (.lst (ws ++ [w])) := upd_same
    revert ep2 s2 hF2 el2
    generalize upd H' l (.lst (ws ++ [w])) = H2
    intro ep2 s2 hF2 el2
    refine ⟨_, _, .inr (sqt_of ep2), rfl, .ref a, os, (e : Nat), rfl, ⟨a, rfl, Same.sqt s2 hT⟩, hl, h8, by omega, by omega, fun v3 H3 s3 hv3 => ?_⟩
    refine ⟨os.length - e, by omega, done ++ [b], e, v3, ws ++ [w], rfl, s2.trans s3, s3 _ _ el2, F2.mono (fun _ _ h => TI.same s3 h) hF2, hv3, fun r f hr => ?_, by omega, by simp only [List.length_append, List.length_cons, List.length_nil]; omega, rfl⟩
    rw [List.append_assoc]
    exact hpre _ _ (.step hf hr)
end
section
variable {K : PySem.W.Frag}
theorem rd__law_framed (vs : List V) (H : Hp) (Q : VK) (E : XK) (h : sp__law_framed K vs H Q E) : t__law_framed K { nx := fun _ H' => Q .non H', rt := Q } (start N__law_framed vs) H := by
  obtain ⟨a, b, rfl, ea, hl, h8, q⟩ := h
  have h2 := octs_two (b.length : Int) (by omega)
  refine ⟨a, b, rfl, sql_of ea, by omega, h8, fun H1 s1 => ?_⟩
  have ea1 := s1 _ _ ea
  refine ⟨_, .inl (sql_of ea1), ((b.map V.int).length : Nat), rfl, by omega, by rw [List.length_map]; omega, fun p H2 s2 np ep => ?_⟩
  rw [List.length_map] at ep
  have ea2 := s2 _ _ ea1
  refine ⟨p, a, _, _, rfl, rfl, ep, ea2, Nat.le_of_lt (line5' (by simp only [List.length_map]; omega)), fun c nc => ?_⟩
  refine ⟨by decide, ⟨by decide, by decide⟩, two_ok, fun t nt => ?_⟩
  have hne : c ≠ t := ne_of_none upd_same nt
  refine ⟨c, t, _, _, rfl, rfl, by rw [upd_ne hne]; exact upd_same, upd_same, Nat.le_of_lt (line5' (by simp only [List.length_append, List.length_map, List.length_cons, List.length_nil]; omega)), fun r nr => ?_⟩
  refine q r _ ?_ ?_ ?_
  · exact s1.trans (s2.trans ((same_new nc).trans ((same_new nt).trans (same_new nr))))
  · refine none_of ?_ nr
    exact s1.trans (s2.trans ((same_new nc).trans (same_new nt)))
  rw [upd_same]
  unfold framed
  rw [List.map_append, List.map_append]
  rfl
theorem take_snoc {bs : List (List Int)} {i : Nat} {b : List Int} (h : bs[i]? = some b) : (bs.take (i + 1)).flatten = (bs.take i).flatten ++ b := by
  rw [List.take_add_one, h]
  simp
theorem take_flat_len (bs : List (List Int)) (i : Nat) : (bs.take i).flatten.length ≤ bs.flatten.length := by
  have e : bs.flatten = (bs.take i).flatten ++ (bs.drop i).flatten := by rw [← List.flatten_append, List.take_append_drop]
  rw [e, List.length_append]
  omega
theorem rd__law_joined (vs : List V) (H : Hp) (Q : VK) (E : XK) (h : sp__law_joined K vs H Q E) : t__law_joined K { nx := fun _ H' => Q .non H', rt := Q } (start N__law_joined vs) H := by
  obtain ⟨a, ws, bs, rfl, ea, hF, hl, q⟩ := h
  refine ⟨by show 0 ≤ sizeLine; decide, fun l nl => ⟨a, rfl, ⟨_, sql_of ((same_new nl) _ _ ea)⟩, for_list (K := K) (a := a) (xs := ws) (fun i σ H' => ∃ f y, σ = [some (.ref a), some (.ref f), y] ∧ Same H H' ∧ H f = none ∧ H' f = some (.lst ((bs.take i).flatten.map V.int))) ⟨l, none, rfl, same_new nl, nl, upd_same⟩ (fun i σ H' _ hP => ?_) (fun i x σ H' hi hP => ?_) fun σ H' hP => ?_⟩⟩
  · obtain ⟨_, _, _, s, _⟩ := hP
    exact sql_of (s _ _ ea)
  · obtain ⟨f, y, rfl, s, nf, ef⟩ := hP
    obtain ⟨b, hb, x', rfl, ex⟩ := F2.get i hF hi
    have h1 := take_flat_len bs (i + 1)
    rw [take_snoc hb, List.length_append] at h1
    refine ⟨f, x', _, _, rfl, rfl, ef, s _ _ ex, Nat.le_of_lt (line5' (by simp only [List.length_map]; omega)), fun p np => ?_⟩
    refine ⟨p, _, rfl, s.trans (same_new np), none_of s np, ?_⟩
    rw [upd_same, take_snoc hb, List.map_append]
  · obtain ⟨f, y, rfl, s, nf, ef⟩ := hP
    rw [List.take_of_length_le (by rw [F2.length hF]; exact Nat.le_refl _)] at ef
    exact q f H' s nf ef
theorem rd__law_frames_in (vs : List V) (H : Hp) (Q : VK) (E : XK) (h : sp__law_frames_in K vs H Q E) : t__law_frames_in K { nx := fun _ H' => Q .non H', rt := Q } (start N__law_frames_in vs) H := by
  obtain ⟨a, os, rfl, ea, hl, h8, q⟩ := h
  refine ⟨by show 0 ≤ sizeLine; decide, fun l nl => ⟨_, _, rfl, ?_⟩⟩
  have s0 : Same H (upd H l (.lst [])) := same_new nl
  refine ⟨_, .inl (sql_of (s0 _ _ ea)), _, rfl, by rw [List.length_map]; omega, by rw [List.length_map]; omega, for_range (lo := 0) (n := (((os.map V.int).length : Nat) + 1 : Int).toNat) (fun i σ H' => ∃ (done : List (List Int)) (pl : Nat) (bl : Addr) (ws : List V) (y3 y4 y5 y6 y7 : Option V), σ = [some (.ref a), some (.ref bl), some (.int (pl : Nat)), y3, y4, y5, y6, y7] ∧ Same H H' ∧ H' bl = some (.lst ws) ∧ F2 (LI H') ws done ∧ (∀ r e, Frm os pl r e → Frm os 0 (done ++ r) e) ∧ pl ≤ os.length ∧ i ≤ pl ∧ done.length ≤ pl) ⟨[], 0, l, [], none, none, none, none, none, rfl, s0, upd_same, .nil, fun r e h => h, Nat.zero_le _, Nat.le_refl _, Nat.zero_le _⟩ (fun i σ H' hi hP => ?_) fun σ H' hP => ?_⟩
  · obtain ⟨done, pl, bl, ws, y3, y4, y5, y6, y7, rfl, sm, eb, hF, hpre, hpl, hipl, hdl⟩ := hP
    have ea' := sm _ _ ea
    refine ⟨a, os, (pl : Nat), rfl, sql_of ea', hl, h8, fun v H1 s1 hv => ?_⟩
    have ea1 := s1 _ _ ea'
    have fin : ∀ D : Ends, D.rt = Q → ∀ (y4 y5 y6 y7 : Option V) (H4 : Hp), Same H1 H4 → frameAt os (pl : Nat) = none → (tRet (tTup (tCons (tV 1) (tCons (tV 2) tNil)))) D [some (.ref a), some (.ref bl), some (.int (pl : Nat)), some (.int (0 + (i : Int))), y4, y5, y6, y7] H4 := by
      intro D hrt y4 y5 y6 y7 H4 s4 hf
      refine ⟨two_ok, fun r nr => ?_⟩
      have f := hpre [] pl (.stop hf)
      rw [List.append_nil] at f
      rw [hrt]
      have s14 : Same H' (upd H4 r (.tup [.ref bl, .int (pl : Nat)])) := s1.trans (s4.trans (same_new nr))
      exact q (.ref r) _ done pl (sm.trans s14) f ⟨r, bl, ws, rfl, upd_same, s14 _ _ eb, F2.mono (fun _ _ h => LI.same s14 h) hF⟩
    cases hn : numAt os (pl : Nat) with
    | none =>
      rw [hn] at hv
      obtain rfl : v = .non := hv
      exact fin _ rfl (some .non) y5 y6 y7 H1 (Same.refl _) (by
        unfold frameAt
        rw [hn])
    | some ne =>
      obtain ⟨n, e0⟩ := ne
      have hend := numAt_end hn
      have hpos := numAt_pos (fun x hx => (h8 x hx).1) hn
      rw [hn] at hv
      obtain ⟨p, rfl, ep⟩ : ∃ p, v = .ref p ∧ H1 p = some (.tup [.int n, .int (e0 : Nat)]) := hv
      dsimp only [gName]
      refine st_ifd ((os.length : Int) - e0 < n + 2) (fun k hk => ?_) (fun hc => ?_) fun hc => ?_
      · refine ⟨_, _, .inr (sqt_of ep), rfl, _, .inl (sql_of ea1), _, _, .inr (sqt_of ep), rfl, ?_⟩
        rw [List.length_map]
        exact hk
      · refine fin _ rfl _ _ _ _ H1 (Same.refl _) ?_
        unfold frameAt
        rw [hn]
        exact if_pos hc
      · have et : frameAt os (pl : Nat) = if (os.drop (e0 + n.toNat)).take 2 = tail2 ((os.drop e0).take n.toNat) then some ((os.drop e0).take n.toNat, e0 + n.toNat + 2) else none := by
          unfold frameAt
          rw [hn]
          exact if_neg hc
        have ee : ((e0 : Nat) : Int) + n = ((e0 + n.toNat : Nat) : Int) := by omega
        refine ⟨_, _, .inr (sqt_of ep), rfl, _, _, .inr (sqt_of ep), rfl, _, _, .inr (sqt_of ep), rfl, .inl ⟨_, sql_of ea1, fun sa nsa => ?_⟩⟩
        rw [ee, cut_nn, Nat.add_sub_cancel_left, ← List.map_drop, ← List.map_take]
        generalize hsl : (os.drop e0).take n.toNat = sl at et
        have hsll : sl.length ≤ 19000 := by
          rw [← hsl, List.length_take, List.length_drop]
          omega
        have h8s : Ok8 sl := fun k hk => by
          rw [← hsl] at hk
          exact h8 k (List.mem_of_mem_drop (List.mem_of_mem_take hk))
        have s12 : Same H1 (upd H1 sa (.lst (sl.map V.int))) := same_new nsa
        have esa : (upd H1 sa (.lst (sl.map V.int))) sa = some (.lst (sl.map V.int)) := upd_same
        revert s12 esa
        generalize upd H1 sa (.lst (sl.map V.int)) = H2
        intro s12 esa
        refine ⟨_, _, .inr (sqt_of (s12 _ _ ep)), rfl, _, _, .inr (sqt_of (s12 _ _ ep)), rfl, _, _, rfl, sa, sl, rfl, sql_of esa, by omega, h8s, fun H3 s3 => ?_⟩
        have h2l : ((os.drop (e0 + n.toNat)).take 2).length = 2 := by
          rw [List.length_take, List.length_drop]
          omega
        have hx : ∃ x, os[e0 + n.toNat]? = some x := ⟨_, List.getElem?_eq_getElem (by omega)⟩
        have hy : ∃ y, os[e0 + n.toNat + 1]? = some y := ⟨_, List.getElem?_eq_getElem (by omega)⟩
        obtain ⟨x, hx⟩ := hx
        obtain ⟨y, hy⟩ := hy
        have hxy : (os.drop (e0 + n.toNat)).take 2 = [x, y] := by
          rw [show (2 : Nat) = 0 + 1 + 1 from rfl, List.take_add_one, List.take_add_one, List.take_zero, List.getElem?_drop, List.getElem?_drop, Nat.add_zero, hx, hy]
          rfl
        rw [hxy] at et
        have ea3 := s3 _ _ (s12 _ _ ea1)
        have ix : atI (os.map V.int) (((e0 : Nat) : Int) + n) = some (.int x) := ints_atI ee hx
        have iy : atI (os.map V.int) (((e0 : Nat) : Int) + n + 1) = some (.int y) := ints_atI (i := e0 + n.toNat + 1) (by omega) hy
        have s13 : Same H1 H3 := s12.trans s3
        refine ⟨_, _, .inl (sql_of ea3), ix, by decide, ?_⟩
        refine iteND (fun hne => ?_) fun heq => ?_
        · exact fin _ rfl _ _ _ _ H3 s13 (by
            rw [et, if_neg]
            intro z
            exact hne (List.cons.inj z).1)
        · refine ⟨_, _, .inl (sql_of ea3), iy, ⟨by decide, by decide⟩, ?_⟩
          refine iteND (fun hne => ?_) fun heq2 => ?_
          · exact fin _ rfl _ _ _ _ H3 s13 (by
              rw [et, if_neg]
              intro z
              exact hne (List.cons.inj (List.cons.inj z).2).1)
          · have heq' : x = sumI sl % 256 := heq
            have heq2' : y = sumI sl / 256 := heq2
            rw [if_pos (show [x, y] = tail2 sl by unfold tail2; rw [heq', heq2'])] at et
            have eb3 := (s1.trans s13) _ _ eb
            have hwl : ws.length ≤ os.length := by
              have := F2.length hF
              omega
            refine ⟨by show 1 ≤ sizeLine; decide, fun o no => ?_⟩
            refine ⟨bl, o, ws, [.ref sa], rfl, rfl, by rw [upd_ne (ne_of_none eb3 no)]; exact eb3, upd_same, Nat.le_of_lt (line5' (by simp only [List.length_cons, List.length_nil]; omega)), fun nb nnb => ?_⟩
            have s36 := (same_new (o := .lst [.ref sa]) no).trans (same_new (o := .lst (ws ++ [.ref sa])) nnb)
            have s16 := s1.trans (s13.trans s36)
            refine ⟨_, _, rfl, done ++ [sl], e0 + n.toNat + 2, nb, ws ++ [.ref sa], some (.int (0 + (i : Int))), some (.ref p), some (.ref sa), some (.int (((e0 : Nat) : Int) + n)), some (.int ((prods sl).sum % 65521)), ?_, sm.trans s16, upd_same, F2.snoc (F2.mono (fun _ _ h => LI.same s16 h) hF) ⟨sa, rfl, (s3.trans s36) _ _ esa⟩, fun r e hr => ?_, by omega, by omega, by simp only [List.length_append, List.length_cons, List.length_nil]; omega⟩
            · have e3 : ((e0 : Nat) : Int) + n + 2 = ((e0 + n.toNat + 2 : Nat) : Int) := by omega
              rw [← e3]
              rfl
            · rw [List.append_assoc]
              exact hpre _ _ (.step et hr)
  · obtain ⟨done, pl, bl, ws, y3, y4, y5, y6, y7, rfl, sm, eb, hF, hpre, hpl, hipl, hdl⟩ := hP
    rw [List.length_map] at hipl
    omega
end
section
variable {K : PySem.W.Frag}
theorem fr_none {M : Addr → Prop} {H H' : Hp} {p : Addr} (f : Fr M H H') (h : H' p = none) : H p = none := by
  cases e : H p with
  | none => rfl
  | some o =>
    have := f.keep p o (f.w'.notM h) e
    rw [h] at this
    cases this
/-- tuple(row) for row in rows -/
theorem rd__law_due (vs : List V) (H : Hp) (Q : VK) (E : XK) (h : sp__law_due K vs H Q E) : t__law_due K { nx := fun _ H' => Q .non H', rt := Q } (start N__law_due vs) H := by
  obtain ⟨a, os, rfl, ea, hl, h8, q⟩ := h
  refine ⟨a, os, rfl, ea, hl, h8, fun v H1 bs e s1 hf hv => ?_⟩
  obtain ⟨p, l, ws, rfl, ep, el, hF⟩ := hv
  refine ⟨p, _, rfl, sqt_of ep, rfl, .ref l, [.int (e : Nat)], rfl, .int (e : Nat), [], rfl, rfl, ?_⟩
  have hbl : ws.length ≤ 100000 := by
    have h1 := F2.length hF
    have : ∀ {pl : Nat} {bs : List (List Int)} {e : Nat}, Frm os pl bs e → bs.length + pl ≤ e ∧ (pl ≤ os.length → e ≤ os.length) := by
      intro pl bs e h
      induction h with
      | stop _ => exact ⟨by simp, fun h => h⟩
      | step h1 _ ih =>
        have := frameAt_end (fun x hx => (h8 x hx).1) h1
        exact ⟨by simp only [List.length_cons]; omega, fun _ => ih.2 this.2.2⟩
    have := this hf
    omega
  refine ⟨l, rfl, ⟨_, sql_of el⟩, fun nl hnl => lc_list (K := K) (a := l) (xs := ws) (fun i H' => Same H1 H' ∧ ∃ us, H' nl = some (.lst us) ∧ F2 (TI K H') us (bs.take i)) ⟨same_new hnl, [], upd_same, .nil⟩ (fun i H' _ hP => sql_of (hP.1 _ _ el)) (fun i w H' hi hP => ?_) fun H' hP => ?_⟩
  · obtain ⟨s, us, eu, hU⟩ := hP
    obtain ⟨b, hb, x, rfl, ex⟩ := F2.get i hF hi
    refine ⟨rfl, .inl ⟨_, sql_of (s _ _ ex), fun t nt => ?_⟩⟩
    have hul : us.length ≤ 100000 := by
      have h1 := F2.length hU
      rw [List.length_take] at h1
      have := (List.getElem?_eq_some_iff.mp hi).1
      omega
    have st := s.trans (same_new (o := .tup (b.map V.int)) nt)
    have eu2 := (same_new (o := .tup (b.map V.int)) nt) _ _ eu
    refine ⟨us, eu2, line5' hul, same_mut st hnl, us ++ [.ref t], upd_same, ?_⟩
    rw [List.take_add_one, hb]
    exact F2.snoc (F2.mono (fun _ _ h => ti_upd eu2 (TI.same (same_new nt) h)) hU) (ti_upd eu2 ⟨t, rfl, sqt_of upd_same⟩)
  · obtain ⟨s, us, eu, hU⟩ := hP
    rw [List.take_of_length_le (by rw [F2.length hF]; exact Nat.le_refl _)] at hU
    refine .inl ⟨_, sql_of eu, fun t nt => ⟨two_ok, fun r nr => ?_⟩⟩
    refine q (.ref r) _ bs e (s1.trans (s.trans ((same_new nt).trans (same_new nr)))) hf fun M => ?_
    have s2 := (same_new (o := .tup us) nt).trans (same_new (o := .tup [.ref t, .int (e : Nat)]) nr)
    exact .t (sqt_of upd_same) (.cons (.t (Same.sqt (same_new nr) (sqt_of upd_same)) ((f2_dats hU).same s2)) (.cons (.i _) .nil))
theorem rd__law_some_body (vs : List V) (H : Hp) (Q : VK) (E : XK) (h : sp__law_some_body K vs H Q E) : t__law_some_body K { nx := fun _ H' => Q .non H', rt := Q } (start N__law_some_body vs) H := by
  obtain ⟨M, d, rfl, w, D, q⟩ := h
  refine ⟨by show 10 ≤ sizeLine; decide, fun l nl => ?_⟩
  have D1 := fun o => Deal.new (o := o) w D nl
  have f1 := fun o => (Fr.refl w).new (o := o) nl
  refine ⟨M, d, (f1 _).w', D1 _, .inl ⟨l, _, rfl, .inl ⟨w.notM nl, upd_same⟩, by simp, by simp, fun v H2 hv f2 D2 => ?_⟩⟩
  have hr : ∃ n : Int, v = .int n ∧ 0 ≤ n ∧ n ≤ 300 := by
    simp only [List.mem_cons, List.not_mem_nil, or_false] at hv
    rcases hv with rfl | rfl | rfl | rfl | rfl | rfl | rfl | rfl | rfl | rfl <;> exact ⟨_, rfl, by decide, by decide⟩
  obtain ⟨n, rfl, n0, n1⟩ := hr
  have f12 := (f1 _).trans f2
  refine iteD (fun _ => ?_) fun _ => ?_
  · refine ⟨M, d, rfl, f2.w', D2, fun r H3 r0 r1 f3 D3 => ⟨by show 4 ≤ sizeLine; decide, fun l2 nl2 => ?_⟩⟩
    have D4 := fun o => Deal.new (o := o) f3.w' D3 nl2
    have f4 := fun o => (f12.trans f3).new (o := o) nl2
    refine ⟨M, d, (f4 _).w', D4 _, .inl ⟨l2, _, rfl, .inl ⟨f3.w'.notM nl2, upd_same⟩, by simp, by simp, fun v5 H5 hv5 f5 D5 => ⟨two_ok, fun t nt => ?_⟩⟩⟩
    have hr5 : ∃ n : Int, v5 = .int n ∧ 0 ≤ n ∧ n ≤ 128 := by
      simp only [List.mem_cons, List.not_mem_nil, or_false] at hv5
      rcases hv5 with rfl | rfl | rfl | rfl <;> exact ⟨_, rfl, by decide, by decide⟩
    obtain ⟨s, rfl, s0, s1⟩ := hr5
    have D6 := Deal.new (o := .tup [.int r, .int s]) f5.w' D5 nt
    have f6 := ((f4 _).trans f5).new (o := .tup [.int r, .int s]) nt
    refine ⟨t, _, rfl, sqt_of upd_same, rfl, .int r, [.int s], rfl, .int s, [], rfl, rfl, ?_⟩
    revert D6 f6
    generalize upd H5 t (.tup [.int r, .int s]) = H6
    intro D6 f6
    refine ⟨n, rfl, by omega, by omega, fun l3 nl3 => ?_⟩
    refine lc_fun (walk_range (lo := 0) (n := n.toNat)) (fun i => .int ((r + (i : Int) * s) % 256)) nl3 (by omega) (fun _ => rfl) (fun _ _ => trivial) (fun i x H7 H8 hi s7 y => ?_) fun H7 s7 e7 => ?_
    · obtain ⟨rfl, rfl⟩ := y
      refine ⟨Same.refl _, fun Q' k => ⟨.inr ⟨by omega, by omega⟩, by decide, ?_⟩⟩
      have kk := k _ (Same.refl _)
      rw [Int.zero_add]
      exact kk
    · have em : ((List.range n.toNat).map fun i : Nat => V.int ((r + (i : Int) * s) % 256)) = ((List.range n.toNat).map fun i : Nat => (r + (i : Int) * s) % 256).map V.int := by
        rw [List.map_map]
        rfl
      rw [em] at e7
      have f7 := f6.trans (.same f6.w' s7)
      refine q _ l3 H7 (fun x hx => ?_) (by simp; omega) f7 (Deal.same D6 s7) ?_ e7
      · obtain ⟨i, _, rfl⟩ := List.mem_map.mp hx
        exact ⟨Int.emod_nonneg _ (by decide), Int.emod_lt_of_pos _ (by decide)⟩
      · exact fr_none f6 nl3
  · refine ⟨n, rfl, by omega, by omega, fun l3 nl3 => ?_⟩
    have nM : ¬ M l3 := f2.w'.notM nl3
    refine lc_range (lo := 0) (n := n.toNat) (fun i H' => Fr M H2 H' ∧ Deal M H' d ∧ ∃ os : List Int, H' l3 = some (.lst (os.map V.int)) ∧ os.length = i ∧ Ok8 os) ⟨(Fr.refl f2.w').new nl3, Deal.new f2.w' D2 nl3, [], upd_same, rfl, fun _ h => by simp at h⟩ (fun i H' hi hP => ?_) fun H' hP => ?_
    · obtain ⟨f, D', os, el, rfl, h8⟩ := hP
      refine ⟨rfl, M, d, rfl, f.w', D', fun r H3 r0 r1 f3 D3 => ⟨os.map V.int, f3.keep _ _ nM el, line5' (by rw [List.length_map]; omega), ?_⟩⟩
      refine ⟨(f.trans f3).mut nl3, Deal.mut nM D3, os ++ [r], by rw [upd_same, snoc_ints], by simp, fun x hx => ?_⟩
      rcases List.mem_append.mp hx with hx | hx
      · exact h8 x hx
      · rw [List.mem_singleton.mp hx]
        exact ⟨r0, r1⟩
    · obtain ⟨f, D', os, el, hol, h8⟩ := hP
      exact q os l3 H' h8 (by omega) (f12.trans f) D' (fr_none f12 nl3) el
end
section
variable {K : PySem.W.Frag}
theorem rd__law_bent (vs : List V) (H : Hp) (Q : VK) (E : XK) (h : sp__law_bent K vs H Q E) : t__law_bent K { nx := fun _ H' => Q .non H', rt := Q } (start N__law_bent vs) H := by
  obtain ⟨M, d, a, os, rfl, w, D, nMa, ea, hne, h8, hl, q⟩ := h
  have hpos : 1 ≤ os.length := List.length_pos_iff.mpr hne
  refine ⟨_, .inl (sql_of ea), ?_⟩
  rw [List.length_map]
  refine iteD (fun z => ?_) fun _ => ?_
  · exfalso
    omega
  refine ⟨_, .inl (sql_of ea), M, d, ((os.map V.int).length : Nat), rfl, w, D, by rw [List.length_map]; omega, by rw [List.length_map]; omega, fun r H1 r0 r1 f1 D1 => ?_⟩
  rw [List.length_map] at r1
  refine ⟨M, d, 4, rfl, f1.w', D1, by decide, by decide, fun st H2 st0 st1 f2 D2 => ⟨_, _, rfl, ?_⟩⟩
  have f12 := f1.trans f2
  have ea2 := f12.keep _ _ nMa ea
  have htl : (os.take r.toNat).length ≤ os.length := by rw [List.length_take]; omega
  have hdl : (os.drop (r + 1).toNat).length + r.toNat + 1 ≤ os.length := by rw [List.length_drop]; omega
  have htr : (os.take r.toNat).length ≤ r.toNat := by rw [List.length_take]; omega
  have hdr : (os.drop r.toNat).length + r.toNat ≤ os.length := by rw [List.length_drop]; omega
  have t8 : Ok8 (os.take r.toNat) := fun x hx => h8 x (List.mem_of_mem_take hx)
  have d8 : Ok8 (os.drop (r + 1).toNat) := fun x hx => h8 x (List.mem_of_mem_drop hx)
  have d80 : Ok8 (os.drop r.toNat) := fun x hx => h8 x (List.mem_of_mem_drop hx)
  refine iteD (fun _ => ?_) fun _ => ?_
  · refine .inl ⟨_, sql_of ea2, fun x nx => ?_⟩
    rw [cut_to' _ r0]
    have sx : Same H2 (upd H2 x (.lst ((os.take r.toNat).map V.int))) := same_new nx
    refine .inl ⟨_, sql_of (sx _ _ ea2), fun y ny => ?_⟩
    rw [cut_from' _ (by omega)]
    have sy := same_new (o := .lst ((os.drop (r + 1).toNat).map V.int)) ny
    refine ⟨x, y, _, _, rfl, rfl, sy _ _ upd_same, upd_same, Nat.le_of_lt (line5' (by simp only [List.length_map]; omega)), fun z nz => ?_⟩
    have f3 := f12.trans (Fr.same f12.w' (sx.trans sy))
    refine q (os.take r.toNat ++ os.drop (r + 1).toNat) z _ (Ok8.app t8 d8) (by rw [List.length_append]; omega) (f3.new nz) (Deal.same D2 (sx.trans (sy.trans (same_new nz)))) (fr_none f3 nz) ?_
    rw [upd_same, List.map_append]
  refine iteD (fun _ => ?_) fun _ => ?_
  · refine .inl ⟨_, sql_of ea2, fun x nx => ?_⟩
    rw [cut_to' _ r0]
    have sx : Same H2 (upd H2 x (.lst ((os.take r.toNat).map V.int))) := same_new nx
    have fx := f12.trans (Fr.same f12.w' sx)
    refine ⟨M, d, rfl, fx.w', Deal.same D2 sx, fun oc H3 oc0 oc1 f3 D3 => ⟨by show 1 ≤ sizeLine; decide, fun o no => ?_⟩⟩
    have f13 := fx.trans f3
    have exx := f3.keep _ _ (f12.w'.notM nx) upd_same
    have so := same_new (o := .lst [.int oc]) no
    refine ⟨x, o, _, _, rfl, rfl, so _ _ exx, upd_same, Nat.le_of_lt (line5' (by simp only [List.length_map, List.length_cons, List.length_nil]; omega)), fun y ny => ?_⟩
    have sy := same_new (o := .lst ((os.take r.toNat).map V.int ++ [.int oc])) ny
    have f15 := f13.trans (Fr.same f13.w' (so.trans sy))
    have ea5 := f15.keep _ _ nMa ea
    refine .inl ⟨_, sql_of ea5, fun z nz => ?_⟩
    rw [cut_from' _ r0]
    have sz := same_new (o := .lst ((os.drop r.toNat).map V.int)) nz
    refine ⟨y, z, _, _, rfl, rfl, sz _ _ upd_same, upd_same, Nat.le_of_lt (line5' (by simp only [List.length_append, List.length_map, List.length_cons, List.length_nil]; omega)), fun u nu => ?_⟩
    have f16 := f15.trans (Fr.same f15.w' sz)
    refine q (os.take r.toNat ++ [oc] ++ os.drop r.toNat) u _ (Ok8.app (Ok8.app t8 fun x hx => by rw [List.mem_singleton.mp hx]; exact ⟨oc0, oc1⟩) d80) (by simp only [List.length_append, List.length_cons, List.length_nil]; omega) (f16.new nu) (Deal.same D3 (so.trans (sy.trans (sz.trans (same_new nu))))) (fr_none f16 nu) ?_
    rw [upd_same, List.map_append, List.map_append]
    rfl
  · refine .inl ⟨_, sql_of ea2, fun x nx => ?_⟩
    rw [cut_to' _ r0]
    have sx : Same H2 (upd H2 x (.lst ((os.take r.toNat).map V.int))) := same_new nx
    have fx := f12.trans (Fr.same f12.w' sx)
    have hk : ∃ k, os[r.toNat]? = some k := ⟨_, List.getElem?_eq_getElem (by omega)⟩
    obtain ⟨k, hk⟩ := hk
    refine ⟨_, _, .inl (sql_of (sx _ _ ea2)), ints_atI (i := r.toNat) (by omega) hk, ?_⟩
    refine ⟨M, d, 255, rfl, fx.w', Deal.same D2 sx, by decide, by decide, fun r3 H3 c0 c1 f3 D3 => ⟨by show 4 ≤ sizeLine; decide, fun o no => ?_⟩⟩
    have f13 := fx.trans f3
    have exx := f3.keep _ _ (f12.w'.notM nx) upd_same
    have so := same_new (o := .lst [.int 1, .int 128, .int 255, .int (1 + r3)]) no
    have f14 := f13.trans (Fr.same f13.w' so)
    refine ⟨M, d, f14.w', Deal.same D3 so, .inl ⟨o, _, rfl, .inl ⟨f13.w'.notM no, upd_same⟩, by simp, by simp, fun v H5 hv f5 D5 => ?_⟩⟩
    have hvi : ∃ n : Int, v = .int n := by
      simp only [List.mem_cons, List.not_mem_nil, or_false] at hv
      rcases hv with rfl | rfl | rfl | rfl <;> exact ⟨_, rfl⟩
    obtain ⟨n, rfl⟩ := hvi
    have f15 := f14.trans f5
    have ex5 := f5.keep _ _ (f12.w'.notM nx) (so _ _ exx)
    refine ⟨by decide, by show 1 ≤ sizeLine; decide, fun o2 no2 => ?_⟩
    have so2 := same_new (o := .lst [.int ((k + n) % 256)]) no2
    refine ⟨x, o2, _, _, rfl, rfl, so2 _ _ ex5, upd_same, Nat.le_of_lt (line5' (by simp only [List.length_map, List.length_cons, List.length_nil]; omega)), fun y ny => ?_⟩
    have sy := same_new (o := .lst ((os.take r.toNat).map V.int ++ [.int ((k + n) % 256)])) ny
    have f16 := f15.trans (Fr.same f15.w' (so2.trans sy))
    have ea6 := f16.keep _ _ nMa ea
    refine .inl ⟨_, sql_of ea6, fun z nz => ?_⟩
    rw [cut_from' _ (by omega)]
    have sz := same_new (o := .lst ((os.drop (r + 1).toNat).map V.int)) nz
    refine ⟨y, z, _, _, rfl, rfl, sz _ _ upd_same, upd_same, Nat.le_of_lt (line5' (by simp only [List.length_append, List.length_map, List.length_cons, List.length_nil]; omega)), fun u nu => ?_⟩
    have f17 := f16.trans (Fr.same f16.w' sz)
    refine q (os.take r.toNat ++ [(k + n) % 256] ++ os.drop (r + 1).toNat) u _ (Ok8.app (Ok8.app t8 fun x hx => by rw [List.mem_singleton.mp hx]; exact ⟨Int.emod_nonneg _ (by decide), Int.emod_lt_of_pos _ (by decide)⟩) d8) (by simp only [List.length_append, List.length_cons, List.length_nil]; omega) (f17.new nu) (Deal.same D5 (so2.trans (sy.trans (sz.trans (same_new nu))))) (fr_none f17 nu) ?_
    rw [upd_same, List.map_append, List.map_append]
    rfl
end
end LF
/-! The law's body. -/
namespace L82
open PySem PySem.Spec PyProof.Rows L2 Kx LH LO LF Oct
def sp_law (K : PySem.W.Frag) : Sp := fun vs H Q _ => ∃ (a : Addr) (ns : List Int), vs = [.ref a] ∧ SqL K H a (ns.map V.int) ∧ ns.length ≤ 63 ∧ ∀ H', Q (.bl true) H'
abbrev N_law : List Str := ["script", "deal", "pairs", "rows", "turn", "body", "row", "octets", "many", "ahead", "last", "cut", "bent", "wrong", "mixed", "one", "great", "number"]
def t_law (K : PySem.W.Frag) : TS :=
    (tSeq (tAsg (tCall (sp__law_deal K) [] E0 (tCons (tV 0) (tCons (tC (.int 82)) tNil))) (gName 1))
    (tSeq (tPar 2 3 (tCons (tLst tNil) (tCons (tLst tNil) tNil)))
    (tSeq (tFor (iRng1 (tCons (tCall (sp__law_of K) [] E0 (tCons (tV 1) (tCons (tLst (tCons (tC (.int 1)) (tCons (tC (.int 2)) (tCons (tC (.int 4)) (tCons (tC (.int 7)) tNil))))) tNil))) tNil)) (gName 4) (tSeq (tAsg (tCall (sp__law_some_body K) [] E0 (tCons (tV 1) tNil)) (gName 5))
    (tSeq (tAsg (tCall (sp__law_framed K) [] E0 (tCons (tV 5) tNil)) (gName 6))
    (tSeq (tDrop (tApp (tV 2) (tTup (tCons (tIf (tTM (tOp (qI2 fun i j => decide (i < j)) (tV 4) (tC (.int 2)))) (tCall (sp_frame K) [] E0 (tCons (tCB (qTupO K) (tCons (tV 5) tNil)) tNil)) (tCallK0 (sp_frame K) E0 1 (tCons (tCB (qTupO K) (tCons (tV 5) tNil)) tNil))) (tCons (tCB (qTupO K) (tCons (tV 6) tNil)) tNil)))))
    (tDrop (tApp (tV 3) (tTup (tCons (tV 5) (tCons (tV 6) tNil)))))))))
    (tSeq (tAsg (tCall (sp__law_joined K) [] E0 (tCons (tLc (iList K (tV 3)) (gTup K 2 (gCons (gName 5) (gCons (gName 6) gNil))) tYes (tV 6) [5, 6]) tNil)) (gName 7))
    (tSeq (tDrop (tApp (tV 2) (tTup (tCons (tCall (sp_frames K) [] E0 (tCons (tCB (qTupO K) (tCons (tV 7) tNil)) tNil)) (tCons (tTup (tCons (tCB (qTupO K) (tCons (tLc (iList K (tV 3)) (gTup K 2 (gCons (gName 5) (gCons (gName 6) gNil))) tYes (tCB (qTupO K) (tCons (tV 5) tNil)) [5, 6]) tNil)) (tCons (tCB (qLen K) (tCons (tV 7) tNil)) tNil))) tNil)))))
    (tSeq (tFor (iRng1 (tCons (tC (.int 3)) tNil)) (gName 4) (tSeq (tAsg (tCall (sp__law_any K) [] E0 (tCons (tV 1) (tCons (tCB (qLen K) (tCons (tV 3) tNil)) tNil))) (gName 8))
    (tSeq (tAsg (tCall (sp__law_joined K) [] E0 (tCons (tLc (iList K (tSl (qSl K) (tV 3) tNoPart (tPt (tV 8)))) (gTup K 2 (gCons (gName 5) (gCons (gName 6) gNil))) tYes (tV 6) [5, 6]) tNil)) (gName 9))
    (tSeq (tAsg (tOp (qIx K) (tOp (qIx K) (tV 3) (tV 8)) (tC (.int 1))) (gName 10))
    (tSeq (tAsg (tOp rCat (tV 9) (tSl (qSl K) (tV 10) tNoPart (tPt (tCall (sp__law_any K) [] E0 (tCons (tV 1) (tCons (tCB (qLen K) (tCons (tV 10) tNil)) tNil)))))) (gName 11))
    (tSeq (tDrop (tApp (tV 2) (tTup (tCons (tCallK0 (sp_frames K) E0 1 (tCons (tCB (qTupO K) (tCons (tV 11) tNil)) tNil)) (tCons (tTup (tCons (tCB (qTupO K) (tCons (tLc (iList K (tSl (qSl K) (tV 3) tNoPart (tPt (tV 8)))) (gTup K 2 (gCons (gName 5) (gCons (gName 6) gNil))) tYes (tCB (qTupO K) (tCons (tV 5) tNil)) [5, 6]) tNil)) (tCons (tCB (qLen K) (tCons (tV 9) tNil)) tNil))) tNil)))))
    (tSeq (tDrop (tApp (tV 2) (tTup (tCons (tCall (sp_frames K) [] E0 (tCons (tCB (qTupO K) (tCons (tOp rCat (tV 9) (tV 10)) tNil)) tNil)) (tCons (tTup (tCons (tCB (qTupO K) (tCons (tLc (iList K (tSl (qSl K) (tV 3) tNoPart (tPt (tOp qAdd (tV 8) (tC (.int 1)))))) (gTup K 2 (gCons (gName 5) (gCons (gName 6) gNil))) tYes (tCB (qTupO K) (tCons (tV 5) tNil)) [5, 6]) tNil)) (tCons (tCB (qLen K) (tCons (tOp rCat (tV 9) (tV 10)) tNil)) tNil))) tNil)))))
    (tSeq (tAsg (tCall (sp__law_bent K) [] E0 (tCons (tV 1) (tCons (tV 7) tNil))) (gName 12))
    (tSeq (tDrop (tApp (tV 2) (tTup (tCons (tCall (sp_frames K) [] E0 (tCons (tCB (qTupO K) (tCons (tV 12) tNil)) tNil)) (tCons (tCall (sp__law_due K) [] E0 (tCons (tV 12) tNil)) tNil)))))
    (tSeq (tAsg (tCall (sp__law_of K) [] E0 (tCons (tV 1) (tCons (tLst (tCons (tLst (tCons (tC (.int 0)) (tCons (tC (.int 0)) (tCons (tC (.int 1)) tNil)))) (tCons (tLst (tCons (tC (.int 1)) (tCons (tC (.int 0)) (tCons (tC (.int 1)) (tCons (tC (.int 0)) tNil))))) (tCons (tLst (tCons (tC (.int 0)) (tCons (tC (.int 1)) (tCons (tC (.int 0)) tNil)))) (tCons (tLst (tCons (tC (.int 128)) (tCons (tC (.int 0)) (tCons (tC (.int 0)) (tCons (tC (.int 0)) tNil))))) (tCons (tLst (tCons (tC (.int 1)) (tCons (tC (.int 5)) (tCons (tC (.int 0)) (tCons (tC (.int 5)) tNil))))) (tCons (tLst (tCons (tC (.int 255)) tNil)) (tCons (tLst (tCons (tC (.int 3)) (tCons (tC (.int 1)) (tCons (tC (.int 1)) (tCons (tC (.int 1)) (tCons (tC (.int 6)) tNil)))))) (tCons (tLst (tCons (tC (.int 2)) (tCons (tC (.int 1)) (tCons (tC (.int 1)) (tCons (tC (.int 3)) (tCons (tC (.int 1)) tNil)))))) tNil))))))))) tNil))) (gName 13))
    (tSeq (tAsg (tOp rCat (tOp rCat (tOp rCat (tV 9) (tV 13)) (tV 10)) (tLc (iRng1 (tCons (tCall (sp__law_any K) [] E0 (tCons (tV 1) (tCons (tC (.int 5)) tNil))) tNil)) (gName 17) tYes (tCall (sp__law_octet K) [] E0 (tCons (tV 1) tNil)) [17])) (gName 14))
    (tDrop (tApp (tV 2) (tTup (tCons (tCall (sp_frames K) [] E0 (tCons (tCB (qTupO K) (tCons (tV 14) tNil)) tNil)) (tCons (tCall (sp__law_due K) [] E0 (tCons (tV 14) tNil)) tNil))))))))))))))))
    (tSeq (tIfS (tTM (tOp qEqS (tCall (sp__law_any K) [] E0 (tCons (tV 1) (tCons (tC (.int 6)) tNil))) (tC (.int 0)))) (tSeq (tPar 8 15 (tCons (tCall (sp__law_of K) [] E0 (tCons (tV 1) (tCons (tLst (tCons (tC (.int 8000)) (tCons (tC (.int 7999)) (tCons (tC (.int 4096)) tNil)))) tNil))) (tCons (tCall (sp__law_octet K) [] E0 (tCons (tV 1) tNil)) tNil)))
    (tSeq (tAsg (tOp rRep (tLst (tCons (tV 15) tNil)) (tV 8)) (gName 16))
    (tSeq (tDrop (tApp (tV 2) (tTup (tCons (tCall (sp_frames K) [] E0 (tCons (tCall (sp_frame K) [] E0 (tCons (tCB (qTupO K) (tCons (tV 16) tNil)) tNil)) tNil)) (tCons (tTup (tCons (tTup (tCons (tCB (qTupO K) (tCons (tV 16) tNil)) tNil)) (tCons (tOp qAdd (tV 8) (tC (.int 4))) tNil))) tNil)))))
    (tDrop (tApp (tV 2) (tTup (tCons (tSl (qSl K) (tCall (sp_frame K) [] E0 (tCons (tCB (qTupO K) (tCons (tV 16) tNil)) tNil)) (tPt (tNeg (tC (.int 2)))) tNoPart) (tCons (tTup (tCons (tOp qMod (tCB qInt (tCons (tCall (sp__law_sum K) [] E0 (tCons (tV 16) tNil)) tNil)) (tC (.int 256))) (tCons (tOp qDiv (tCall (sp__law_sum K) [] E0 (tCons (tV 16) tNil)) (tC (.int 256))) tNil))) tNil)))))))) tNext)
    (tSeq (tDrop (tApp (tV 2) (tTup (tCons (tCall (sp_frames K) [] E0 (tCons (tTup tNil) tNil)) (tCons (tTup (tCons (tTup tNil) (tCons (tC (.int 0)) tNil))) tNil)))))
    (tRet (tCall (sp__law_all K) [] E0 (tCons (tV 2) tNil)))))))))))
section
variable {K : PySem.W.Frag} {M N : Addr → Prop} {d p rr : Addr} {H H' : Hp} {ws rws : List V} {bodies : List (List Int)}
mutual
theorem Dat.updN {l : Addr} {us : List V} {o : HO} (e : H l = some (.lst us)) : ∀ {v : V} {dd : D}, dd.noL = true → Dat K M H v dd → Dat K M (upd H l o) v dd
  | _, _, _, .n => .n
  | _, _, _, .b c => .b c
  | _, _, _, .i c => .i c
  | _, _, _, .s c => .s c
  | _, _, h, .t s r => .t (sqt_upd e s) (Dats.updN e (D.noL_t.mp h) r)
  | _, _, h, .l _ _ _ => by simp [D.noL] at h
theorem Dats.updN {l : Addr} {us : List V} {o : HO} (e : H l = some (.lst us)) : ∀ {vs : List V} {ds : List D}, (∀ x ∈ ds, x.noL = true) → Dats K M H vs ds → Dats K M (upd H l o) vs ds
  | _, _, _, .nil => .nil
  | _, _, h, .cons a b => .cons (Dat.updN e (h _ (List.mem_cons_self ..)) a) (Dats.updN e (fun x hx => h x (List.mem_cons_of_mem _ hx)) b)
end
/-- a body and its frame -/
def RowP (K : PySem.W.Frag) (N : Addr → Prop) (H : Hp) (w : V) (b : List Int) : Prop := ∃ t x y, w = .ref t ∧ SqT K H t [.ref x, .ref y] ∧ ¬ N x ∧ ¬ N y ∧ H x = some (.lst (b.map V.int)) ∧ H y = some (.lst ((framed b).map V.int))
theorem RowP.fr {w : V} {b : List Int} (f : Fr N H H') (h : RowP K N H w b) : RowP K N H' w b := by
  obtain ⟨t, x, y, e, s, nx, ny, ex, ey⟩ := h
  exact ⟨t, x, y, e, f.sqt s, nx, ny, f.keep _ _ nx ex, f.keep _ _ ny ey⟩
theorem RowP.same {w : V} {b : List Int} (f : Same H H') (h : RowP K N H w b) : RowP K N H' w b := by
  obtain ⟨t, x, y, e, s, nx, ny, ex, ey⟩ := h
  exact ⟨t, x, y, e, Same.sqt f s, nx, ny, f _ _ ex, f _ _ ey⟩
structure LT (K : PySem.W.Frag) (M : Addr → Prop) (d p rr : Addr) (H : Hp) (ws rws : List V) (bodies : List (List Int)) : Prop where
  S : LS K M d p H ws
  nr : ¬ Mo M p rr
  er : H rr = some (.lst rws)
  rows : F2 (RowP K (Mo (Mo M p) rr) H) rws bodies
theorem LT.lift {ws' : List V} (L : LT K M d p rr H ws rws bodies) (S : LS K M d p H' ws') (f : Fr (Mo M p) H H') : LT K M d p rr H' ws' rws bodies ∧ Fr (Mo (Mo M p) rr) H H' :=
  have g := f.mo L.nr L.er
  ⟨⟨S, L.nr, f.keep _ _ L.nr L.er, F2.imp (fun _ _ h => h.fr g) L.rows⟩, g⟩
theorem LT.fr (L : LT K M d p rr H ws rws bodies) (f : Fr M H H') (D : Deal M H' d) : LT K M d p rr H' ws rws bodies ∧ Fr (Mo (Mo M p) rr) H H' :=
  have z := L.S.fr f D
  L.lift z.1 z.2
theorem LT.same (L : LT K M d p rr H ws rws bodies) (s : Same H H') : LT K M d p rr H' ws rws bodies ∧ Fr (Mo (Mo M p) rr) H H' :=
  have z := L.S.same s
  L.lift z.1 z.2
theorem LT.nm (L : LT K M d p rr H ws rws bodies) {l : Addr} (nl : H l = none) : ¬ Mo (Mo M p) rr l := fun m => by
  rcases m with m | rfl
  · exact L.S.nm nl m
  · rw [L.er] at nl
    cases nl
theorem LT.new (L : LT K M d p rr H ws rws bodies) {l : Addr} {o : HO} (nl : H l = none) : LT K M d p rr (upd H l o) ws rws bodies ∧ Fr (Mo (Mo M p) rr) H (upd H l o) := L.same (same_new nl)
theorem LT.push (L : LT K M d p rr H ws rws bodies) {x y : V} {dd : D} (hx : Dat K (Mo M p) H x dd) (hy : Dat K (Mo M p) H y dd) (hn : dd.noL = true) (hz : dd.sz ≤ 100000) {q : Addr} (nq : H q = none) :
    (upd H q (.tup [x, y])) p = some (.lst ws) ∧ LT K M d p rr (upd (upd H q (.tup [x, y])) p (.lst (ws ++ [.ref q]))) (ws ++ [.ref q]) rws bodies ∧ Fr (Mo (Mo M p) rr) H (upd (upd H q (.tup [x, y])) p (.lst (ws ++ [.ref q]))) := by
  obtain ⟨e, S, f⟩ := L.S.push hx hy hn hz nq
  obtain ⟨L', g⟩ := L.lift S f
  exact ⟨e, L', g⟩
/-- one more row -/
theorem LT.row (L : LT K M d p rr H ws rws bodies) {w : V} {b : List Int} (hw : RowP K (Mo (Mo M p) rr) H w b) : LT K M d p rr (upd H rr (.lst (rws ++ [w]))) ws (rws ++ [w]) (bodies ++ [b]) := by
  have ne : p ≠ rr := fun e => L.nr (.inr e.symm)
  have nM : ¬ M rr := fun m => L.nr (.inl m)
  have wf : Wf M (upd H rr (.lst (rws ++ [w]))) := by
    refine ⟨fun a m => ?_, fun a xs m r => ?_⟩
    · have na : a ≠ rr := fun e => nM (by rw [← e]; exact m)
      rw [upd_ne na]
      exact L.S.w.al a m
    · have na : a ≠ rr := fun e => nM (by rw [← e]; exact m)
      refine L.S.w.nt a xs m ?_
      unfold Rd at r ⊢
      rw [upd_ne na] at r
      exact r
  have g : Fr (Mo (Mo M p) rr) H (upd H rr (.lst (rws ++ [w]))) := (Fr.refl ((L.S.w.mo L.S.e).mo L.er)).put (.inr rfl)
  refine ⟨⟨wf, Deal.mut nM L.S.dl, L.S.np, by rw [upd_ne ne]; exact L.S.e, fun v hv => ?_⟩, L.nr, upd_same, F2.snoc (F2.imp (fun _ _ h => h.fr g) L.rows) (hw.fr g)⟩
  obtain ⟨q, a, b, dd, e, t, ha, hb, hn, hz⟩ := L.S.pr v hv
  exact ⟨q, a, b, dd, e, sqt_upd L.er t, Dat.updN L.er hn ha, Dat.updN L.er hn hb, hn, hz⟩
theorem frD_ok {os : List Int} (ho : ∀ x ∈ os, 0 ≤ x) : ∀ {pl : Nat} {bs : List (List Int)} {e : Nat}, Frm os pl bs e → (bs.map fun b => b.length + 1).sum + pl ≤ e ∧ (pl ≤ os.length → e ≤ os.length) := by
  intro pl bs e h
  induction h with
  | stop _ => exact ⟨by simp, fun h => h⟩
  | @step pl e e2 b bs h1 _ ih =>
    have h2 := frameAt_end ho h1
    have h3 : b.length + pl + 1 ≤ e := by
      unfold frameAt at h1
      cases hn : numAt os (pl : Nat) with
      | none =>
        rw [hn] at h1
        cases h1
      | some ne =>
        obtain ⟨n, f⟩ := ne
        have h4 := numAt_end hn
        have h5 := numAt_pos ho hn
        rw [hn] at h1
        by_cases hc : (os.length : Int) - f < n + 2
        · simp only [if_pos hc] at h1
          cases h1
        · simp only [if_neg hc] at h1
          by_cases hd : (os.drop (f + n.toNat)).take 2 = tail2 ((os.drop f).take n.toNat)
          · rw [if_pos hd] at h1
            obtain ⟨rfl, e5⟩ := Prod.mk.inj (Option.some.inj h1)
            rw [List.length_take]
            omega
          · rw [if_neg hd] at h1
            cases h1
    exact ⟨by simp only [List.map_cons, List.sum_cons]; omega, fun _ => ih.2 h2.2.2⟩
theorem frD_sz (bs : List (List Int)) (e : Nat) : (frD bs e).noL = true ∧ (frD bs e).sz = 3 + (bs.map fun b => b.length + 1).sum := by
  constructor
  · unfold frD
    rw [D.noL_t]
    intro x hx
    simp only [List.mem_cons, List.not_mem_nil, or_false] at hx
    rcases hx with rfl | rfl
    · rw [D.noL_t]
      intro x hx
      obtain ⟨b, _, rfl⟩ := List.mem_map.mp hx
      exact noL_ints b
    · simp [D.noL]
  · unfold frD
    rw [D.sz_t]
    simp only [List.map_cons, List.map_nil, List.sum_cons, List.sum_nil]
    rw [D.sz_t, List.map_map]
    have : ∀ bs : List (List Int), (bs.map (D.sz ∘ fun b : List Int => D.t (b.map .i))).sum = (bs.map fun b => b.length + 1).sum := fun bs => by
      induction bs with
      | nil => rfl
      | cons b bs ih =>
        rw [List.map_cons, List.map_cons, List.sum_cons, List.sum_cons, ih]
        show (D.t (b.map D.i)).sz + _ = _
        rw [sz_ints]
        omega
    rw [this]
    simp [D.sz]
    omega
theorem frm_sz {os : List Int} (ho : Ok8 os) (hl : os.length ≤ 19000) {bs : List (List Int)} {e : Nat} (h : Frm os 0 bs e) : (frD bs e).noL = true ∧ (frD bs e).sz ≤ 100000 := by
  have h1 := frD_ok (fun x hx => (ho x hx).1) h
  have h2 := frD_sz bs e
  refine ⟨h2.1, ?_⟩
  have := h1.2 (Nat.zero_le _)
  omega
section
variable {a D0 : Addr} {xs : List V} {bs : List (List Int)} {H1 : Hp} {Qd : Hp → Prop} {y0 y1 y2 y3 y4 y5 y6 y7 y8 y9 y10 y11 y12 y13 y14 y15 y16 y17 : Option V}
/-- [row for body, row in rows] -/
theorem lc_row (nD : H1 D0 = none) (hx : H1 a = some (.lst xs)) (hR : F2 (RowP K N H1) xs bs) (hn : xs.length ≤ 1000) (hd : ∀ H us, Same H1 H → H D0 = some (.lst us) → F2 (LI H) us (bs.map framed) → Qd H) :
    ∃ W : Nat → Nat → Hp → Prop, (∃ m, W 0 m (upd H1 D0 (.lst []))) ∧ ∀ i m H, W i m H →
      ((Itl K a).stop i H ∧ Qd H) ∨ ((Itl K a).go i H ∧ ∃ Nx : Hp → Prop, (∀ H', Nx H' → ∃ m', m' < m ∧ W (i + 1) m' H') ∧ ∀ x H', (Itl K a).yld i H x H' → (gTup K 2 (gCons (gName 5) (gCons (gName 6) gNil))) x (wipe [y0, y1, y2, y3, y4, y5, y6, y7, y8, y9, y10, y11, y12, y13, y14, y15, y16, y17] [5, 6]) H' fun σ2 H2 => wipe σ2 [5, 6] = wipe [y0, y1, y2, y3, y4, y5, y6, y7, y8, y9, y10, y11, y12, y13, y14, y15, y16, y17] [5, 6] ∧ tYes σ2 H2 fun b H3 =>
        if b = true then (tV 6) σ2 H3 fun y H4 => ∃ acc, H4 D0 = some (.lst acc) ∧ acc.length < sizeLine ∧ Nx (upd H4 D0 (.lst (acc ++ [y]))) else Nx H3) := by
  refine lc_list (K := K) (a := a) (xs := xs) (fun i H' => Same H1 H' ∧ ∃ us, H' D0 = some (.lst us) ∧ F2 (LI H1) us ((bs.take i).map framed) ∧ us.length = i) ⟨same_new nD, [], upd_same, .nil, rfl⟩ (fun i H' _ hP => sql_of (hP.1 _ _ hx)) (fun i w H' hi hP => ?_) fun H' hP => ?_
  · obtain ⟨s, us, eu, hU, hul⟩ := hP
    obtain ⟨b, hb, hw⟩ := F2.get i hR hi
    obtain ⟨t, x, y, rfl, st, nx, ny, ex, ey⟩ := hw
    have hix := (List.getElem?_eq_some_iff.mp hi).1
    refine ⟨t, _, rfl, Same.sqt s st, rfl, .ref x, [.ref y], rfl, .ref y, [], rfl, rfl, rfl, us, eu, line5' (by omega), same_mut s nD, us ++ [.ref y], upd_same, ?_, by simp [hul]⟩
    rw [List.take_add_one, hb, List.map_append]
    exact F2.snoc hU ⟨y, rfl, ey⟩
  · obtain ⟨s, us, eu, hU, hul⟩ := hP
    rw [List.take_of_length_le (by rw [F2.length hR]; exact Nat.le_refl _)] at hU
    exact hd H' us s eu (F2.imp (fun _ _ h => LI.same s h) hU)
/-- [tuple(body) for body, row in rows] -/
theorem lc_body (nD : H1 D0 = none) (hx : H1 a = some (.lst xs)) (hR : F2 (RowP K N H1) xs bs) (hn : xs.length ≤ 1000) (hd : ∀ H us, Same H1 H → H D0 = some (.lst us) → F2 (TI K H) us bs → Qd H) :
    ∃ W : Nat → Nat → Hp → Prop, (∃ m, W 0 m (upd H1 D0 (.lst []))) ∧ ∀ i m H, W i m H →
      ((Itl K a).stop i H ∧ Qd H) ∨ ((Itl K a).go i H ∧ ∃ Nx : Hp → Prop, (∀ H', Nx H' → ∃ m', m' < m ∧ W (i + 1) m' H') ∧ ∀ x H', (Itl K a).yld i H x H' → (gTup K 2 (gCons (gName 5) (gCons (gName 6) gNil))) x (wipe [y0, y1, y2, y3, y4, y5, y6, y7, y8, y9, y10, y11, y12, y13, y14, y15, y16, y17] [5, 6]) H' fun σ2 H2 => wipe σ2 [5, 6] = wipe [y0, y1, y2, y3, y4, y5, y6, y7, y8, y9, y10, y11, y12, y13, y14, y15, y16, y17] [5, 6] ∧ tYes σ2 H2 fun b H3 =>
        if b = true then (tCB (qTupO K) (tCons (tV 5) tNil)) σ2 H3 fun y H4 => ∃ acc, H4 D0 = some (.lst acc) ∧ acc.length < sizeLine ∧ Nx (upd H4 D0 (.lst (acc ++ [y]))) else Nx H3) := by
  refine lc_list (K := K) (a := a) (xs := xs) (fun i H' => Same H1 H' ∧ ∃ us, H' D0 = some (.lst us) ∧ F2 (TI K H') us (bs.take i) ∧ us.length = i) ⟨same_new nD, [], upd_same, .nil, rfl⟩ (fun i H' _ hP => sql_of (hP.1 _ _ hx)) (fun i w H' hi hP => ?_) fun H' hP => ?_
  · obtain ⟨s, us, eu, hU, hul⟩ := hP
    obtain ⟨b, hb, hw⟩ := F2.get i hR hi
    obtain ⟨t, x, y, rfl, st, nx, ny, ex, ey⟩ := hw
    have hix := (List.getElem?_eq_some_iff.mp hi).1
    refine ⟨t, _, rfl, Same.sqt s st, rfl, .ref x, [.ref y], rfl, .ref y, [], rfl, rfl, rfl, .inl ⟨_, sql_of (s _ _ ex), fun T nT => ?_⟩⟩
    have sT := s.trans (same_new (o := .tup (b.map V.int)) nT)
    have eu2 := (same_new (o := .tup (b.map V.int)) nT) _ _ eu
    refine ⟨us, eu2, line5' (by omega), same_mut sT nD, us ++ [.ref T], upd_same, ?_, by simp [hul]⟩
    rw [List.take_add_one, hb]
    exact F2.snoc (F2.imp (fun _ _ h => ti_upd eu2 (TI.same (same_new nT) h)) hU) (ti_upd eu2 ⟨T, rfl, sqt_of upd_same⟩)
  · obtain ⟨s, us, eu, hU, hul⟩ := hP
    rw [List.take_of_length_le (by rw [F2.length hR]; exact Nat.le_refl _)] at hU
    exact hd H' us s eu hU
end
end
section
variable {K : PySem.W.Frag}
theorem F2.take {R : V → List Int → Prop} : ∀ {ws : List V} {bs : List (List Int)} (n : Nat), F2 R ws bs → F2 R (ws.take n) (bs.take n)
  | _, _, 0, _ => .nil
  | _, _, _ + 1, .nil => .nil
  | _, _, n + 1, .cons h t => .cons h (F2.take n t)
theorem cut_vs (xs : List V) {r : Int} (h : 0 ≤ r) : cutV xs none (some r) = xs.take r.toNat := by
  have e : r = ((r.toNat : Nat) : Int) := by omega
  rw [e, cut_to, ← e]
theorem cut_last2 (xs : List V) : cutV xs (some (-2)) none = xs.drop (xs.length - 2) := by
  unfold cutV
  rw [HT.sIx_none]
  have e : HT.sIx xs.length 0 (some (-2)) = xs.length - 2 := by
    show (if (-2 : Int) < 0 then ((-2 : Int) + (xs.length : Int)).toNat else min (-2 : Int).toNat xs.length) = _
    rw [if_pos (by decide)]
    omega
  rw [e, List.take_of_length_le (by rw [List.length_drop]; exact Nat.le_refl _)]
theorem framed_tail (b : List Int) : (framed b).drop ((framed b).length - 2) = tail2 b := by
  have h : (framed b).length - 2 = (octs (b.length : Int) ++ b).length := by
    rw [framed_len, List.length_append]
    omega
  rw [h]
  unfold framed
  rw [List.drop_left]
end
section
variable {K : PySem.W.Frag}
/-- a row that is no frame -/
def WrongP (M : Addr → Prop) (H : Hp) (v : V) : Prop := ∃ x os, v = .ref x ∧ ¬ M x ∧ H x = some (.lst (os.map V.int)) ∧ Ok8 os ∧ os.length ≤ 5
theorem WrongP.fr {M : Addr → Prop} {H H' : Hp} {v : V} (f : Fr M H H') (h : WrongP M H v) : WrongP M H' v := by
  obtain ⟨x, os, e, n, e2, o, l⟩ := h
  exact ⟨x, os, e, n, f.keep _ _ n e2, o, l⟩
theorem flat_len {bs : List (List Int)} {n : Nat} (h : ∀ b ∈ bs, b.length ≤ n) : bs.flatten.length ≤ bs.length * n := by
  induction bs with
  | nil => simp
  | cons b bs ih =>
    rw [List.flatten_cons, List.length_append, List.length_cons, Nat.succ_mul]
    have h1 := h b (List.mem_cons_self ..)
    have h2 := ih fun x hx => h x (List.mem_cons_of_mem _ hx)
    omega
theorem tot_len {bs : List (List Int)} (h : ∀ b ∈ bs, b.length ≤ 300) : (bs.map framed).flatten.length ≤ bs.length * 304 := by
  have h1 := flat_len (bs := bs.map framed) (n := 304) fun x hx => by
    obtain ⟨b, hb, rfl⟩ := List.mem_map.mp hx
    have h2 := h b hb
    have h3 := octs_two (b.length : Int) (by omega)
    rw [framed_len]
    omega
  rw [List.length_map] at h1
  exact h1
theorem tot_ok {bs : List (List Int)} (h : ∀ b ∈ bs, Ok8 b) : Ok8 (bs.map framed).flatten := fun x hx => by
  obtain ⟨l, hl, hx⟩ := List.mem_flatten.mp hx
  obtain ⟨b, hb, rfl⟩ := List.mem_map.mp hl
  exact framed_ok (h b hb) x hx
theorem rd_law (vs : List V) (H : Hp) (Q : VK) (E : XK) (h : sp_law K vs H Q E) : t_law K { nx := fun _ H' => Q .non H', rt := Q } (start N_law vs) H := by
  obtain ⟨a0, ns, rfl, hS0, hl0, q⟩ := h
  refine ⟨a0, ns, 82, rfl, hS0, hl0, by decide, by decide, fun H0 d c cs0 m0 s0 nd nc hne ed ec hcl hcb hm0 hm1 => ?_⟩
  obtain ⟨w0, D0⟩ := deal_start hne ed ec hcl hcb hm0 hm1
  generalize (fun a => a = d ∨ a = c) = M at w0 D0
  refine ⟨by show 0 ≤ sizeLine; decide, fun p np => ⟨by show 0 ≤ sizeLine; decide, fun rr nrr => ⟨_, _, rfl, ?_⟩⟩⟩
  have Sa := LS.start (K := K) (w := w0) (D := D0) np
  have La : LT K M d p rr (upd (upd H0 p (.lst [])) rr (.lst [])) [] [] [] :=
    have z := Sa.new (o := .lst []) nrr
    ⟨z.1, Sa.nm nrr, upd_same, .nil⟩
  clear hS0 s0 nd nc ed ec w0 D0 Sa
  revert La
  generalize upd (upd H0 p (.lst [])) rr (.lst []) = H1
  intro La
  refine ⟨by show 4 ≤ sizeLine; decide, fun l nl => ?_⟩
  obtain ⟨Lb, Fb⟩ := La.new (o := .lst [.int 1, .int 2, .int 4, .int 7]) nl
  refine ⟨M, d, Lb.S.w, Lb.S.dl, .inl ⟨l, _, rfl, .inl ⟨fun m => La.nm nl (.inl (.inl m)), upd_same⟩, by simp, by simp, fun v H2 hv f2 D2 => ?_⟩⟩
  obtain ⟨Lc, Fc⟩ := Lb.fr f2 D2
  have hr : ∃ n : Int, v = .int n ∧ 1 ≤ n ∧ n ≤ 7 := by
    simp only [List.mem_cons, List.not_mem_nil, or_false] at hv
    rcases hv with rfl | rfl | rfl | rfl <;> exact ⟨_, rfl, by decide, by decide⟩
  obtain ⟨n, rfl, n0, n1⟩ := hr
  clear La Lb Fb Fc
  refine ⟨n, rfl, by omega, by omega, for_range (lo := 0) (n := n.toNat) (fun i σ H' => ∃ ws rws bodies y4 y5 y6, σ = [some (.ref a0), some (.ref d), some (.ref p), some (.ref rr), y4, y5, y6, none, none, none, none, none, none, none, none, none, none, none] ∧ LT K M d p rr H' ws rws bodies ∧ ws.length ≤ i ∧ rws.length = i ∧ (∀ b ∈ bodies, Ok8 b ∧ b.length ≤ 300)) ⟨[], [], [], none, none, none, rfl, Lc, Nat.le_refl _, rfl, fun b hb => by simp at hb⟩ (fun i σ H3 hi hP => ?_) fun σ H3 hP => ?_⟩
  · obtain ⟨ws, rws, bodies, y4, y5, y6, rfl, L0, hw, hrw, hb⟩ := hP
    refine ⟨M, d, rfl, L0.S.w, L0.S.dl, fun b X H4 b8 bl f4 D4 nX eX => ?_⟩
    obtain ⟨L1, G1⟩ := L0.fr f4 D4
    have mX := L0.nm nX
    refine ⟨X, b, rfl, eX, by omega, b8, fun Y H5 s5 nY eY => ?_⟩
    obtain ⟨L2, G2⟩ := L1.same s5
    have mY := L1.nm nY
    have eX5 := s5 _ _ eX
    refine ⟨⟨ws, L2.S.e⟩, ite_same (R := ∀ v H', Same H5 H' → TI K H' v (framed b) → _) (fun r => .inl ⟨_, sql_of eX5, fun T nT => ⟨.ref T, b, rfl, ⟨T, rfl, sqt_of upd_same⟩, by omega, b8, fun v H' s' hv => r v H' ((same_new nT).trans s') hv⟩⟩) (fun r => .inl ⟨_, sql_of eX5, fun T nT => ⟨rfl, .ref T, b, rfl, ⟨T, rfl, sqt_of upd_same⟩, by omega, b8, fun v H' s' hv => r v H' ((same_new nT).trans s') hv⟩⟩) fun v H6 s6 hv => ?_⟩
    obtain ⟨L3, G3⟩ := L2.same s6
    have eX6 := s6 _ _ eX5
    have eY6 := s6 _ _ eY
    refine .inl ⟨_, sql_of eY6, fun T nT => ⟨two_ok, fun q1 nq1 => ?_⟩⟩
    obtain ⟨L4, G4⟩ := L3.new (o := .tup ((framed b).map V.int)) nT
    have h2 := octs_two (b.length : Int) (by omega)
    have io := ints_ok (framed b) (by rw [framed_len]; omega)
    obtain ⟨e5, L5, G5⟩ := L4.push ((ti_dat (TI.same (same_new nT) hv))) (.t (sqt_of upd_same) (Dats.ints _)) io.1 io.2 nq1
    refine ⟨ws, e5, line5' (by omega), ?_⟩
    have G35 := G4.trans G5
    have eX7 := G35.keep _ _ mX eX6
    have eY7 := G35.keep _ _ mY eY6
    revert L5 eX7 eY7
    generalize upd (upd (upd H6 T (.tup ((framed b).map V.int))) q1 (.tup [v, .ref T])) p (.lst (ws ++ [.ref q1])) = H7
    intro L5 eX7 eY7
    refine ⟨⟨rws, L5.er⟩, two_ok, fun t nt => ?_⟩
    obtain ⟨L6, G6⟩ := L5.new (o := .tup [.ref X, .ref Y]) nt
    refine ⟨rws, L6.er, line5' (by omega), ?_⟩
    have L7 := L6.row (w := .ref t) (b := b) ⟨t, X, Y, rfl, sqt_of upd_same, mX, mY, G6.keep _ _ mX eX7, G6.keep _ _ mY eY7⟩
    refine ⟨_, _, bodies ++ [b], _, _, _, rfl, L7, by rw [List.length_append]; simp only [List.length_cons, List.length_nil]; omega, by rw [List.length_append]; simp only [List.length_cons, List.length_nil]; omega, fun x hx => ?_⟩
    rcases List.mem_append.mp hx with hx | hx
    · exact hb x hx
    · rw [List.mem_singleton.mp hx]
      exact ⟨b8, bl⟩
  · obtain ⟨ws, rws, bodies, y4, y5, y6, rfl, L0, hw, hrw, hb⟩ := hP
    have hbl : bodies.length = rws.length := (F2.length L0.rows).symm
    have htl := tot_len fun b hx => (hb b hx).2
    have ht8 := tot_ok fun b hx => (hb b hx).1
    have htl2 : (bodies.map framed).flatten.length ≤ 2128 := by
      have : bodies.length * 304 ≤ 7 * 304 := Nat.mul_le_mul_right _ (by omega)
      omega
    refine ⟨rr, rfl, ⟨_, sql_of L0.er⟩, fun nl hnl => lc_row hnl L0.er L0.rows (by omega) fun H4 us s4 eus hU => ?_⟩
    obtain ⟨L1, G1⟩ := L0.same s4
    refine ⟨nl, us, bodies.map framed, rfl, eus, hU, by omega, fun O H5 s5 nO eO => ?_⟩
    obtain ⟨L2, G2⟩ := L1.same s5
    have mO := L1.nm nO
    refine ⟨⟨ws, L2.S.e⟩, .inl ⟨_, sql_of eO, fun T nT => ?_⟩⟩
    obtain ⟨L3, G3⟩ := L2.new (o := .tup ((bodies.map framed).flatten.map V.int)) nT
    refine ⟨.ref T, (bodies.map framed).flatten, rfl, ⟨T, rfl, sqt_of upd_same⟩, by omega, ht8, fun v H6 bs e s6 hf hv => ?_⟩
    obtain ⟨L4, G4⟩ := L3.same s6
    obtain ⟨e1, e2⟩ := Frm.det (frm_whole bodies) hf
    subst e1 e2
    have eO6 := G4.keep _ _ mO (G3.keep _ _ mO eO)
    refine ⟨rr, rfl, ⟨_, sql_of L4.er⟩, fun nl2 hnl2 => lc_body hnl2 L4.er L4.rows (by omega) fun H7 us2 s7 eus2 hU2 => ?_⟩
    obtain ⟨L5, G5⟩ := L4.same s7
    refine .inl ⟨_, sql_of eus2, fun T2 nT2 => ?_⟩
    obtain ⟨L6, G6⟩ := L5.new (o := .tup us2) nT2
    have eO8 := G6.keep _ _ mO (G5.keep _ _ mO eO6)
    refine ⟨_, .inl (sql_of eO8), two_ok, fun T3 nT3 => ⟨two_ok, fun q1 nq1 => ?_⟩⟩
    rw [List.length_map] at nq1 ⊢
    obtain ⟨L7, G7⟩ := L6.new (o := .tup [.ref T2, .int ((bodies.map framed).flatten.length : Nat)]) nT3
    have fok := frm_sz ht8 (by omega) hf
    have s67 := (same_new (o := .tup us2) nT2).trans (same_new (o := .tup [.ref T2, .int ((bodies.map framed).flatten.length : Nat)]) nT3)
    have hy : Dat K (Mo M p) _ (.ref T3) (frD bodies (bodies.map framed).flatten.length) := .t (sqt_of upd_same) (.cons (.t (Same.sqt (same_new nT3) (sqt_of upd_same)) ((f2_dats hU2).same s67)) (.cons (.i _) .nil))
    obtain ⟨e8, L8, G8⟩ := L7.push ((hv _).same (s7.trans s67)) hy fok.1 fok.2 nq1
    refine ⟨ws, e8, line5' (by omega), ?_⟩
    have eO9 := (G7.trans G8).keep _ _ mO eO8
    revert L8 eO9
    generalize upd (upd (upd (upd H7 T2 (.tup us2)) T3 (.tup [.ref T2, .int ((bodies.map framed).flatten.length : Nat)])) q1 (.tup [v, .ref T3])) p (.lst (ws ++ [.ref q1])) = H9
    intro L8 eO9
    have hw8 : (ws ++ [V.ref q1]).length ≤ 8 := by rw [List.length_append]; simp only [List.length_cons, List.length_nil]; omega
    generalize ws ++ [V.ref q1] = ws8 at L8 hw8
    clear e8 G8 G7 G6 G5 G4 G3 G2 G1 L0 L1 L2 L3 L4 L5 L6 L7 hy s67 eO8 eO6 hU2 eus2 hv hf s7 s6 hU eus s4
    generalize htot : (bodies.map framed).flatten = tot at *
    refine ⟨3, rfl, by decide, by decide, for_range (lo := 0) (n := 3) (fun j σ H' => ∃ ws y5 y6 y4 y8 y9 y10 y11 y12 y13 y14, σ = [some (.ref a0), some (.ref d), some (.ref p), some (.ref rr), y4, y5, y6, some (.ref O), y8, y9, y10, y11, y12, y13, y14, none, none, none] ∧ LT K M d p rr H' ws rws bodies ∧ ws.length ≤ 8 + 5 * j ∧ H' O = some (.lst (tot.map V.int))) ⟨ws8, _, _, _, none, none, none, none, none, none, none, rfl, L8, hw8, eO9⟩ (fun j σ H10 hj hP => ?_) fun σ H10 hP => ?_⟩
    · obtain ⟨ws, y5, y6, y4, y8, y9, y10, y11, y12, y13, y14, rfl, L0, hw, eO0⟩ := hP
      refine ⟨_, .inl (sql_of L0.er), M, d, (rws.length : Nat), rfl, L0.S.w, L0.S.dl, by omega, by omega, fun m H11 m0 m1 f11 D11 => ?_⟩
      obtain ⟨L1, G1⟩ := L0.fr f11 D11
      refine .inl ⟨_, sql_of L1.er, fun tm ntm => ?_⟩
      obtain ⟨L2, G2⟩ := L1.new (o := .lst (cutV rws none (some m))) ntm
      have etm : (upd H11 tm (.lst (cutV rws none (some m)))) tm = some (.lst (rws.take m.toNat)) := by rw [upd_same, cut_vs _ m0]
      refine ⟨tm, rfl, ⟨_, sql_of etm⟩, fun nl hnl => lc_row hnl etm (F2.take m.toNat L2.rows) (by rw [List.length_take]; omega) fun H12 us s12 eus hU => ?_⟩
      obtain ⟨L3, G3⟩ := L2.same s12
      have hatl : ((bodies.take m.toNat).map framed).flatten.length ≤ 2128 := by
        have h1 := tot_len (bs := bodies.take m.toNat) fun b hx => (hb b (List.mem_of_mem_take hx)).2
        have h2 : (bodies.take m.toNat).length * 304 ≤ 7 * 304 := Nat.mul_le_mul_right _ (by rw [List.length_take]; omega)
        omega
      refine ⟨nl, us, (bodies.take m.toNat).map framed, rfl, eus, hU, by omega, fun A H13 s13 nA eA => ?_⟩
      obtain ⟨L4, G4⟩ := L3.same s13
      have mA := L3.nm nA
      have hbm : ∃ b, bodies[m.toNat]? = some b := ⟨_, List.getElem?_eq_getElem (by omega)⟩
      obtain ⟨b, hbm⟩ := hbm
      have hb1 := hb b (List.mem_of_getElem? hbm)
      have hwm : ∃ w, rws[m.toNat]? = some w := ⟨_, List.getElem?_eq_getElem (by omega)⟩
      obtain ⟨w, hwm⟩ := hwm
      have hrp : RowP K (Mo (Mo M p) rr) H13 w b := by
        obtain ⟨b', hb', hr⟩ := F2.get m.toNat L4.rows hwm
        rw [hbm] at hb'
        cases hb'
        exact hr
      obtain ⟨t, x, y, rfl, st, mx, my, ex, ey⟩ := hrp
      have hfl := framed_len b
      have h2 := octs_two (b.length : Int) (by omega)
      have hf3 : 3 ≤ (framed b).length := by
        have := (numAt_octs b.length (b.length : Int) (by omega) (by omega) []).2.1
        omega
      have hatI : atI rws m = some (.ref t) := by
        have e := atI_nat hwm
        rw [show ((m.toNat : Nat) : Int) = m by omega] at e
        exact e
      refine ⟨_, _, .inl (sql_of L4.er), hatI, _, _, .inr st, rfl, ?_⟩
      refine ⟨_, .inl (sql_of ey), M, d, (((framed b).map V.int).length : Nat), rfl, L4.S.w, L4.S.dl, by rw [List.length_map]; omega, by rw [List.length_map]; omega, fun k H14 k0 k1 f14 D14 => ?_⟩
      rw [List.length_map] at k1
      obtain ⟨L5, G5⟩ := L4.fr f14 D14
      have ey5 := G5.keep _ _ my ey
      have eA5 := G5.keep _ _ mA eA
      refine .inl ⟨_, sql_of ey5, fun C nC => ?_⟩
      obtain ⟨L6, G6⟩ := L5.new (o := .lst (cutV ((framed b).map V.int) none (some k))) nC
      have eC : (upd H14 C (.lst (cutV ((framed b).map V.int) none (some k)))) C = some (.lst (((framed b).take k.toNat).map V.int)) := by rw [upd_same, cut_to' _ k0]
      have htk : ((framed b).take k.toNat).length ≤ 304 := by rw [List.length_take]; omega
      generalize hat : ((bodies.take m.toNat).map framed).flatten = at' at hatl eA5
      refine ⟨A, C, _, _, rfl, rfl, G6.keep _ _ mA eA5, eC, Nat.le_of_lt (line5' (by simp only [List.length_map]; omega)), fun C2 nC2 => ?_⟩
      obtain ⟨L7, G7⟩ := L6.new (o := .lst (at'.map V.int ++ ((framed b).take k.toNat).map V.int)) nC2
      have eC2 : (upd (upd H14 C (.lst (cutV ((framed b).map V.int) none (some k)))) C2 (.lst (at'.map V.int ++ ((framed b).take k.toNat).map V.int))) C2 = some (.lst ((at' ++ (framed b).take k.toNat).map V.int)) := by rw [upd_same, List.map_append]
      have G57 := G6.trans G7
      have eA7 := G57.keep _ _ mA eA5
      have ey7 := G57.keep _ _ my ey5
      have eO7 := G57.keep _ _ mO (G5.keep _ _ mO (G4.keep _ _ mO (G3.keep _ _ mO (G2.keep _ _ mO (G1.keep _ _ mO eO0)))))
      revert L7 eC2 eA7 ey7 eO7
      generalize upd (upd H14 C (.lst (cutV ((framed b).map V.int) none (some k)))) C2 (.lst (at'.map V.int ++ ((framed b).take k.toNat).map V.int)) = H16
      intro L7 eC2 eA7 ey7 eO7
      clear G1 G2 G3 G4 G5 G6 G7 G57 L0 L1 L2 L3 L4 L5 L6 eO0 eA eA5 eC eus hU ey5 ey ex mx etm st
      have ha8 : Ok8 at' := by
        rw [← hat]
        exact tot_ok fun b hx => (hb b (List.mem_of_mem_take hx)).1
      have hf8 : Ok8 (framed b) := framed_ok hb1.1
      have hc8 : Ok8 (at' ++ (framed b).take k.toNat) := Ok8.app ha8 fun x hx => hf8 x (List.mem_of_mem_take hx)
      have hcf : Frm (at' ++ (framed b).take k.toNat) 0 (bodies.take m.toNat) at'.length := by
        rw [← hat]
        exact frm_cut _ b (by omega)
      have hcl : (at' ++ (framed b).take k.toNat).length ≤ 3000 := by rw [List.length_append]; omega
      generalize at' ++ (framed b).take k.toNat = cut at eC2 hc8 hcf hcl
      refine ⟨⟨ws, L7.S.e⟩, .inl ⟨_, sql_of eC2, fun T nT => ?_⟩⟩
      obtain ⟨L8, G8⟩ := L7.new (o := .tup (cut.map V.int)) nT
      refine ⟨rfl, .ref T, cut, rfl, ⟨T, rfl, sqt_of upd_same⟩, by omega, hc8, fun v H17 bs e s17 hf hv => ?_⟩
      obtain ⟨L9, G9⟩ := L8.same s17
      obtain ⟨e1, e2⟩ := Frm.det hcf hf
      subst e1 e2
      refine .inl ⟨_, sql_of L9.er, fun tm2 ntm2 => ?_⟩
      obtain ⟨L10, G10⟩ := L9.new (o := .lst (cutV rws none (some m))) ntm2
      have etm2 : (upd H17 tm2 (.lst (cutV rws none (some m)))) tm2 = some (.lst (rws.take m.toNat)) := by rw [upd_same, cut_vs _ m0]
      refine ⟨tm2, rfl, ⟨_, sql_of etm2⟩, fun nl2 hnl2 => lc_body hnl2 etm2 (F2.take m.toNat L10.rows) (by rw [List.length_take]; omega) fun H18 us2 s18 eus2 hU2 => ?_⟩
      obtain ⟨L11, G11⟩ := L10.same s18
      refine .inl ⟨_, sql_of eus2, fun T2 nT2 => ?_⟩
      obtain ⟨L12, G12⟩ := L11.new (o := .tup us2) nT2
      have G7_12 := G8.trans (G9.trans (G10.trans (G11.trans G12)))
      have eA12 := G7_12.keep _ _ mA eA7
      refine ⟨_, .inl (sql_of eA12), two_ok, fun T3 nT3 => ⟨two_ok, fun q1 nq1 => ?_⟩⟩
      rw [List.length_map] at nq1 ⊢
      obtain ⟨L13, G13⟩ := L12.new (o := .tup [.ref T2, .int (at'.length : Nat)]) nT3
      have fok := frm_sz hc8 (by omega) hcf
      have s67 := (same_new (o := .tup us2) nT2).trans (same_new (o := .tup [.ref T2, .int (at'.length : Nat)]) nT3)
      have hy : Dat K (Mo M p) _ (.ref T3) (frD (bodies.take m.toNat) at'.length) := .t (sqt_of upd_same) (.cons (.t (Same.sqt (same_new nT3) (sqt_of upd_same)) ((f2_dats hU2).same s67)) (.cons (.i _) .nil))
      obtain ⟨e14, L14, G14⟩ := L13.push ((hv _).same ((same_new ntm2).trans (s18.trans s67))) hy fok.1 fok.2 nq1
      refine ⟨ws, e14, line5' (by omega), ?_⟩
      have G7_14 := G7_12.trans (G13.trans G14)
      have eA14 := G7_14.keep _ _ mA eA7
      have ey14 := G7_14.keep _ _ my ey7
      have eO14 := G7_14.keep _ _ mO eO7
      have hw14 : (ws ++ [V.ref q1]).length ≤ 8 + 5 * j + 1 := by rw [List.length_append]; simp only [List.length_cons, List.length_nil]; omega
      clear e14 hy hU2 eus2 hv hf L8 L9 L10 L11 L12 L13 eA12 eC2
      revert L14 eA14 ey14 eO14
      generalize upd (upd (upd (upd H18 T2 (.tup us2)) T3 (.tup [.ref T2, .int (at'.length : Nat)])) q1 (.tup [v, .ref T3])) p (.lst (ws ++ [.ref q1])) = H20
      intro L14 eA14 ey14 eO14
      generalize ws ++ [V.ref q1] = ws14 at L14 hw14
      clear s67 fok G14 G13 G7_14 G7_12 G12 G11 G10 G9 G8
      -- ahead + last
      have hm1 : (bodies.take (m.toNat + 1)).map framed = (bodies.take m.toNat).map framed ++ [framed b] := by
        rw [List.take_add_one, hbm, List.map_append]
        rfl
      have hwf : Frm (at' ++ framed b) 0 (bodies.take (m.toNat + 1)) (at' ++ framed b).length := by
        have h := frm_whole (bodies.take (m.toNat + 1))
        rw [hm1, List.flatten_append, hat] at h
        simpa using h
      have hw8' : Ok8 (at' ++ framed b) := Ok8.app ha8 hf8
      have hwl : (at' ++ framed b).length ≤ 3000 := by rw [List.length_append]; omega
      refine ⟨⟨ws14, L14.S.e⟩, A, y, _, _, rfl, rfl, eA14, ey14, Nat.le_of_lt (line5' (by simp only [List.length_map]; omega)), fun C nC => .inl ⟨_, sql_of upd_same, fun T nT => ?_⟩⟩
      obtain ⟨L15, G15⟩ := L14.new (o := .lst (at'.map V.int ++ (framed b).map V.int)) nC
      obtain ⟨L16, G16⟩ := L15.new (o := .tup (at'.map V.int ++ (framed b).map V.int)) nT
      refine ⟨.ref T, at' ++ framed b, rfl, ⟨T, rfl, sqt_of (by rw [upd_same, List.map_append])⟩, by omega, hw8', fun v H21 bs e s21 hf hv => ?_⟩
      obtain ⟨L17, G17⟩ := L16.same s21
      obtain ⟨e1, e2⟩ := Frm.det hwf hf
      subst e1 e2
      refine .inl ⟨_, sql_of L17.er, fun tm2 ntm2 => ?_⟩
      obtain ⟨L18, G18⟩ := L17.new (o := .lst (cutV rws none (some (m + 1)))) ntm2
      have em1 : (m + 1).toNat = m.toNat + 1 := by omega
      have etm2 : (upd H21 tm2 (.lst (cutV rws none (some (m + 1))))) tm2 = some (.lst (rws.take (m.toNat + 1))) := by rw [upd_same, cut_vs _ (by omega), em1]
      refine ⟨tm2, rfl, ⟨_, sql_of etm2⟩, fun nl2 hnl2 => lc_body hnl2 etm2 (F2.take (m.toNat + 1) L18.rows) (by rw [List.length_take]; omega) fun H22 us2 s22 eus2 hU2 => ?_⟩
      obtain ⟨L19, G19⟩ := L18.same s22
      refine .inl ⟨_, sql_of eus2, fun T2 nT2 => ?_⟩
      obtain ⟨L20, G20⟩ := L19.new (o := .tup us2) nT2
      have G14_20 := G15.trans (G16.trans (G17.trans (G18.trans (G19.trans G20))))
      refine ⟨A, y, _, _, rfl, rfl, G14_20.keep _ _ mA eA14, G14_20.keep _ _ my ey14, Nat.le_of_lt (line5' (by simp only [List.length_map]; omega)), fun C3 nC3 => ?_⟩
      obtain ⟨L21, G21⟩ := L20.new (o := .lst (at'.map V.int ++ (framed b).map V.int)) nC3
      refine ⟨_, .inl (sql_of upd_same), two_ok, fun T3 nT3 => ⟨two_ok, fun q1 nq1 => ?_⟩⟩
      have elen : (at'.map V.int ++ (framed b).map V.int).length = (at' ++ framed b).length := by rw [← List.map_append, List.length_map]
      rw [elen] at nq1 ⊢
      obtain ⟨L22, G22⟩ := L21.new (o := .tup [.ref T2, .int ((at' ++ framed b).length : Nat)]) nT3
      have fok := frm_sz hw8' (by omega) hwf
      have s67 := (same_new (o := .tup us2) nT2).trans ((same_new (o := .lst (at'.map V.int ++ (framed b).map V.int)) nC3).trans (same_new (o := .tup [.ref T2, .int ((at' ++ framed b).length : Nat)]) nT3))
      have hy : Dat K (Mo M p) _ (.ref T3) (frD (bodies.take (m.toNat + 1)) (at' ++ framed b).length) := .t (sqt_of upd_same) (.cons (.t (Same.sqt ((same_new nC3).trans (same_new nT3)) (sqt_of upd_same)) ((f2_dats hU2).same s67)) (.cons (.i _) .nil))
      obtain ⟨e23, L23, G23⟩ := L22.push ((hv _).same ((same_new ntm2).trans (s22.trans s67))) hy fok.1 fok.2 nq1
      refine ⟨ws14, e23, line5' (by omega), ?_⟩
      have G14_23 := G14_20.trans (G21.trans (G22.trans G23))
      have eA23 := G14_23.keep _ _ mA eA14
      have ey23 := G14_23.keep _ _ my ey14
      have eO23 := G14_23.keep _ _ mO eO14
      have hw23 : (ws14 ++ [V.ref q1]).length ≤ 8 + 5 * j + 2 := by rw [List.length_append]; simp only [List.length_cons, List.length_nil]; omega
      clear e23 hy hU2 eus2 hv hf L15 L16 L17 L18 L19 L20 L21 L22 etm2
      revert L23 eA23 ey23 eO23
      generalize upd (upd (upd (upd (upd H22 T2 (.tup us2)) C3 (.lst (at'.map V.int ++ (framed b).map V.int))) T3 (.tup [.ref T2, .int ((at' ++ framed b).length : Nat)])) q1 (.tup [v, .ref T3])) p (.lst (ws14 ++ [.ref q1])) = H24
      intro L23 eA23 ey23 eO23
      generalize ws14 ++ [V.ref q1] = ws23 at L23 hw23
      clear s67 fok G14_20 G14_23 G15 G16 G17 G18 G19 G20 G21 G22 G23 L14
      -- bent
      have htne : tot ≠ [] := by
        intro z
        have hm2 : framed b ∈ bodies.map framed := List.mem_map.mpr ⟨b, List.mem_of_getElem? hbm, rfl⟩
        obtain ⟨x0, hx0⟩ := List.exists_mem_of_length_pos (show 0 < (framed b).length by omega)
        have : x0 ∈ tot := by
          rw [← htot]
          exact List.mem_flatten.mpr ⟨_, hm2, hx0⟩
        rw [z] at this
        cases this
      refine ⟨M, d, O, tot, rfl, L23.S.w, L23.S.dl, fun mm => mO (.inl (.inl mm)), eO23, htne, ht8, by omega, fun be B H25 be8 bel f25 D25 nB eB => ?_⟩
      obtain ⟨L24, G24⟩ := L23.fr f25 D25
      have mB := L23.nm nB
      refine ⟨⟨ws23, L24.S.e⟩, .inl ⟨_, sql_of eB, fun T nT => ?_⟩⟩
      obtain ⟨L25, G25⟩ := L24.new (o := .tup (be.map V.int)) nT
      refine ⟨.ref T, be, rfl, ⟨T, rfl, sqt_of upd_same⟩, by omega, be8, fun v H26 bs e s26 hf hv => ?_⟩
      obtain ⟨L26, G26⟩ := L25.same s26
      have eB26 := G26.keep _ _ mB (G25.keep _ _ mB eB)
      refine ⟨B, be, rfl, eB26, by omega, be8, fun v2 H27 bs2 e2 s27 hf2 hv2 => ⟨two_ok, fun q2 nq2 => ?_⟩⟩
      obtain ⟨L27, G27⟩ := L26.same s27
      obtain ⟨ee1, ee2⟩ := Frm.det hf hf2
      subst ee1 ee2
      have fok2 := frm_sz be8 (by omega) hf
      obtain ⟨e28, L28, G28⟩ := L27.push ((hv _).same s27) (hv2 _) fok2.1 fok2.2 nq2
      refine ⟨ws23, e28, line5' (by omega), ?_⟩
      have G23_28 := G24.trans (G25.trans (G26.trans (G27.trans G28)))
      have eA28 := G23_28.keep _ _ mA eA23
      have ey28 := G23_28.keep _ _ my ey23
      have eO28 := G23_28.keep _ _ mO eO23
      have hw28 : (ws23 ++ [V.ref q2]).length ≤ 8 + 5 * j + 3 := by rw [List.length_append]; simp only [List.length_cons, List.length_nil]; omega
      clear e28 hv hv2 hf hf2 L24 L25 L26 L27 eB26
      revert L28 eA28 ey28 eO28
      generalize upd (upd H27 q2 (.tup [v, v2])) p (.lst (ws23 ++ [.ref q2])) = H29
      intro L28 eA28 ey28 eO28
      generalize ws23 ++ [V.ref q2] = ws28 at L28 hw28
      clear G23_28 G24 G25 G26 G27 G28 L23
      -- wrong
      refine ⟨by show 3 ≤ sizeLine; decide, fun x1 nx1 => ⟨by show 4 ≤ sizeLine; decide, fun x2 nx2 => ⟨by show 3 ≤ sizeLine; decide, fun x3 nx3 => ⟨by show 4 ≤ sizeLine; decide, fun x4 nx4 => ⟨by show 4 ≤ sizeLine; decide, fun x5 nx5 => ⟨by show 1 ≤ sizeLine; decide, fun x6 nx6 => ⟨by show 5 ≤ sizeLine; decide, fun x7 nx7 => ⟨by show 5 ≤ sizeLine; decide, fun x8 nx8 => ⟨by show 8 ≤ sizeLine; decide, fun x9 nx9 => ?_⟩⟩⟩⟩⟩⟩⟩⟩⟩
      obtain ⟨T1, V1⟩ := L28.new (o := .lst [.int 0, .int 0, .int 1]) nx1
      obtain ⟨T2', V2⟩ := T1.new (o := .lst [.int 1, .int 0, .int 1, .int 0]) nx2
      obtain ⟨T3', V3⟩ := T2'.new (o := .lst [.int 0, .int 1, .int 0]) nx3
      obtain ⟨T4', V4⟩ := T3'.new (o := .lst [.int 128, .int 0, .int 0, .int 0]) nx4
      obtain ⟨T5', V5⟩ := T4'.new (o := .lst [.int 1, .int 5, .int 0, .int 5]) nx5
      obtain ⟨T6', V6⟩ := T5'.new (o := .lst [.int 255]) nx6
      obtain ⟨T7', V7⟩ := T6'.new (o := .lst [.int 3, .int 1, .int 1, .int 1, .int 6]) nx7
      obtain ⟨T8', V8⟩ := T7'.new (o := .lst [.int 2, .int 1, .int 1, .int 3, .int 1]) nx8
      obtain ⟨T9', V9⟩ := T8'.new (o := .lst [.ref x1, .ref x2, .ref x3, .ref x4, .ref x5, .ref x6, .ref x7, .ref x8]) nx9
      have k1 : WrongP (Mo (Mo M p) rr) _ (.ref x1) := WrongP.fr (V2.trans (V3.trans (V4.trans (V5.trans (V6.trans (V7.trans (V8.trans V9))))))) ⟨x1, [0, 0, 1], rfl, L28.nm nx1, upd_same, by unfold Ok8; decide, by decide⟩
      have k2 : WrongP (Mo (Mo M p) rr) _ (.ref x2) := WrongP.fr (V3.trans (V4.trans (V5.trans (V6.trans (V7.trans (V8.trans V9)))))) ⟨x2, [1, 0, 1, 0], rfl, T1.nm nx2, upd_same, by unfold Ok8; decide, by decide⟩
      have k3 : WrongP (Mo (Mo M p) rr) _ (.ref x3) := WrongP.fr (V4.trans (V5.trans (V6.trans (V7.trans (V8.trans V9))))) ⟨x3, [0, 1, 0], rfl, T2'.nm nx3, upd_same, by unfold Ok8; decide, by decide⟩
      have k4 : WrongP (Mo (Mo M p) rr) _ (.ref x4) := WrongP.fr (V5.trans (V6.trans (V7.trans (V8.trans V9)))) ⟨x4, [128, 0, 0, 0], rfl, T3'.nm nx4, upd_same, by unfold Ok8; decide, by decide⟩
      have k5 : WrongP (Mo (Mo M p) rr) _ (.ref x5) := WrongP.fr (V6.trans (V7.trans (V8.trans V9))) ⟨x5, [1, 5, 0, 5], rfl, T4'.nm nx5, upd_same, by unfold Ok8; decide, by decide⟩
      have k6 : WrongP (Mo (Mo M p) rr) _ (.ref x6) := WrongP.fr (V7.trans (V8.trans V9)) ⟨x6, [255], rfl, T5'.nm nx6, upd_same, by unfold Ok8; decide, by decide⟩
      have k7 : WrongP (Mo (Mo M p) rr) _ (.ref x7) := WrongP.fr (V8.trans V9) ⟨x7, [3, 1, 1, 1, 6], rfl, T6'.nm nx7, upd_same, by unfold Ok8; decide, by decide⟩
      have k8 : WrongP (Mo (Mo M p) rr) _ (.ref x8) := WrongP.fr V9 ⟨x8, [2, 1, 1, 3, 1], rfl, T7'.nm nx8, upd_same, by unfold Ok8; decide, by decide⟩
      refine ⟨M, d, T9'.S.w, T9'.S.dl, .inl ⟨x9, _, rfl, .inl ⟨fun m => T8'.nm nx9 (.inl (.inl m)), upd_same⟩, by simp, by simp, fun v30 H30 hv30 f30 D30 => ?_⟩⟩
      obtain ⟨L30, G30⟩ := T9'.fr f30 D30
      have kv : WrongP (Mo (Mo M p) rr) H30 v30 := by
        simp only [List.mem_cons, List.not_mem_nil, or_false] at hv30
        rcases hv30 with rfl | rfl | rfl | rfl | rfl | rfl | rfl | rfl
        · exact k1.fr G30
        · exact k2.fr G30
        · exact k3.fr G30
        · exact k4.fr G30
        · exact k5.fr G30
        · exact k6.fr G30
        · exact k7.fr G30
        · exact k8.fr G30
      have G28_30 := V1.trans (V2.trans (V3.trans (V4.trans (V5.trans (V6.trans (V7.trans (V8.trans (V9.trans G30))))))))
      have eA30 := G28_30.keep _ _ mA eA28
      have ey30 := G28_30.keep _ _ my ey28
      have eO30 := G28_30.keep _ _ mO eO28
      clear k1 k2 k3 k4 k5 k6 k7 k8 V1 V2 V3 V4 V5 V6 V7 V8 V9 T1 T2' T3' T4' T5' T6' T7' T8' T9' G28_30 G30 L28
      obtain ⟨xr, wr, rfl, mr, er, wr8, wrl⟩ := kv
      refine ⟨A, xr, _, _, rfl, rfl, eA30, er, Nat.le_of_lt (line5' (by simp only [List.length_map]; omega)), fun Z1 nZ1 => ?_⟩
      obtain ⟨L31, G31⟩ := L30.new (o := .lst (at'.map V.int ++ wr.map V.int)) nZ1
      refine ⟨Z1, y, _, _, rfl, rfl, upd_same, G31.keep _ _ my ey30, Nat.le_of_lt (line5' (by simp only [List.length_append, List.length_map]; omega)), fun Z2 nZ2 => ?_⟩
      obtain ⟨L32, G32⟩ := L31.new (o := .lst (at'.map V.int ++ wr.map V.int ++ (framed b).map V.int)) nZ2
      have mZ2 := L31.nm nZ2
      have eZ2 : (upd (upd H30 Z1 (.lst (at'.map V.int ++ wr.map V.int))) Z2 (.lst (at'.map V.int ++ wr.map V.int ++ (framed b).map V.int))) Z2 = some (.lst ((at' ++ wr ++ framed b).map V.int)) := by rw [upd_same, List.map_append, List.map_append]
      have eO32 := G32.keep _ _ mO (G31.keep _ _ mO eO30)
      revert L32 eZ2 eO32
      generalize upd (upd H30 Z1 (.lst (at'.map V.int ++ wr.map V.int))) Z2 (.lst (at'.map V.int ++ wr.map V.int ++ (framed b).map V.int)) = H32
      intro L32 eZ2 eO32
      have hm8 : Ok8 (at' ++ wr ++ framed b) := Ok8.app (Ok8.app ha8 wr8) hf8
      have hml : (at' ++ wr ++ framed b).length ≤ 3000 := by simp only [List.length_append]; omega
      generalize at' ++ wr ++ framed b = mx1 at eZ2 hm8 hml
      clear G31 G32 L30 L31 eA30 ey30 eO30 er
      refine ⟨M, d, 5, rfl, L32.S.w, L32.S.dl, by decide, by decide, fun k5 H33 k50 k51 f33 D33 => ⟨k5, rfl, by omega, by omega, fun l3 nl3 => ?_⟩⟩
      obtain ⟨L33, G33⟩ := L32.fr f33 D33
      have nM : ¬ M l3 := f33.w'.notM nl3
      refine lc_range (lo := 0) (n := k5.toNat) (fun i H' => Fr M H33 H' ∧ Deal M H' d ∧ ∃ os : List Int, H' l3 = some (.lst (os.map V.int)) ∧ os.length = i ∧ Ok8 os) ⟨(Fr.refl f33.w').new nl3, Deal.new f33.w' D33 nl3, [], upd_same, rfl, fun _ h => by simp at h⟩ (fun i H' hi hP => ?_) fun H' hP => ?_
      · obtain ⟨f, D', os, el, rfl, h8⟩ := hP
        refine ⟨rfl, M, d, rfl, f.w', D', fun r H3 r0 r1 f3 D3 => ⟨os.map V.int, f3.keep _ _ nM el, line5' (by rw [List.length_map]; omega), ?_⟩⟩
        refine ⟨(f.trans f3).mut nl3, Deal.mut nM D3, os ++ [r], by rw [upd_same, snoc_ints], by simp, fun x hx => ?_⟩
        rcases List.mem_append.mp hx with hx | hx
        · exact h8 x hx
        · rw [List.mem_singleton.mp hx]
          exact ⟨r0, r1⟩
      · obtain ⟨f, D', os, el, hol, h8⟩ := hP
        obtain ⟨L34, G34⟩ := L33.fr f D'
        have eZ34 := G34.keep _ _ mZ2 (G33.keep _ _ mZ2 eZ2)
        refine ⟨Z2, l3, _, _, rfl, rfl, eZ34, el, Nat.le_of_lt (line5' (by simp only [List.length_map]; omega)), fun X nX => ?_⟩
        obtain ⟨L35, G35⟩ := L34.new (o := .lst (mx1.map V.int ++ os.map V.int)) nX
        have mX := L34.nm nX
        have eX : (upd H' X (.lst (mx1.map V.int ++ os.map V.int))) X = some (.lst ((mx1 ++ os).map V.int)) := by rw [upd_same, List.map_append]
        have hm82 : Ok8 (mx1 ++ os) := Ok8.app hm8 h8
        have hml2 : (mx1 ++ os).length ≤ 3010 := by rw [List.length_append]; omega
        have eO35 := G35.keep _ _ mO (G34.keep _ _ mO (G33.keep _ _ mO eO32))
        refine ⟨⟨ws28, L35.S.e⟩, .inl ⟨_, sql_of eX, fun T nT => ?_⟩⟩
        obtain ⟨L36, G36⟩ := L35.new (o := .tup ((mx1 ++ os).map V.int)) nT
        refine ⟨.ref T, mx1 ++ os, rfl, ⟨T, rfl, sqt_of upd_same⟩, by omega, hm82, fun v H37 bs e s37 hf hv => ?_⟩
        obtain ⟨L37, G37⟩ := L36.same s37
        have eX37 := G37.keep _ _ mX (G36.keep _ _ mX eX)
        refine ⟨X, mx1 ++ os, rfl, eX37, by omega, hm82, fun v2 H38 bs2 e2 s38 hf2 hv2 => ⟨two_ok, fun q3 nq3 => ?_⟩⟩
        obtain ⟨L38, G38⟩ := L37.same s38
        obtain ⟨ee1, ee2⟩ := Frm.det hf hf2
        subst ee1 ee2
        have fok2 := frm_sz hm82 (by omega) hf
        obtain ⟨e39, L39, G39⟩ := L38.push ((hv _).same s38) (hv2 _) fok2.1 fok2.2 nq3
        refine ⟨ws28, e39, line5' (by omega), ?_⟩
        have G35_39 := G36.trans (G37.trans (G38.trans G39))
        exact ⟨_, _, _, _, _, _, _, _, _, _, _, rfl, L39, by rw [List.length_append]; simp only [List.length_cons, List.length_nil]; omega, G35_39.keep _ _ mO eO35⟩
    · obtain ⟨ws, y5, y6, y4, y8, y9, y10, y11, y12, y13, y14, rfl, L0, hw, eO0⟩ := hP
      have rest : ∀ (x0 x1 x3 x4 x5 x6 x7 x8 x9 x10 x11 x12 x13 x14 x15 x16 x17 : Option V) (H : Hp) (ws : List V), LT K M d p rr H ws rws bodies → ws.length ≤ 100 → ((tSeq (tDrop (tApp (tV 2) (tTup (tCons (tCall (sp_frames K) [] E0 (tCons (tTup tNil) tNil)) (tCons (tTup (tCons (tTup tNil) (tCons (tC (.int 0)) tNil))) tNil)))))
    (tRet (tCall (sp__law_all K) [] E0 (tCons (tV 2) tNil))))) { nx := fun _ H' => Q .non H', rt := Q } [x0, x1, some (.ref p), x3, x4, x5, x6, x7, x8, x9, x10, x11, x12, x13, x14, x15, x16, x17] H := by
        intro x0 x1 x3 x4 x5 x6 x7 x8 x9 x10 x11 x12 x13 x14 x15 x16 x17 H ws L hw
        refine ⟨⟨ws, L.S.e⟩, by show 0 ≤ sizeLine; decide, fun T nT => ?_⟩
        obtain ⟨L1, G1⟩ := L.new (o := .tup []) nT
        refine ⟨.ref T, [], rfl, ⟨T, rfl, sqt_of upd_same⟩, by decide, (fun x hx => by simp at hx), fun v H2 bs e s2 hf hv => ⟨by show 0 ≤ sizeLine; decide, fun T2 nT2 => ⟨two_ok, fun T3 nT3 => ⟨two_ok, fun q1 nq1 => ?_⟩⟩⟩⟩
        obtain ⟨L2, G2⟩ := L1.same s2
        obtain ⟨L3, G3⟩ := L2.new (o := .tup []) nT2
        obtain ⟨L4, G4⟩ := L3.new (o := .tup [.ref T2, .int 0]) nT3
        obtain ⟨ee1, ee2⟩ := Frm.det (frm_whole []) hf
        subst ee1 ee2
        have fok := frm_sz (os := []) (fun x hx => by simp at hx) (by decide) (frm_whole [])
        have hy : Dat K (Mo M p) _ (.ref T3) (frD [] 0) := .t (sqt_of upd_same) (.cons (.t (Same.sqt (same_new nT3) (sqt_of upd_same)) .nil) (.cons (.i _) .nil))
        obtain ⟨e5, L5, G5⟩ := L4.push ((hv _).same ((same_new nT2).trans (same_new nT3))) hy fok.1 fok.2 nq1
        refine ⟨ws, e5, line5' (by omega), ?_⟩
        exact ⟨Mo M p, p, _, rfl, L5.S.e, by rw [List.length_append]; simp only [List.length_cons, List.length_nil]; omega, L5.S.pr, fun H' _ => q H'⟩
      refine ⟨M, d, 6, rfl, L0.S.w, L0.S.dl, by decide, by decide, fun r6 H11 _ _ f11 D11 => ?_⟩
      obtain ⟨L1, G1⟩ := L0.fr f11 D11
      refine iteD (fun _ => ?_) fun _ => rest _ _ _ _ _ _ _ _ _ _ _ _ _ _ _ _ _ H11 ws L1 (by omega)
      refine ⟨by show 3 ≤ sizeLine; decide, fun l nl => ?_⟩
      obtain ⟨L2, G2⟩ := L1.new (o := .lst [.int 8000, .int 7999, .int 4096]) nl
      refine ⟨M, d, L2.S.w, L2.S.dl, .inl ⟨l, _, rfl, .inl ⟨fun m => L1.nm nl (.inl (.inl m)), upd_same⟩, by simp, by simp, fun v H12 hv f12 D12 => ?_⟩⟩
      obtain ⟨L3, G3⟩ := L2.fr f12 D12
      have hmn : ∃ g : Int, v = .int g ∧ 4096 ≤ g ∧ g ≤ 8000 := by
        simp only [List.mem_cons, List.not_mem_nil, or_false] at hv
        rcases hv with rfl | rfl | rfl <;> exact ⟨_, rfl, by decide, by decide⟩
      obtain ⟨g, rfl, g0, g1⟩ := hmn
      refine ⟨M, d, rfl, L3.S.w, L3.S.dl, fun oc H13 oc0 oc1 f13 D13 => ⟨_, _, rfl, ?_⟩⟩
      obtain ⟨L4, G4⟩ := L3.fr f13 D13
      refine ⟨by show 1 ≤ sizeLine; decide, fun o1 no1 => ?_⟩
      obtain ⟨L5, G5⟩ := L4.new (o := .lst [.int oc]) no1
      refine ⟨o1, g, _, rfl, rfl, upd_same, by omega, by omega, Nat.le_of_lt (line5' (by simp only [List.length_cons, List.length_nil]; omega)), fun GG nGG => ?_⟩
      rw [rep1]
      have eg0 : List.replicate g.toNat (V.int oc) = (List.replicate g.toNat oc).map V.int := by rw [List.map_replicate]
      rw [eg0]
      obtain ⟨L6, G6⟩ := L5.new (o := .lst ((List.replicate g.toNat oc).map V.int)) nGG
      have mG := L5.nm nGG
      have eG : (upd (upd H13 o1 (.lst [.int oc])) GG (.lst ((List.replicate g.toNat oc).map V.int))) GG = some (.lst ((List.replicate g.toNat oc).map V.int)) := upd_same
      revert L6 eG
      generalize upd (upd H13 o1 (.lst [.int oc])) GG (.lst ((List.replicate g.toNat oc).map V.int)) = H14
      intro L6 eG
      have hgl : (List.replicate g.toNat oc).length = g.toNat := List.length_replicate
      have hg8 : Ok8 (List.replicate g.toNat oc) := fun x hx => by
        rw [(List.mem_replicate.mp hx).2]
        exact ⟨oc0, oc1⟩
      generalize List.replicate g.toNat oc = gr at eG hgl hg8
      clear L0 L1 L2 L3 L4 L5 G1 G2 G3 G4 G5 G6 eO0 nGG eg0
      have hol : (octs (gr.length : Int)).length = 2 := by
        rw [octs_ge (by omega), List.length_cons, octs_lt (by omega)]
        rfl
      have hfl := framed_len gr
      have hf8 : Ok8 (framed gr) := framed_ok hg8
      refine ⟨⟨ws, L6.S.e⟩, .inl ⟨_, sql_of eG, fun T nT => ?_⟩⟩
      obtain ⟨L7, G7⟩ := L6.new (o := .tup (gr.map V.int)) nT
      refine ⟨.ref T, gr, rfl, ⟨T, rfl, sqt_of upd_same⟩, by omega, hg8, fun v2 H15 s15 hv2 => ⟨v2, framed gr, rfl, hv2, by omega, hf8, fun v3 H16 bs e s16 hf hv3 => ?_⟩⟩
      obtain ⟨L8, G8⟩ := L7.same (s15.trans s16)
      have eG8 := G8.keep _ _ mG (G7.keep _ _ mG eG)
      have hw1 : Frm (framed gr) 0 [gr] (framed gr).length := by
        have h := frm_whole [gr]
        simpa using h
      obtain ⟨ee1, ee2⟩ := Frm.det hw1 hf
      subst ee1 ee2
      refine .inl ⟨_, sql_of eG8, fun T2 nT2 => ⟨by show 1 ≤ sizeLine; decide, fun T3 nT3 => ⟨two_ok, fun T4 nT4 => ⟨two_ok, fun q1 nq1 => ?_⟩⟩⟩⟩
      obtain ⟨L9, G9⟩ := L8.new (o := .tup (gr.map V.int)) nT2
      obtain ⟨L10, G10⟩ := L9.new (o := .tup [.ref T2]) nT3
      obtain ⟨L11, G11⟩ := L10.new (o := .tup [.ref T3, .int (g + 4)]) nT4
      have fok := frm_sz hf8 (by omega) hw1
      have s24 := (same_new (o := .tup [.ref T2]) nT3).trans (same_new (o := .tup [.ref T3, .int (g + 4)]) nT4)
      have eg4 : g + 4 = ((framed gr).length : Nat) := by omega
      have hy : Dat K (Mo M p) _ (.ref T4) (frD [gr] (framed gr).length) := .t (sqt_of upd_same) (.cons (.t (Same.sqt (same_new nT4) (sqt_of upd_same)) (.cons (.t (Same.sqt s24 (sqt_of upd_same)) (Dats.ints gr)) .nil)) (.cons (by rw [← eg4]; exact .i _) .nil))
      obtain ⟨e12, L12, G12⟩ := L11.push ((hv3 _).same ((same_new nT2).trans s24)) hy fok.1 fok.2 nq1
      refine ⟨ws, e12, line5' (by omega), ?_⟩
      have eG12 := (G9.trans (G10.trans (G11.trans G12))).keep _ _ mG eG8
      have hw12 : (ws ++ [V.ref q1]).length ≤ 40 := by rw [List.length_append]; simp only [List.length_cons, List.length_nil]; omega
      clear L6 L7 L8 L9 L10 L11 G7 G8 G9 G10 G11 G12 e12 hy s24 hv3 hf hv2 eG8
      revert L12 eG12
      generalize upd (upd (upd (upd (upd H16 T2 (.tup (gr.map V.int))) T3 (.tup [.ref T2])) T4 (.tup [.ref T3, .int (g + 4)])) q1 (.tup [v3, .ref T4])) p (.lst (ws ++ [.ref q1])) = H17
      intro L12 eG12
      generalize ws ++ [V.ref q1] = ws12 at L12 hw12
      refine ⟨⟨ws12, L12.S.e⟩, .inl ⟨_, sql_of eG12, fun T5 nT5 => ?_⟩⟩
      obtain ⟨L13, G13⟩ := L12.new (o := .tup (gr.map V.int)) nT5
      refine ⟨.ref T5, gr, rfl, ⟨T5, rfl, sqt_of upd_same⟩, by omega, hg8, fun v4 H18 s18 hv4 => ?_⟩
      obtain ⟨L14, G14⟩ := L13.same s18
      obtain ⟨t4, rfl, ht4⟩ := hv4
      refine .inr ⟨_, ht4, fun b4 H19 s19 hb4 => ?_⟩
      obtain ⟨L15, G15⟩ := L14.same s19
      have eG15 := G15.keep _ _ mG (G14.keep _ _ mG (G13.keep _ _ mG eG12))
      have hb4' : SqT K H19 b4 ((tail2 gr).map V.int) := by
        have e := cut_last2 ((framed gr).map V.int)
        rw [List.length_map, ← List.map_drop, framed_tail] at e
        have hb5 : SqT K H19 b4 (cutV ((framed gr).map V.int) (some (-2)) none) := hb4
        rw [e] at hb5
        exact hb5
      refine ⟨GG, gr, rfl, sql_of eG15, by omega, hg8, fun H20 s20 => ?_⟩
      obtain ⟨L16, G16⟩ := L15.same s20
      have eG16 := G16.keep _ _ mG eG15
      refine ⟨by decide, GG, gr, rfl, sql_of eG16, by omega, hg8, fun H21 s21 => ⟨⟨by decide, by decide⟩, two_ok, fun T6 nT6 => ⟨two_ok, fun q2 nq2 => ?_⟩⟩⟩
      obtain ⟨L17, G17⟩ := L16.same s21
      obtain ⟨L18, G18⟩ := L17.new (o := .tup [.int ((prods gr).sum % 65521 % 256), .int ((prods gr).sum % 65521 / 256)]) nT6
      have io := ints_ok (tail2 gr) (by unfold tail2; simp only [List.length_cons, List.length_nil]; omega)
      have hx2 : Dat K (Mo M p) _ (.ref b4) (.t ((tail2 gr).map .i)) := .t (Same.sqt (s20.trans (s21.trans (same_new (o := .tup [.int ((prods gr).sum % 65521 % 256), .int ((prods gr).sum % 65521 / 256)]) nT6))) hb4') (Dats.ints _)
      have hy2 : Dat K (Mo M p) (upd H21 T6 (.tup [.int ((prods gr).sum % 65521 % 256), .int ((prods gr).sum % 65521 / 256)])) (.ref T6) (.t ((tail2 gr).map .i)) := .t (sqt_of upd_same) (Dats.ints (tail2 gr))
      obtain ⟨e19, L19, G19⟩ := L18.push hx2 hy2 io.1 io.2 nq2
      refine ⟨ws12, e19, line5' (by omega), ?_⟩
      exact rest _ _ _ _ _ _ _ _ _ _ _ _ _ _ _ _ _ _ _ L19 (by rw [List.length_append]; simp only [List.length_cons, List.length_nil]; omega)
end
end L82
namespace L82
open PySem PySem.Spec PyProof.Rows L2 Kx LH LO LF
def topS (i : Nat) : Stmt := PySem.Challenge.pw_ownrules_k82_frames_are_read_up_to_the_f.main.body.getD i (.Pass ⟨0, 0, 0, 0⟩)
abbrev s__law_is_kind : Stmt := topS 20
abbrev s__law_same : Stmt := topS 21
abbrev s__law_all : Stmt := topS 22
abbrev s__law_any : Stmt := topS 18
abbrev s__law_of : Stmt := topS 19
abbrev s__law_octet : Stmt := topS 27
abbrev s__law_bent : Stmt := topS 31
abbrev s__law_deal : Stmt := topS 17
abbrev s__law_number_at : Stmt := topS 28
abbrev s__law_sum : Stmt := topS 24
abbrev s__law_frames_in : Stmt := topS 29
abbrev s__law_due : Stmt := topS 32
abbrev s__law_number_octets : Stmt := topS 23
abbrev s__law_framed : Stmt := topS 25
abbrev s__law_joined : Stmt := topS 26
abbrev s__law_some_body : Stmt := topS 30
abbrev s_octets_of_number : Stmt := topS 2
abbrev s_number_octets : Stmt := topS 10
abbrev s_sum_of_octets : Stmt := topS 11
abbrev s_sum_pair : Stmt := topS 12
abbrev s_frame : Stmt := topS 13
abbrev s_behind_number : Stmt := topS 4
abbrev s_number_of : Stmt := topS 3
abbrev s_number_in : Stmt := topS 5
abbrev s_frame_at : Stmt := topS 14
abbrev s_frames : Stmt := topS 15
abbrev s_law : Stmt := topS 33
theorem sc__law_is_kind : FnScope N__law_is_kind ["told", "due"] (defScope s__law_is_kind) := ⟨rfl, rfl, rfl, by decide +kernel, rfl, by decide +kernel, by decide +kernel⟩
theorem sc__law_same : FnScope N__law_same ["told", "due"] (defScope s__law_same) := ⟨rfl, rfl, rfl, by decide +kernel, rfl, by decide +kernel, by decide +kernel⟩
theorem sc__law_all : FnScope N__law_all ["pairs"] (defScope s__law_all) := ⟨rfl, rfl, rfl, by decide +kernel, rfl, by decide +kernel, by decide +kernel⟩
theorem sc__law_any : FnScope N__law_any ["deal", "bound"] (defScope s__law_any) := ⟨rfl, rfl, rfl, by decide +kernel, rfl, by decide +kernel, by decide +kernel⟩
theorem sc__law_of : FnScope N__law_of ["deal", "some"] (defScope s__law_of) := ⟨rfl, rfl, rfl, by decide +kernel, rfl, by decide +kernel, by decide +kernel⟩
theorem sc__law_octet : FnScope N__law_octet ["deal"] (defScope s__law_octet) := ⟨rfl, rfl, rfl, by decide +kernel, rfl, by decide +kernel, by decide +kernel⟩
theorem sc__law_bent : FnScope N__law_bent ["deal", "octets"] (defScope s__law_bent) := ⟨rfl, rfl, rfl, by decide +kernel, rfl, by decide +kernel, by decide +kernel⟩
theorem sc__law_deal : FnScope N__law_deal ["script", "salt"] (defScope s__law_deal) := ⟨rfl, rfl, rfl, by decide +kernel, rfl, by decide +kernel, by decide +kernel⟩
theorem sc__law_number_at : FnScope N__law_number_at ["octets", "at"] (defScope s__law_number_at) := ⟨rfl, rfl, rfl, by decide +kernel, rfl, by decide +kernel, by decide +kernel⟩
theorem sc__law_sum : FnScope N__law_sum ["octets"] (defScope s__law_sum) := ⟨rfl, rfl, rfl, by decide +kernel, rfl, by decide +kernel, by decide +kernel⟩
theorem sc__law_frames_in : FnScope N__law_frames_in ["octets"] (defScope s__law_frames_in) := ⟨rfl, rfl, rfl, by decide +kernel, rfl, by decide +kernel, by decide +kernel⟩
theorem sc__law_due : FnScope N__law_due ["octets"] (defScope s__law_due) := ⟨rfl, rfl, rfl, by decide +kernel, rfl, by decide +kernel, by decide +kernel⟩
theorem sc__law_number_octets : FnScope N__law_number_octets ["number"] (defScope s__law_number_octets) := ⟨rfl, rfl, rfl, by decide +kernel, rfl, by decide +kernel, by decide +kernel⟩
theorem sc__law_framed : FnScope N__law_framed ["body"] (defScope s__law_framed) := ⟨rfl, rfl, rfl, by decide +kernel, rfl, by decide +kernel, by decide +kernel⟩
theorem sc__law_joined : FnScope N__law_joined ["rows"] (defScope s__law_joined) := ⟨rfl, rfl, rfl, by decide +kernel, rfl, by decide +kernel, by decide +kernel⟩
theorem sc__law_some_body : FnScope N__law_some_body ["deal"] (defScope s__law_some_body) := ⟨rfl, rfl, rfl, by decide +kernel, rfl, by decide +kernel, by decide +kernel⟩
theorem sc_octets_of_number : FnScope N_octets_of_number ["number"] (defScope s_octets_of_number) := ⟨rfl, rfl, rfl, by decide +kernel, rfl, by decide +kernel, by decide +kernel⟩
theorem sc_number_octets : FnScope N_number_octets ["number"] (defScope s_number_octets) := ⟨rfl, rfl, rfl, by decide +kernel, rfl, by decide +kernel, by decide +kernel⟩
theorem sc_sum_of_octets : FnScope N_sum_of_octets ["octets"] (defScope s_sum_of_octets) := ⟨rfl, rfl, rfl, by decide +kernel, rfl, by decide +kernel, by decide +kernel⟩
theorem sc_sum_pair : FnScope N_sum_pair ["body"] (defScope s_sum_pair) := ⟨rfl, rfl, rfl, by decide +kernel, rfl, by decide +kernel, by decide +kernel⟩
theorem sc_frame : FnScope N_frame ["body"] (defScope s_frame) := ⟨rfl, rfl, rfl, by decide +kernel, rfl, by decide +kernel, by decide +kernel⟩
theorem sc_behind_number : FnScope N_behind_number ["octets", "at"] (defScope s_behind_number) := ⟨rfl, rfl, rfl, by decide +kernel, rfl, by decide +kernel, by decide +kernel⟩
theorem sc_number_of : FnScope N_number_of ["figures"] (defScope s_number_of) := ⟨rfl, rfl, rfl, by decide +kernel, rfl, by decide +kernel, by decide +kernel⟩
theorem sc_number_in : FnScope N_number_in ["octets", "at"] (defScope s_number_in) := ⟨rfl, rfl, rfl, by decide +kernel, rfl, by decide +kernel, by decide +kernel⟩
theorem sc_frame_at : FnScope N_frame_at ["octets", "at"] (defScope s_frame_at) := ⟨rfl, rfl, rfl, by decide +kernel, rfl, by decide +kernel, by decide +kernel⟩
theorem sc_frames : FnScope N_frames ["octets"] (defScope s_frames) := ⟨rfl, rfl, rfl, by decide +kernel, rfl, by decide +kernel, by decide +kernel⟩
theorem sc_law : FnScope N_law ["script"] (defScope s_law) := ⟨rfl, rfl, rfl, by decide +kernel, rfl, by decide +kernel, by decide +kernel⟩
/-- what the top has left -/
structure Tx (K : PySem.W.Frag) (mg : Str → Option Value) : Prop where
  m_abs : mg "abs" = none
  m_bool : mg "bool" = none
  m_dict : mg "dict" = none
  m_enumerate : mg "enumerate" = none
  m_int : mg "int" = none
  m_isinstance : mg "isinstance" = none
  m_len : mg "len" = none
  m_list : mg "list" = none
  m_range : mg "range" = none
  m_str : mg "str" = none
  m_sum : mg "sum" = none
  m_tuple : mg "tuple" = none
  c_BASE : ∃ t, mg "BASE" = some (.int 128 t)
  c_OCTET : ∃ t, mg "OCTET" = some (.int 256 t)
  c_PRIME : ∃ t, mg "PRIME" = some (.int 65521 t)
  c_SUM_OCTETS : ∃ t, mg "SUM_OCTETS" = some (.int 2 t)
  d__law_is_kind : Df K mg "_law_is_kind" s__law_is_kind
  d__law_same : Df K mg "_law_same" s__law_same
  d__law_all : Df K mg "_law_all" s__law_all
  d__law_any : Df K mg "_law_any" s__law_any
  d__law_of : Df K mg "_law_of" s__law_of
  d__law_octet : Df K mg "_law_octet" s__law_octet
  d__law_bent : Df K mg "_law_bent" s__law_bent
  d__law_deal : Df K mg "_law_deal" s__law_deal
  d__law_number_at : Df K mg "_law_number_at" s__law_number_at
  d__law_sum : Df K mg "_law_sum" s__law_sum
  d__law_frames_in : Df K mg "_law_frames_in" s__law_frames_in
  d__law_due : Df K mg "_law_due" s__law_due
  d__law_number_octets : Df K mg "_law_number_octets" s__law_number_octets
  d__law_framed : Df K mg "_law_framed" s__law_framed
  d__law_joined : Df K mg "_law_joined" s__law_joined
  d__law_some_body : Df K mg "_law_some_body" s__law_some_body
  d_octets_of_number : Df K mg "octets_of_number" s_octets_of_number
  d_number_octets : Df K mg "number_octets" s_number_octets
  d_sum_of_octets : Df K mg "sum_of_octets" s_sum_of_octets
  d_sum_pair : Df K mg "sum_pair" s_sum_pair
  d_frame : Df K mg "frame" s_frame
  d_behind_number : Df K mg "behind_number" s_behind_number
  d_number_of : Df K mg "number_of" s_number_of
  d_number_in : Df K mg "number_in" s_number_in
  d_frame_at : Df K mg "frame_at" s_frame_at
  d_frames : Df K mg "frames" s_frames
  d_law : Df K mg "law" s_law
section
variable {P : Program} {w : World} {K : PySem.W.Frag} {mg : Str → Option Value} {base : Heap}
theorem w__law_is_kind (T : Tx K mg) {f : Addr} {cdv : Value} {A : Around} {outer : List Env} {s : Shared} {H : Hp} {E : XK} (hr : Room 0 (A.deeper (envOfC "_law_is_kind" (defScope s__law_is_kind) s.heap.objs.size f cdv))) :
    PSs (cxOf CX0 P w K mg base N__law_is_kind "_law_is_kind" (defScope s__law_is_kind) f cdv A outer s H E).nox (defBody s__law_is_kind) (t__law_is_kind K) := by
  have nd := (sc__law_is_kind).nd
  exact (pss_cons (ps_if (kt_cmp o_isN (kv 1) pe_non) (pss_one (ps_ret (ke_cmp o_isN (kv 0) pe_non))) pss_nil)
      (pss_cons (ps_if (PW.pt (pw_or (kt_cmp o_isB (kv 1) pe_bl) (pw_or1 (kt_cmp o_isB (kv 1) pe_bl)))) (pss_one (ps_ret (pe_ifExp (kt_val (kv 1)) (ke_cmp o_isB (kv 0) pe_bl) (ke_cmp o_isB (kv 0) pe_bl)))) pss_nil)
      (pss_cons (ps_if (kt_val (pe_callB c_isi rfl T.m_isinstance (by decide +kernel) (pa_cons (kv 1) (pa_cons (pe_bltn rfl T.m_str (by decide +kernel) rfl) pa_nil)))) (pss_one (ps_ret (ke_and (pe_callB c_isi rfl T.m_isinstance (by decide +kernel) (pa_cons (kv 0) (pa_cons (pe_bltn rfl T.m_str (by decide +kernel) rfl) pa_nil))) (pe_one (ke_cmp o_eq (kv 0) (kv 1)))))) pss_nil)
      (pss_one (ps_ret (ke_and (pe_callB c_isi rfl T.m_isinstance (by decide +kernel) (pa_cons (kv 0) (pa_cons (pe_bltn rfl T.m_int (by decide +kernel) rfl) pa_nil))) (ke_and (ke_not (pe_callB c_isi rfl T.m_isinstance (by decide +kernel) (pa_cons (kv 0) (pa_cons (pe_bltn rfl T.m_bool (by decide +kernel) rfl) pa_nil)))) (pe_one (ke_cmp o_eq (kv 0) (kv 1))))))))))
theorem cal__law_is_kind (T : Tx K mg) (len : ∀ vs H Q E, sp__law_is_kind K vs H Q E → vs.length = 2) (rd : ∀ vs H Q E, sp__law_is_kind K vs H Q E → t__law_is_kind K { nx := fun _ H' => Q .non H', rt := Q } (start N__law_is_kind vs) H) : Cal P w K mg base 1 "_law_is_kind" ["told", "due"] (sp__law_is_kind K) :=
  T.d__law_is_kind.cal sc__law_is_kind (fun _ _ _ _ _ _ us hl => match us, hl with | [_, _], _ => rfl) len fun cdv A outer s H vs Q E {f} hr h => ⟨t__law_is_kind K, w__law_is_kind T hr, rd vs H Q E h⟩
theorem w__law_same (T : Tx K mg) (c__law_is_kind : Cal P w K mg base 1 "_law_is_kind" ["told", "due"] (sp__law_is_kind K)) {f : Addr} {cdv : Value} {A : Around} {outer : List Env} {s : Shared} {H : Hp} {E : XK} (hr : Room 1 (A.deeper (envOfC "_law_same" (defScope s__law_same) s.heap.objs.size f cdv))) :
    PSs (cxOf CX0 P w K mg base N__law_same "_law_same" (defScope s__law_same) f cdv A outer s H E).nox (defBody s__law_same) (t__law_same K) := by
  have nd := (sc__law_same).nd
  exact (pss_cons (ps_set (i := 2) nd rfl (Or.inl rfl) (pe_lst (pa_cons (pe_tup (pa_cons (kv 0) (pa_cons (kv 1) pa_nil))) pa_nil)))
      (pss_cons (ps_while PassesOwn.never (kt_cmp o_gt (pe_callB c_len rfl T.m_len PySem.boot_len (pa_cons (kv 2) pa_nil)) pe_int) (pss_cons (ps_asg (ke_pop (kv 2)) (pg_tup (by rfl) (pgs_cons (pg_name (i := 3) nd rfl (Or.inl rfl)) (pgs_cons (pg_name (i := 4) nd rfl (Or.inl rfl)) pgs_nil))))
      (pss_one (ps_if (kt_val (pe_callB c_isi rfl T.m_isinstance (by decide +kernel) (pa_cons (kv 4) (pa_cons (pe_bltn rfl T.m_tuple (by decide +kernel) rfl) pa_nil)))) (pss_cons (ps_if (PW.pt (pw_or (pt_not (kt_val (pe_callB c_isi rfl T.m_isinstance (by decide +kernel) (pa_cons (kv 3) (pa_cons (pe_bltn rfl T.m_tuple (by decide +kernel) rfl) pa_nil))))) (pw_or1 (kt_cmp o_ne (pe_callB c_len rfl T.m_len PySem.boot_len (pa_cons (kv 3) pa_nil)) (pe_callB c_len rfl T.m_len PySem.boot_len (pa_cons (kv 4) pa_nil)))))) (pss_one (ps_ret pe_bl)) pss_nil)
      (pss_one (ps_for PassesOwn.never rfl (pi_range1 rfl T.m_range (pa_cons (pe_callB c_len rfl T.m_len PySem.boot_len (pa_cons (kv 4) pa_nil)) pa_nil)) (pg_name (i := 5) nd rfl (Or.inl rfl)) (pss_one (ps_expr (ke_append (kv 2) (pe_tup (pa_cons (ke_ix (kv 3) (kv 5)) (pa_cons (ke_ix (kv 4) (kv 5)) pa_nil))))))))) (pss_one (ps_if (PW.pt (pw_or (kt_val (pe_callB call_isiT rfl T.m_isinstance (by decide +kernel) (pa_cons (kv 3) (pa_cons (pe_tup (pa_cons (pe_bltn rfl T.m_tuple (by decide +kernel) rfl) (pa_cons (pe_bltn rfl T.m_list (by decide +kernel) rfl) (pa_cons (pe_bltn rfl T.m_dict (by decide +kernel) rfl) pa_nil)))) pa_nil)))) (pw_or1 (pt_not (kt_val (ke_c c__law_is_kind hr (by decide) rfl (pa_cons (kv 3) (pa_cons (kv 4) pa_nil)))))))) (pss_one (ps_ret pe_bl)) pss_nil))))))
      (pss_one (ps_ret pe_bl))))
theorem cal__law_same (T : Tx K mg) (c__law_is_kind : Cal P w K mg base 1 "_law_is_kind" ["told", "due"] (sp__law_is_kind K)) (len : ∀ vs H Q E, sp__law_same K vs H Q E → vs.length = 2) (rd : ∀ vs H Q E, sp__law_same K vs H Q E → t__law_same K { nx := fun _ H' => Q .non H', rt := Q } (start N__law_same vs) H) : Cal P w K mg base 2 "_law_same" ["told", "due"] (sp__law_same K) :=
  T.d__law_same.cal sc__law_same (fun _ _ _ _ _ _ us hl => match us, hl with | [_, _], _ => rfl) len fun cdv A outer s H vs Q E {f} hr h => ⟨t__law_same K, w__law_same T c__law_is_kind hr, rd vs H Q E h⟩
theorem w__law_all (T : Tx K mg) (c__law_same : Cal P w K mg base 2 "_law_same" ["told", "due"] (sp__law_same K)) {f : Addr} {cdv : Value} {A : Around} {outer : List Env} {s : Shared} {H : Hp} {E : XK} (hr : Room 2 (A.deeper (envOfC "_law_all" (defScope s__law_all) s.heap.objs.size f cdv))) :
    PSs (cxOf CX0 P w K mg base N__law_all "_law_all" (defScope s__law_all) f cdv A outer s H E).nox (defBody s__law_all) (t__law_all K) := by
  have nd := (sc__law_all).nd
  exact (pss_one (ps_ret (ke_cmp o_eq (pe_callB c_len rfl T.m_len PySem.boot_len (pa_cons (pe_lc (own := [("told", 1), ("due", 2)]) (g := (gTup K 2 (gCons (gName 1) (gCons (gName 2) gNil)))) (tt := (tNot (tTM (tCall (sp__law_same K) [] E0 (tCons (tV 1) (tCons (tV 2) tNil)))))) (te := (tV 1)) (by rfl) nd (pi_list (kv 0)) (blkOk_by (N := N__law_all) (sc := defScope s__law_all) (by decide +kernel)) (fun _ _ _ _ _ => (pg_tup (by rfl) (pgs_cons (pg_name (i := 1) nd rfl (Or.inl rfl)) (pgs_cons (pg_name (i := 2) nd rfl (Or.inl rfl)) pgs_nil)))) (fun _ _ _ _ _ => (pts_one (pt_not (kt_val (ke_c c__law_same hr (by decide) rfl (pa_cons (kv 1) (pa_cons (kv 2) pa_nil))))))) (fun _ _ _ _ _ => (kv 1))) pa_nil)) pe_int)))
theorem cal__law_all (T : Tx K mg) (c__law_same : Cal P w K mg base 2 "_law_same" ["told", "due"] (sp__law_same K)) (len : ∀ vs H Q E, sp__law_all K vs H Q E → vs.length = 1) (rd : ∀ vs H Q E, sp__law_all K vs H Q E → t__law_all K { nx := fun _ H' => Q .non H', rt := Q } (start N__law_all vs) H) : Cal P w K mg base 3 "_law_all" ["pairs"] (sp__law_all K) :=
  T.d__law_all.cal sc__law_all (fun _ _ _ _ _ _ us hl => match us, hl with | [_], _ => rfl) len fun cdv A outer s H vs Q E {f} hr h => ⟨t__law_all K, w__law_all T c__law_same hr, rd vs H Q E h⟩
theorem w__law_any (T : Tx K mg) {f : Addr} {cdv : Value} {A : Around} {outer : List Env} {s : Shared} {H : Hp} {E : XK} (hr : Room 0 (A.deeper (envOfC "_law_any" (defScope s__law_any) s.heap.objs.size f cdv))) :
    PSs (cxOf CX0 P w K mg base N__law_any "_law_any" (defScope s__law_any) f cdv A outer s H E).nox (defBody s__law_any) (t__law_any K) := by
  have nd := (sc__law_any).nd
  exact (pss_cons (ps_while PassesOwn.never (PW.pt (pw_and (kt_cmp o_gt (pe_callB c_len rfl T.m_len PySem.boot_len (pa_cons (ke_ix (kv 0) pe_int) pa_nil)) pe_int) (pw_and1 (kt_cmp o_eq (ke_ix (ke_ix (kv 0) pe_int) (ke_neg pe_int)) pe_int)))) (pss_one (ps_expr (ke_pop (ke_ix (kv 0) pe_int)))))
      (pss_cons (ps_if (kt_cmp o_gt (pe_callB c_len rfl T.m_len PySem.boot_len (pa_cons (ke_ix (kv 0) pe_int) pa_nil)) pe_int) (pss_cons (ps_set (i := 2) nd rfl (Or.inl rfl) (pe_callTy c_int rfl T.m_int (by decide +kernel) (pa_cons (ke_pop (ke_ix (kv 0) pe_int)) pa_nil)))
      (pss_cons (ps_expr (ke_append (ke_ix (kv 0) pe_int) (pe_op o_div (kv 2) (kv 1))))
      (pss_one (ps_ret (pe_op o_mod (kv 2) (kv 1)))))) pss_nil)
      (pss_cons (ps_asg (pe_op o_mod (pe_callTy c_int rfl T.m_int (by decide +kernel) (pa_cons (pe_op o_add (pe_op o_mul (ke_ix (kv 0) pe_int) pe_int) pe_int) pa_nil)) pe_int) (pg_sub (kv 0) pe_int k_setL))
      (pss_one (ps_ret (pe_op o_mod (pe_callTy c_int rfl T.m_int (by decide +kernel) (pa_cons (pe_op o_div (ke_ix (kv 0) pe_int) pe_int) pa_nil)) (kv 1)))))))
theorem cal__law_any (T : Tx K mg) (len : ∀ vs H Q E, sp__law_any K vs H Q E → vs.length = 2) (rd : ∀ vs H Q E, sp__law_any K vs H Q E → t__law_any K { nx := fun _ H' => Q .non H', rt := Q } (start N__law_any vs) H) : Cal P w K mg base 1 "_law_any" ["deal", "bound"] (sp__law_any K) :=
  T.d__law_any.cal sc__law_any (fun _ _ _ _ _ _ us hl => match us, hl with | [_, _], _ => rfl) len fun cdv A outer s H vs Q E {f} hr h => ⟨t__law_any K, w__law_any T hr, rd vs H Q E h⟩
theorem w__law_of (T : Tx K mg) (c__law_any : Cal P w K mg base 1 "_law_any" ["deal", "bound"] (sp__law_any K)) {f : Addr} {cdv : Value} {A : Around} {outer : List Env} {s : Shared} {H : Hp} {E : XK} (hr : Room 1 (A.deeper (envOfC "_law_of" (defScope s__law_of) s.heap.objs.size f cdv))) :
    PSs (cxOf CX0 P w K mg base N__law_of "_law_of" (defScope s__law_of) f cdv A outer s H E).nox (defBody s__law_of) (t__law_of K) := by
  have nd := (sc__law_of).nd
  exact (pss_one (ps_ret (ke_ix (kv 1) (ke_c c__law_any hr (by decide) rfl (pa_cons (kv 0) (pa_cons (pe_callB c_len rfl T.m_len PySem.boot_len (pa_cons (kv 1) pa_nil)) pa_nil))))))
theorem cal__law_of (T : Tx K mg) (c__law_any : Cal P w K mg base 1 "_law_any" ["deal", "bound"] (sp__law_any K)) (len : ∀ vs H Q E, sp__law_of K vs H Q E → vs.length = 2) (rd : ∀ vs H Q E, sp__law_of K vs H Q E → t__law_of K { nx := fun _ H' => Q .non H', rt := Q } (start N__law_of vs) H) : Cal P w K mg base 2 "_law_of" ["deal", "some"] (sp__law_of K) :=
  T.d__law_of.cal sc__law_of (fun _ _ _ _ _ _ us hl => match us, hl with | [_, _], _ => rfl) len fun cdv A outer s H vs Q E {f} hr h => ⟨t__law_of K, w__law_of T c__law_any hr, rd vs H Q E h⟩
theorem w__law_octet (T : Tx K mg) (c__law_any : Cal P w K mg base 1 "_law_any" ["deal", "bound"] (sp__law_any K)) (c__law_of : Cal P w K mg base 2 "_law_of" ["deal", "some"] (sp__law_of K)) {f : Addr} {cdv : Value} {A : Around} {outer : List Env} {s : Shared} {H : Hp} {E : XK} (hr : Room 2 (A.deeper (envOfC "_law_octet" (defScope s__law_octet) s.heap.objs.size f cdv))) :
    PSs (cxOf CX0 P w K mg base N__law_octet "_law_octet" (defScope s__law_octet) f cdv A outer s H E).nox (defBody s__law_octet) (t__law_octet K) := by
  have nd := (sc__law_octet).nd
  exact (pss_one (ps_ret (ke_c c__law_of hr (by decide) rfl (pa_cons (kv 0) (pa_cons (pe_lst (pa_cons pe_int (pa_cons pe_int (pa_cons pe_int (pa_cons pe_int (pa_cons pe_int (pa_cons (ke_c c__law_any hr (by decide) rfl (pa_cons (kv 0) (pa_cons pe_int pa_nil))) (pa_cons (ke_c c__law_any hr (by decide) rfl (pa_cons (kv 0) (pa_cons pe_int pa_nil))) (pa_cons (ke_c c__law_any hr (by decide) rfl (pa_cons (kv 0) (pa_cons pe_int pa_nil))) pa_nil))))))))) pa_nil)))))
theorem cal__law_octet (T : Tx K mg) (c__law_any : Cal P w K mg base 1 "_law_any" ["deal", "bound"] (sp__law_any K)) (c__law_of : Cal P w K mg base 2 "_law_of" ["deal", "some"] (sp__law_of K)) (len : ∀ vs H Q E, sp__law_octet K vs H Q E → vs.length = 1) (rd : ∀ vs H Q E, sp__law_octet K vs H Q E → t__law_octet K { nx := fun _ H' => Q .non H', rt := Q } (start N__law_octet vs) H) : Cal P w K mg base 3 "_law_octet" ["deal"] (sp__law_octet K) :=
  T.d__law_octet.cal sc__law_octet (fun _ _ _ _ _ _ us hl => match us, hl with | [_], _ => rfl) len fun cdv A outer s H vs Q E {f} hr h => ⟨t__law_octet K, w__law_octet T c__law_any c__law_of hr, rd vs H Q E h⟩
theorem w__law_bent (T : Tx K mg) (c__law_any : Cal P w K mg base 1 "_law_any" ["deal", "bound"] (sp__law_any K)) (c__law_octet : Cal P w K mg base 3 "_law_octet" ["deal"] (sp__law_octet K)) (c__law_of : Cal P w K mg base 2 "_law_of" ["deal", "some"] (sp__law_of K)) {f : Addr} {cdv : Value} {A : Around} {outer : List Env} {s : Shared} {H : Hp} {E : XK} (hr : Room 3 (A.deeper (envOfC "_law_bent" (defScope s__law_bent) s.heap.objs.size f cdv))) :
    PSs (cxOf CX0 P w K mg base N__law_bent "_law_bent" (defScope s__law_bent) f cdv A outer s H E).nox (defBody s__law_bent) (t__law_bent K) := by
  have nd := (sc__law_bent).nd
  exact (pss_cons (ps_if (kt_cmp o_eq (pe_callB c_len rfl T.m_len PySem.boot_len (pa_cons (kv 1) pa_nil)) pe_int) (pss_one (ps_ret (kv 1))) pss_nil)
      (pss_cons (ps_par (i := 2) (j := 3) (by rfl) nd rfl rfl (by decide) rfl rfl (pa_cons (ke_c c__law_any hr (by decide) rfl (pa_cons (kv 0) (pa_cons (pe_callB c_len rfl T.m_len PySem.boot_len (pa_cons (kv 1) pa_nil)) pa_nil))) (pa_cons (ke_c c__law_any hr (by decide) rfl (pa_cons (kv 0) (pa_cons pe_int pa_nil))) pa_nil)) (by rfl))
      (pss_cons (ps_if (kt_cmp o_eq (kv 3) pe_int) (pss_one (ps_ret (pe_op op_cat (pe_slice s_sl (kv 1) po_none (po_s (kv 2))) (pe_slice s_sl (kv 1) (po_s (pe_op o_add (kv 2) pe_int)) po_none)))) pss_nil)
      (pss_cons (ps_if (kt_cmp o_eq (kv 3) pe_int) (pss_one (ps_ret (pe_op op_cat (pe_op op_cat (pe_slice s_sl (kv 1) po_none (po_s (kv 2))) (pe_lst (pa_cons (ke_c c__law_octet hr (by decide) rfl (pa_cons (kv 0) pa_nil)) pa_nil))) (pe_slice s_sl (kv 1) (po_s (kv 2)) po_none)))) pss_nil)
      (pss_one (ps_ret (pe_op op_cat (pe_op op_cat (pe_slice s_sl (kv 1) po_none (po_s (kv 2))) (pe_lst (pa_cons (pe_op o_mod (pe_callTy c_int rfl T.m_int (by decide +kernel) (pa_cons (pe_op o_add (ke_ix (kv 1) (kv 2)) (ke_c c__law_of hr (by decide) rfl (pa_cons (kv 0) (pa_cons (pe_lst (pa_cons pe_int (pa_cons pe_int (pa_cons pe_int (pa_cons (pe_op o_add pe_int (ke_c c__law_any hr (by decide) rfl (pa_cons (kv 0) (pa_cons pe_int pa_nil)))) pa_nil))))) pa_nil)))) pa_nil)) pe_int) pa_nil))) (pe_slice s_sl (kv 1) (po_s (pe_op o_add (kv 2) pe_int)) po_none))))))))
theorem cal__law_bent (T : Tx K mg) (c__law_any : Cal P w K mg base 1 "_law_any" ["deal", "bound"] (sp__law_any K)) (c__law_octet : Cal P w K mg base 3 "_law_octet" ["deal"] (sp__law_octet K)) (c__law_of : Cal P w K mg base 2 "_law_of" ["deal", "some"] (sp__law_of K)) (len : ∀ vs H Q E, sp__law_bent K vs H Q E → vs.length = 2) (rd : ∀ vs H Q E, sp__law_bent K vs H Q E → t__law_bent K { nx := fun _ H' => Q .non H', rt := Q } (start N__law_bent vs) H) : Cal P w K mg base 4 "_law_bent" ["deal", "octets"] (sp__law_bent K) :=
  T.d__law_bent.cal sc__law_bent (fun _ _ _ _ _ _ us hl => match us, hl with | [_, _], _ => rfl) len fun cdv A outer s H vs Q E {f} hr h => ⟨t__law_bent K, w__law_bent T c__law_any c__law_octet c__law_of hr, rd vs H Q E h⟩
theorem w__law_deal (T : Tx K mg) {f : Addr} {cdv : Value} {A : Around} {outer : List Env} {s : Shared} {H : Hp} {E : XK} (hr : Room 0 (A.deeper (envOfC "_law_deal" (defScope s__law_deal) s.heap.objs.size f cdv))) :
    PSs (cxOf CX0 P w K mg base N__law_deal "_law_deal" (defScope s__law_deal) f cdv A outer s H E).nox (defBody s__law_deal) (t__law_deal K) := by
  have nd := (sc__law_deal).nd
  exact (pss_cons (ps_set (i := 2) nd rfl (Or.inr rfl) (pe_op o_mulW (pe_op o_mulW (pe_op o_mulW (pe_op o_mulW (pe_op o_mulW (pe_op o_pow pe_int pe_int) (pe_op o_pow pe_int pe_int)) (pe_op o_pow pe_int pe_int)) (pe_op o_pow pe_int pe_int)) (pe_op o_pow pe_int pe_int)) (pe_op o_pow pe_int pe_int)))
      (pss_cons (ps_setLc (i := 3) (own := [("cell", 5)]) (g := (gName 5)) (tt := tYes) (te := (tOp qMod (tCB qInt (tCons (tCB qAbs (tCons (tCB qInt (tCons (tV 5) tNil)) tNil)) tNil)) (tV 2))) (by rfl) nd rfl rfl (sw_true rfl rfl rfl (by decide +kernel)) (pi_list (pe_slice s_sl (kv 0) po_none (po_s pe_int))) (blkOk_by (N := N__law_deal) (sc := defScope s__law_deal) (by decide +kernel)) (fun _ _ _ _ _ => (pg_name (i := 5) nd rfl (Or.inl rfl))) (fun _ _ _ _ _ => pts_nil) (fun _ _ _ _ _ => (pe_op o_mod (pe_callTy c_int rfl T.m_int (by decide +kernel) (pa_cons (pe_callB c_abs rfl T.m_abs (by decide +kernel) (pa_cons (pe_callTy c_int rfl T.m_int (by decide +kernel) (pa_cons (kv 5) pa_nil)) pa_nil)) pa_nil)) (kv 2))))
      (pss_cons (ps_set (i := 4) nd rfl (Or.inl rfl) (pe_op o_add pe_int (pe_op o_mulW pe_int (kv 1))))
      (pss_cons (ps_for PassesOwn.never rfl (pi_list (kv 3)) (pg_name (i := 5) nd rfl (Or.inl rfl)) (pss_one (ps_set (i := 4) nd rfl (Or.inl rfl) (pe_op o_mod (pe_callTy c_int rfl T.m_int (by decide +kernel) (pa_cons (pe_op o_add (pe_op o_add (pe_op o_mulW (kv 4) pe_int) (pe_op o_mod (pe_callTy c_int rfl T.m_int (by decide +kernel) (pa_cons (kv 5) pa_nil)) pe_int)) pe_int) pa_nil)) pe_int))))
      (pss_one (ps_ret (pe_lst (pa_cons (pe_revL (pe_lc (own := [("cell", 5)]) (g := (gName 5)) (tt := (tTM (tOp (qI2 fun i j => decide (j ≤ i)) (tV 5) (tOp qPow (tC (.int 10)) (tC (.int 18)))))) (te := (tV 5)) (by rfl) nd (pi_list (kv 3)) (blkOk_by (N := N__law_deal) (sc := defScope s__law_deal) (by decide +kernel)) (fun _ _ _ _ _ => (pg_name (i := 5) nd rfl (Or.inl rfl))) (fun _ _ _ _ _ => (pts_one (kt_cmp o_ge (kv 5) (pe_op o_pow pe_int pe_int)))) (fun _ _ _ _ _ => (kv 5)))) (pa_cons (kv 4) pa_nil)))))))))
theorem cal__law_deal (T : Tx K mg) (len : ∀ vs H Q E, sp__law_deal K vs H Q E → vs.length = 2) (rd : ∀ vs H Q E, sp__law_deal K vs H Q E → t__law_deal K { nx := fun _ H' => Q .non H', rt := Q } (start N__law_deal vs) H) : Cal P w K mg base 1 "_law_deal" ["script", "salt"] (sp__law_deal K) :=
  T.d__law_deal.cal sc__law_deal (fun _ _ _ _ _ _ us hl => match us, hl with | [_, _], _ => rfl) len fun cdv A outer s H vs Q E {f} hr h => ⟨t__law_deal K, w__law_deal T hr, rd vs H Q E h⟩
theorem w__law_number_at (T : Tx K mg) {f : Addr} {cdv : Value} {A : Around} {outer : List Env} {s : Shared} {H : Hp} {E : XK} (hr : Room 0 (A.deeper (envOfC "_law_number_at" (defScope s__law_number_at) s.heap.objs.size f cdv))) :
    PSs (cxOf CX0 P w K mg base N__law_number_at "_law_number_at" (defScope s__law_number_at) f cdv A outer s H E).nox (defBody s__law_number_at) (t__law_number_at K) := by
  have nd := (sc__law_number_at).nd
  exact (pss_cons (ps_par3 (i := 2) (j := 3) (l := 4) (by rfl) nd rfl rfl rfl (by decide) (by decide) (by decide) rfl rfl rfl (pa_cons pe_int (pa_cons pe_int (pa_cons (kv 1) pa_nil))) (by rfl))
      (pss_cons (ps_if (kt_cmp o_lt (kv 1) pe_int) (pss_one (ps_ret pe_non)) pss_nil)
      (pss_cons (ps_while PassesOwn.never (PW.pt (pw_and (kt_cmp o_lt (kv 4) (pe_callB c_len rfl T.m_len PySem.boot_len (pa_cons (kv 0) pa_nil))) (pw_and1 (kt_cmp o_gt (ke_ix (kv 0) (kv 4)) pe_int)))) (pss_one (ps_par3 (i := 2) (j := 3) (l := 4) (by rfl) nd rfl rfl rfl (by decide) (by decide) (by decide) rfl rfl rfl (pa_cons (pe_op o_add (kv 2) (pe_op o_mulW (kv 3) (pe_op o_sub (ke_ix (kv 0) (kv 4)) pe_int))) (pa_cons (pe_op o_mulW (kv 3) pe_int) (pa_cons (pe_op o_add (kv 4) pe_int) pa_nil))) (by rfl))))
      (pss_cons (ps_if (PW.pt (pw_or (kt_cmp o_ge (kv 4) (pe_callB c_len rfl T.m_len PySem.boot_len (pa_cons (kv 0) pa_nil))) (pw_or1 (PW.pt (pw_and (kt_cmp o_gt (kv 4) (kv 1)) (pw_and1 (kt_cmp o_eq (ke_ix (kv 0) (kv 4)) pe_int))))))) (pss_one (ps_ret pe_non)) pss_nil)
      (pss_one (ps_ret (pe_tup (pa_cons (pe_op o_add (kv 2) (pe_op o_mulW (kv 3) (ke_ix (kv 0) (kv 4)))) (pa_cons (pe_op o_add (kv 4) pe_int) pa_nil)))))))))
theorem cal__law_number_at (T : Tx K mg) (len : ∀ vs H Q E, sp__law_number_at K vs H Q E → vs.length = 2) (rd : ∀ vs H Q E, sp__law_number_at K vs H Q E → t__law_number_at K { nx := fun _ H' => Q .non H', rt := Q } (start N__law_number_at vs) H) : Cal P w K mg base 1 "_law_number_at" ["octets", "at"] (sp__law_number_at K) :=
  T.d__law_number_at.cal sc__law_number_at (fun _ _ _ _ _ _ us hl => match us, hl with | [_, _], _ => rfl) len fun cdv A outer s H vs Q E {f} hr h => ⟨t__law_number_at K, w__law_number_at T hr, rd vs H Q E h⟩
theorem w__law_sum (T : Tx K mg) {f : Addr} {cdv : Value} {A : Around} {outer : List Env} {s : Shared} {H : Hp} {E : XK} (hr : Room 0 (A.deeper (envOfC "_law_sum" (defScope s__law_sum) s.heap.objs.size f cdv))) :
    PSs (cxOf CX0 P w K mg base N__law_sum "_law_sum" (defScope s__law_sum) f cdv A outer s H E).nox (defBody s__law_sum) (t__law_sum K) := by
  have nd := (sc__law_sum).nd
  exact (pss_one (ps_ret (pe_op o_mod (pe_callTy c_int rfl T.m_int (by decide +kernel) (pa_cons (pe_callB (cr_sum rfl) rfl T.m_sum (by decide +kernel) (pa_cons (pe_lc (own := [("at", 1)]) (g := (gName 1)) (tt := tYes) (te := (tOp qMul (tOp (qIx K) (tV 0) (tV 1)) (tOp qAdd (tV 1) (tC (.int 1))))) (by rfl) nd (pi_range1 rfl T.m_range (pa_cons (pe_callB c_len rfl T.m_len PySem.boot_len (pa_cons (kv 0) pa_nil)) pa_nil)) (blkOk_by (N := N__law_sum) (sc := defScope s__law_sum) (by decide +kernel)) (fun _ _ _ _ _ => (pg_name (i := 1) nd rfl (Or.inl rfl))) (fun _ _ _ _ _ => pts_nil) (fun _ _ _ _ _ => (pe_op o_mul (ke_ix (kv 0) (kv 1)) (pe_op o_add (kv 1) pe_int)))) pa_nil)) pa_nil)) pe_int)))
theorem cal__law_sum (T : Tx K mg) (len : ∀ vs H Q E, sp__law_sum K vs H Q E → vs.length = 1) (rd : ∀ vs H Q E, sp__law_sum K vs H Q E → t__law_sum K { nx := fun _ H' => Q .non H', rt := Q } (start N__law_sum vs) H) : Cal P w K mg base 1 "_law_sum" ["octets"] (sp__law_sum K) :=
  T.d__law_sum.cal sc__law_sum (fun _ _ _ _ _ _ us hl => match us, hl with | [_], _ => rfl) len fun cdv A outer s H vs Q E {f} hr h => ⟨t__law_sum K, w__law_sum T hr, rd vs H Q E h⟩
theorem w__law_frames_in (T : Tx K mg) (c__law_number_at : Cal P w K mg base 1 "_law_number_at" ["octets", "at"] (sp__law_number_at K)) (c__law_sum : Cal P w K mg base 1 "_law_sum" ["octets"] (sp__law_sum K)) {f : Addr} {cdv : Value} {A : Around} {outer : List Env} {s : Shared} {H : Hp} {E : XK} (hr : Room 1 (A.deeper (envOfC "_law_frames_in" (defScope s__law_frames_in) s.heap.objs.size f cdv))) :
    PSs (cxOf CX0 P w K mg base N__law_frames_in "_law_frames_in" (defScope s__law_frames_in) f cdv A outer s H E).nox (defBody s__law_frames_in) (t__law_frames_in K) := by
  have nd := (sc__law_frames_in).nd
  exact (pss_cons (ps_par (i := 1) (j := 2) (by rfl) nd rfl rfl (by decide) rfl rfl (pa_cons (pe_lst pa_nil) (pa_cons pe_int pa_nil)) (by rfl))
      (pss_cons (ps_for PassesOwn.never rfl (pi_range1 rfl T.m_range (pa_cons (pe_op o_add (pe_callB c_len rfl T.m_len PySem.boot_len (pa_cons (kv 0) pa_nil)) pe_int) pa_nil)) (pg_name (i := 3) nd rfl (Or.inl rfl)) (pss_cons (ps_set (i := 4) nd rfl (Or.inl rfl) (ke_c c__law_number_at hr (by decide) rfl (pa_cons (kv 0) (pa_cons (kv 2) pa_nil))))
      (pss_cons (ps_if (PW.pt (pw_or (kt_cmp o_isN (kv 4) pe_non) (pw_or1 (kt_cmp o_gt (pe_op o_add (ke_ix (kv 4) pe_int) pe_int) (pe_op o_sub (pe_callB c_len rfl T.m_len PySem.boot_len (pa_cons (kv 0) pa_nil)) (ke_ix (kv 4) pe_int)))))) (pss_one (ps_ret (pe_tup (pa_cons (kv 1) (pa_cons (kv 2) pa_nil))))) pss_nil)
      (pss_cons (ps_par (i := 5) (j := 6) (by rfl) nd rfl rfl (by decide) rfl rfl (pa_cons (pe_slice s_sl (kv 0) (po_s (ke_ix (kv 4) pe_int)) (po_s (pe_op o_add (ke_ix (kv 4) pe_int) (ke_ix (kv 4) pe_int)))) (pa_cons (pe_op o_add (ke_ix (kv 4) pe_int) (ke_ix (kv 4) pe_int)) pa_nil)) (by rfl))
      (pss_cons (ps_set (i := 7) nd rfl (Or.inl rfl) (ke_c c__law_sum hr (by decide) rfl (pa_cons (kv 5) pa_nil)))
      (pss_cons (ps_if (PW.pt (pw_or (kt_cmp o_ne (ke_ix (kv 0) (kv 6)) (pe_op o_mod (pe_callTy c_int rfl T.m_int (by decide +kernel) (pa_cons (kv 7) pa_nil)) pe_int)) (pw_or1 (kt_cmp o_ne (ke_ix (kv 0) (pe_op o_add (kv 6) pe_int)) (pe_op o_div (kv 7) pe_int))))) (pss_one (ps_ret (pe_tup (pa_cons (kv 1) (pa_cons (kv 2) pa_nil))))) pss_nil)
      (pss_one (ps_par (i := 1) (j := 2) (by rfl) nd rfl rfl (by decide) rfl rfl (pa_cons (pe_op op_cat (kv 1) (pe_lst (pa_cons (kv 5) pa_nil))) (pa_cons (pe_op o_add (kv 6) pe_int) pa_nil)) (by rfl)))))))))
      (pss_one (ps_ret (pe_tup (pa_cons (kv 1) (pa_cons (kv 2) pa_nil)))))))
theorem cal__law_frames_in (T : Tx K mg) (c__law_number_at : Cal P w K mg base 1 "_law_number_at" ["octets", "at"] (sp__law_number_at K)) (c__law_sum : Cal P w K mg base 1 "_law_sum" ["octets"] (sp__law_sum K)) (len : ∀ vs H Q E, sp__law_frames_in K vs H Q E → vs.length = 1) (rd : ∀ vs H Q E, sp__law_frames_in K vs H Q E → t__law_frames_in K { nx := fun _ H' => Q .non H', rt := Q } (start N__law_frames_in vs) H) : Cal P w K mg base 2 "_law_frames_in" ["octets"] (sp__law_frames_in K) :=
  T.d__law_frames_in.cal sc__law_frames_in (fun _ _ _ _ _ _ us hl => match us, hl with | [_], _ => rfl) len fun cdv A outer s H vs Q E {f} hr h => ⟨t__law_frames_in K, w__law_frames_in T c__law_number_at c__law_sum hr, rd vs H Q E h⟩
theorem w__law_due (T : Tx K mg) (c__law_frames_in : Cal P w K mg base 2 "_law_frames_in" ["octets"] (sp__law_frames_in K)) {f : Addr} {cdv : Value} {A : Around} {outer : List Env} {s : Shared} {H : Hp} {E : XK} (hr : Room 2 (A.deeper (envOfC "_law_due" (defScope s__law_due) s.heap.objs.size f cdv))) :
    PSs (cxOf CX0 P w K mg base N__law_due "_law_due" (defScope s__law_due) f cdv A outer s H E).nox (defBody s__law_due) (t__law_due K) := by
  have nd := (sc__law_due).nd
  exact (pss_cons (ps_asg (ke_c c__law_frames_in hr (by decide) rfl (pa_cons (kv 0) pa_nil)) (pg_tup (by rfl) (pgs_cons (pg_name (i := 1) nd rfl (Or.inl rfl)) (pgs_cons (pg_name (i := 2) nd rfl (Or.inl rfl)) pgs_nil))))
      (pss_one (ps_ret (pe_tup (pa_cons (pe_callTy c_tuple rfl T.m_tuple (by decide +kernel) (pa_cons (pe_lc (own := [("body", 3)]) (g := (gName 3)) (tt := tYes) (te := (tCB (qTupO K) (tCons (tV 3) tNil))) (by rfl) nd (pi_list (kv 1)) (blkOk_by (N := N__law_due) (sc := defScope s__law_due) (by decide +kernel)) (fun _ _ _ _ _ => (pg_name (i := 3) nd rfl (Or.inl rfl))) (fun _ _ _ _ _ => pts_nil) (fun _ _ _ _ _ => (pe_callTy c_tuple rfl T.m_tuple (by decide +kernel) (pa_cons (kv 3) pa_nil)))) pa_nil)) (pa_cons (kv 2) pa_nil))))))
theorem cal__law_due (T : Tx K mg) (c__law_frames_in : Cal P w K mg base 2 "_law_frames_in" ["octets"] (sp__law_frames_in K)) (len : ∀ vs H Q E, sp__law_due K vs H Q E → vs.length = 1) (rd : ∀ vs H Q E, sp__law_due K vs H Q E → t__law_due K { nx := fun _ H' => Q .non H', rt := Q } (start N__law_due vs) H) : Cal P w K mg base 3 "_law_due" ["octets"] (sp__law_due K) :=
  T.d__law_due.cal sc__law_due (fun _ _ _ _ _ _ us hl => match us, hl with | [_], _ => rfl) len fun cdv A outer s H vs Q E {f} hr h => ⟨t__law_due K, w__law_due T c__law_frames_in hr, rd vs H Q E h⟩
theorem w__law_number_octets (T : Tx K mg) {f : Addr} {cdv : Value} {A : Around} {outer : List Env} {s : Shared} {H : Hp} {E : XK} (hr : Room 0 (A.deeper (envOfC "_law_number_octets" (defScope s__law_number_octets) s.heap.objs.size f cdv))) :
    PSs (cxOf CX0 P w K mg base N__law_number_octets "_law_number_octets" (defScope s__law_number_octets) f cdv A outer s H E).nox (defBody s__law_number_octets) (t__law_number_octets K) := by
  have nd := (sc__law_number_octets).nd
  exact (pss_cons (ps_par (i := 1) (j := 2) (by rfl) nd rfl rfl (by decide) rfl rfl (pa_cons (pe_lst pa_nil) (pa_cons (kv 0) pa_nil)) (by rfl))
      (pss_cons (ps_while PassesOwn.never (kt_cmp o_gt (kv 2) pe_int) (pss_cons (ps_expr (ke_append (kv 1) (pe_op o_add (pe_op o_mod (pe_callTy c_int rfl T.m_int (by decide +kernel) (pa_cons (kv 2) pa_nil)) pe_int) pe_int)))
      (pss_one (ps_set (i := 2) nd rfl (Or.inl rfl) (pe_op o_div (kv 2) pe_int)))))
      (pss_one (ps_ret (pe_op op_cat (kv 1) (pe_lst (pa_cons (kv 2) pa_nil)))))))
theorem cal__law_number_octets (T : Tx K mg) (len : ∀ vs H Q E, sp__law_number_octets K vs H Q E → vs.length = 1) (rd : ∀ vs H Q E, sp__law_number_octets K vs H Q E → t__law_number_octets K { nx := fun _ H' => Q .non H', rt := Q } (start N__law_number_octets vs) H) : Cal P w K mg base 1 "_law_number_octets" ["number"] (sp__law_number_octets K) :=
  T.d__law_number_octets.cal sc__law_number_octets (fun _ _ _ _ _ _ us hl => match us, hl with | [_], _ => rfl) len fun cdv A outer s H vs Q E {f} hr h => ⟨t__law_number_octets K, w__law_number_octets T hr, rd vs H Q E h⟩
theorem w__law_framed (T : Tx K mg) (c__law_number_octets : Cal P w K mg base 1 "_law_number_octets" ["number"] (sp__law_number_octets K)) (c__law_sum : Cal P w K mg base 1 "_law_sum" ["octets"] (sp__law_sum K)) {f : Addr} {cdv : Value} {A : Around} {outer : List Env} {s : Shared} {H : Hp} {E : XK} (hr : Room 1 (A.deeper (envOfC "_law_framed" (defScope s__law_framed) s.heap.objs.size f cdv))) :
    PSs (cxOf CX0 P w K mg base N__law_framed "_law_framed" (defScope s__law_framed) f cdv A outer s H E).nox (defBody s__law_framed) (t__law_framed K) := by
  have nd := (sc__law_framed).nd
  exact (pss_cons (ps_set (i := 1) nd rfl (Or.inl rfl) (ke_c c__law_sum hr (by decide) rfl (pa_cons (kv 0) pa_nil)))
      (pss_one (ps_ret (pe_op op_cat (pe_op op_cat (ke_c c__law_number_octets hr (by decide) rfl (pa_cons (pe_callB c_len rfl T.m_len PySem.boot_len (pa_cons (kv 0) pa_nil)) pa_nil)) (kv 0)) (pe_lst (pa_cons (pe_op o_mod (pe_callTy c_int rfl T.m_int (by decide +kernel) (pa_cons (kv 1) pa_nil)) pe_int) (pa_cons (pe_op o_div (kv 1) pe_int) pa_nil)))))))
theorem cal__law_framed (T : Tx K mg) (c__law_number_octets : Cal P w K mg base 1 "_law_number_octets" ["number"] (sp__law_number_octets K)) (c__law_sum : Cal P w K mg base 1 "_law_sum" ["octets"] (sp__law_sum K)) (len : ∀ vs H Q E, sp__law_framed K vs H Q E → vs.length = 1) (rd : ∀ vs H Q E, sp__law_framed K vs H Q E → t__law_framed K { nx := fun _ H' => Q .non H', rt := Q } (start N__law_framed vs) H) : Cal P w K mg base 2 "_law_framed" ["body"] (sp__law_framed K) :=
  T.d__law_framed.cal sc__law_framed (fun _ _ _ _ _ _ us hl => match us, hl with | [_], _ => rfl) len fun cdv A outer s H vs Q E {f} hr h => ⟨t__law_framed K, w__law_framed T c__law_number_octets c__law_sum hr, rd vs H Q E h⟩
theorem w__law_joined (T : Tx K mg) {f : Addr} {cdv : Value} {A : Around} {outer : List Env} {s : Shared} {H : Hp} {E : XK} (hr : Room 0 (A.deeper (envOfC "_law_joined" (defScope s__law_joined) s.heap.objs.size f cdv))) :
    PSs (cxOf CX0 P w K mg base N__law_joined "_law_joined" (defScope s__law_joined) f cdv A outer s H E).nox (defBody s__law_joined) (t__law_joined K) := by
  have nd := (sc__law_joined).nd
  exact (pss_cons (ps_set (i := 1) nd rfl (Or.inl rfl) (pe_lst pa_nil))
      (pss_cons (ps_for PassesOwn.never rfl (pi_list (kv 0)) (pg_name (i := 2) nd rfl (Or.inl rfl)) (pss_one (ps_set (i := 1) nd rfl (Or.inl rfl) (pe_op op_cat (kv 1) (kv 2)))))
      (pss_one (ps_ret (kv 1)))))
theorem cal__law_joined (T : Tx K mg) (len : ∀ vs H Q E, sp__law_joined K vs H Q E → vs.length = 1) (rd : ∀ vs H Q E, sp__law_joined K vs H Q E → t__law_joined K { nx := fun _ H' => Q .non H', rt := Q } (start N__law_joined vs) H) : Cal P w K mg base 1 "_law_joined" ["rows"] (sp__law_joined K) :=
  T.d__law_joined.cal sc__law_joined (fun _ _ _ _ _ _ us hl => match us, hl with | [_], _ => rfl) len fun cdv A outer s H vs Q E {f} hr h => ⟨t__law_joined K, w__law_joined T hr, rd vs H Q E h⟩
theorem w__law_some_body (T : Tx K mg) (c__law_octet : Cal P w K mg base 3 "_law_octet" ["deal"] (sp__law_octet K)) (c__law_of : Cal P w K mg base 2 "_law_of" ["deal", "some"] (sp__law_of K)) {f : Addr} {cdv : Value} {A : Around} {outer : List Env} {s : Shared} {H : Hp} {E : XK} (hr : Room 3 (A.deeper (envOfC "_law_some_body" (defScope s__law_some_body) s.heap.objs.size f cdv))) :
    PSs (cxOf CX0 P w K mg base N__law_some_body "_law_some_body" (defScope s__law_some_body) f cdv A outer s H E).nox (defBody s__law_some_body) (t__law_some_body K) := by
  have nd := (sc__law_some_body).nd
  exact (pss_cons (ps_set (i := 1) nd rfl (Or.inl rfl) (ke_c c__law_of hr (by decide) rfl (pa_cons (kv 0) (pa_cons (pe_lst (pa_cons pe_int (pa_cons pe_int (pa_cons pe_int (pa_cons pe_int (pa_cons pe_int (pa_cons pe_int (pa_cons pe_int (pa_cons pe_int (pa_cons pe_int (pa_cons pe_int pa_nil))))))))))) pa_nil))))
      (pss_cons (ps_if (kt_cmp o_gt (kv 1) pe_int) (pss_cons (ps_asg (pe_tup (pa_cons (ke_c c__law_octet hr (by decide) rfl (pa_cons (kv 0) pa_nil)) (pa_cons (ke_c c__law_of hr (by decide) rfl (pa_cons (kv 0) (pa_cons (pe_lst (pa_cons pe_int (pa_cons pe_int (pa_cons pe_int (pa_cons pe_int pa_nil))))) pa_nil))) pa_nil))) (pg_tup (by rfl) (pgs_cons (pg_name (i := 2) nd rfl (Or.inr rfl)) (pgs_cons (pg_name (i := 3) nd rfl (Or.inr rfl)) pgs_nil))))
      (pss_one (ps_ret (pe_lc (own := [("turn", 4)]) (g := (gName 4)) (tt := tYes) (te := (tOp qMod (tCB qInt (tCons (tOp qAdd (tV 2) (tOp qMul (tV 4) (tV 3))) tNil)) (tC (.int 256)))) (by rfl) nd (pi_range1 rfl T.m_range (pa_cons (kv 1) pa_nil)) (blkOk_by (N := N__law_some_body) (sc := defScope s__law_some_body) (by decide +kernel)) (fun _ _ _ _ _ => (pg_name (i := 4) nd rfl (Or.inl rfl))) (fun _ _ _ _ _ => pts_nil) (fun _ _ _ _ _ => (pe_op o_mod (pe_callTy c_int rfl T.m_int (by decide +kernel) (pa_cons (pe_op o_add (kv 2) (pe_op o_mul (kv 4) (kv 3))) pa_nil)) pe_int)))))) pss_nil)
      (pss_one (ps_ret (pe_lc (own := [("turn", 4)]) (g := (gName 4)) (tt := tYes) (te := (tCall (sp__law_octet K) [] E0 (tCons (tV 0) tNil))) (by rfl) nd (pi_range1 rfl T.m_range (pa_cons (kv 1) pa_nil)) (blkOk_by (N := N__law_some_body) (sc := defScope s__law_some_body) (by decide +kernel)) (fun _ _ _ _ _ => (pg_name (i := 4) nd rfl (Or.inl rfl))) (fun _ _ _ _ _ => pts_nil) (fun _ _ _ _ _ => (ke_c c__law_octet hr (by decide) rfl (pa_cons (kv 0) pa_nil))))))))
theorem cal__law_some_body (T : Tx K mg) (c__law_octet : Cal P w K mg base 3 "_law_octet" ["deal"] (sp__law_octet K)) (c__law_of : Cal P w K mg base 2 "_law_of" ["deal", "some"] (sp__law_of K)) (len : ∀ vs H Q E, sp__law_some_body K vs H Q E → vs.length = 1) (rd : ∀ vs H Q E, sp__law_some_body K vs H Q E → t__law_some_body K { nx := fun _ H' => Q .non H', rt := Q } (start N__law_some_body vs) H) : Cal P w K mg base 4 "_law_some_body" ["deal"] (sp__law_some_body K) :=
  T.d__law_some_body.cal sc__law_some_body (fun _ _ _ _ _ _ us hl => match us, hl with | [_], _ => rfl) len fun cdv A outer s H vs Q E {f} hr h => ⟨t__law_some_body K, w__law_some_body T c__law_octet c__law_of hr, rd vs H Q E h⟩
theorem w_octets_of_number (T : Tx K mg) {f : Addr} {cdv : Value} {A : Around} {outer : List Env} {s : Shared} {H : Hp} {E : XK} (hr : Room 0 (A.deeper (envOfC "octets_of_number" (defScope s_octets_of_number) s.heap.objs.size f cdv))) :
    PSs (cxOf CX0 P w K mg base N_octets_of_number "octets_of_number" (defScope s_octets_of_number) f cdv A outer s H E).nox (defBody s_octets_of_number) (t_octets_of_number K) := by
  have nd := (sc_octets_of_number).nd
  exact (pss_cons (ps_set (i := 1) nd rfl (Or.inl rfl) (pe_lst pa_nil))
      (pss_cons (ps_set (i := 2) nd rfl (Or.inl rfl) (kv 0))
      (pss_cons (ps_while PassesOwn.never (kt_cmp o_ge (kv 2) (kg_int T.c_BASE rfl)) (pss_cons (ps_expr (ke_append (kv 1) (pe_op o_add (kg_int T.c_BASE rfl) (pe_op o_mod (kv 2) (kg_int T.c_BASE rfl)))))
      (pss_one (ps_set (i := 2) nd rfl (Or.inl rfl) (pe_op o_div (kv 2) (kg_int T.c_BASE rfl))))))
      (pss_cons (ps_expr (ke_append (kv 1) (kv 2)))
      (pss_one (ps_ret (pe_callTy c_tuple rfl T.m_tuple (by decide +kernel) (pa_cons (kv 1) pa_nil))))))))
theorem cal_octets_of_number (T : Tx K mg) (len : ∀ vs H Q E, sp_octets_of_number K vs H Q E → vs.length = 1) (rd : ∀ vs H Q E, sp_octets_of_number K vs H Q E → t_octets_of_number K { nx := fun _ H' => Q .non H', rt := Q } (start N_octets_of_number vs) H) : Cal P w K mg base 1 "octets_of_number" ["number"] (sp_octets_of_number K) :=
  T.d_octets_of_number.cal sc_octets_of_number (fun _ _ _ _ _ _ us hl => match us, hl with | [_], _ => rfl) len fun cdv A outer s H vs Q E {f} hr h => ⟨t_octets_of_number K, w_octets_of_number T hr, rd vs H Q E h⟩
theorem w_number_octets (T : Tx K mg) (c_octets_of_number : Cal P w K mg base 1 "octets_of_number" ["number"] (sp_octets_of_number K)) {f : Addr} {cdv : Value} {A : Around} {outer : List Env} {s : Shared} {H : Hp} {E : XK} (hr : Room 1 (A.deeper (envOfC "number_octets" (defScope s_number_octets) s.heap.objs.size f cdv))) :
    PSs (cxOf CX0 P w K mg base N_number_octets "number_octets" (defScope s_number_octets) f cdv A outer s H E).nox (defBody s_number_octets) (t_number_octets K) := by
  have nd := (sc_number_octets).nd
  exact (pss_one (ps_ret (ke_c c_octets_of_number hr (by decide) rfl (pa_cons (kv 0) pa_nil))))
theorem cal_number_octets (T : Tx K mg) (c_octets_of_number : Cal P w K mg base 1 "octets_of_number" ["number"] (sp_octets_of_number K)) (len : ∀ vs H Q E, sp_number_octets K vs H Q E → vs.length = 1) (rd : ∀ vs H Q E, sp_number_octets K vs H Q E → t_number_octets K { nx := fun _ H' => Q .non H', rt := Q } (start N_number_octets vs) H) : Cal P w K mg base 2 "number_octets" ["number"] (sp_number_octets K) :=
  T.d_number_octets.cal sc_number_octets (fun _ _ _ _ _ _ us hl => match us, hl with | [_], _ => rfl) len fun cdv A outer s H vs Q E {f} hr h => ⟨t_number_octets K, w_number_octets T c_octets_of_number hr, rd vs H Q E h⟩
theorem w_sum_of_octets (T : Tx K mg) {f : Addr} {cdv : Value} {A : Around} {outer : List Env} {s : Shared} {H : Hp} {E : XK} (hr : Room 0 (A.deeper (envOfC "sum_of_octets" (defScope s_sum_of_octets) s.heap.objs.size f cdv))) :
    PSs (cxOf CX0 P w K mg base N_sum_of_octets "sum_of_octets" (defScope s_sum_of_octets) f cdv A outer s H E).nox (defBody s_sum_of_octets) (t_sum_of_octets K) := by
  have nd := (sc_sum_of_octets).nd
  exact (pss_cons (ps_set (i := 1) nd rfl (Or.inl rfl) pe_int)
      (pss_cons (ps_for PassesOwn.never rfl (pi_enumT rfl T.m_enumerate (pa_cons (kv 0) pa_nil)) (pg_tup (by rfl) (pgs_cons (pg_name (i := 2) nd rfl (Or.inl rfl)) (pgs_cons (pg_name (i := 3) nd rfl (Or.inl rfl)) pgs_nil))) (pss_one (ps_augA (i := 1) nd rfl (Or.inl rfl) (pe_op o_mul (pe_op o_add (kv 2) pe_int) (kv 3)))))
      (pss_one (ps_ret (pe_op o_mod (kv 1) (kg_int T.c_PRIME rfl))))))
theorem cal_sum_of_octets (T : Tx K mg) (len : ∀ vs H Q E, sp_sum_of_octets K vs H Q E → vs.length = 1) (rd : ∀ vs H Q E, sp_sum_of_octets K vs H Q E → t_sum_of_octets K { nx := fun _ H' => Q .non H', rt := Q } (start N_sum_of_octets vs) H) : Cal P w K mg base 1 "sum_of_octets" ["octets"] (sp_sum_of_octets K) :=
  T.d_sum_of_octets.cal sc_sum_of_octets (fun _ _ _ _ _ _ us hl => match us, hl with | [_], _ => rfl) len fun cdv A outer s H vs Q E {f} hr h => ⟨t_sum_of_octets K, w_sum_of_octets T hr, rd vs H Q E h⟩
theorem w_sum_pair (T : Tx K mg) (c_sum_of_octets : Cal P w K mg base 1 "sum_of_octets" ["octets"] (sp_sum_of_octets K)) {f : Addr} {cdv : Value} {A : Around} {outer : List Env} {s : Shared} {H : Hp} {E : XK} (hr : Room 1 (A.deeper (envOfC "sum_pair" (defScope s_sum_pair) s.heap.objs.size f cdv))) :
    PSs (cxOf CX0 P w K mg base N_sum_pair "sum_pair" (defScope s_sum_pair) f cdv A outer s H E).nox (defBody s_sum_pair) (t_sum_pair K) := by
  have nd := (sc_sum_pair).nd
  exact (pss_cons (ps_set (i := 1) nd rfl (Or.inl rfl) (ke_c c_sum_of_octets hr (by decide) rfl (pa_cons (kv 0) pa_nil)))
      (pss_one (ps_ret (pe_tup (pa_cons (pe_op o_mod (kv 1) (kg_int T.c_OCTET rfl)) (pa_cons (pe_op o_div (kv 1) (kg_int T.c_OCTET rfl)) pa_nil))))))
theorem cal_sum_pair (T : Tx K mg) (c_sum_of_octets : Cal P w K mg base 1 "sum_of_octets" ["octets"] (sp_sum_of_octets K)) (len : ∀ vs H Q E, sp_sum_pair K vs H Q E → vs.length = 1) (rd : ∀ vs H Q E, sp_sum_pair K vs H Q E → t_sum_pair K { nx := fun _ H' => Q .non H', rt := Q } (start N_sum_pair vs) H) : Cal P w K mg base 2 "sum_pair" ["body"] (sp_sum_pair K) :=
  T.d_sum_pair.cal sc_sum_pair (fun _ _ _ _ _ _ us hl => match us, hl with | [_], _ => rfl) len fun cdv A outer s H vs Q E {f} hr h => ⟨t_sum_pair K, w_sum_pair T c_sum_of_octets hr, rd vs H Q E h⟩
theorem w_frame (T : Tx K mg) (c_number_octets : Cal P w K mg base 2 "number_octets" ["number"] (sp_number_octets K)) (c_sum_pair : Cal P w K mg base 2 "sum_pair" ["body"] (sp_sum_pair K)) {f : Addr} {cdv : Value} {A : Around} {outer : List Env} {s : Shared} {H : Hp} {E : XK} (hr : Room 2 (A.deeper (envOfC "frame" (defScope s_frame) s.heap.objs.size f cdv))) :
    PSs (cxOf CX0 P w K mg base N_frame "frame" (defScope s_frame) f cdv A outer s H E).nox (defBody s_frame) (t_frame K) := by
  have nd := (sc_frame).nd
  exact (pss_one (ps_ret (pe_op o_catT (pe_op o_catT (ke_c c_number_octets hr (by decide) rfl (pa_cons (pe_callB c_len rfl T.m_len PySem.boot_len (pa_cons (kv 0) pa_nil)) pa_nil)) (pe_callTy c_tuple rfl T.m_tuple (by decide +kernel) (pa_cons (kv 0) pa_nil))) (ke_c c_sum_pair hr (by decide) rfl (pa_cons (kv 0) pa_nil)))))
theorem cal_frame (T : Tx K mg) (c_number_octets : Cal P w K mg base 2 "number_octets" ["number"] (sp_number_octets K)) (c_sum_pair : Cal P w K mg base 2 "sum_pair" ["body"] (sp_sum_pair K)) (len : ∀ vs H Q E, sp_frame K vs H Q E → vs.length = 1) (rd : ∀ vs H Q E, sp_frame K vs H Q E → t_frame K { nx := fun _ H' => Q .non H', rt := Q } (start N_frame vs) H) : Cal P w K mg base 3 "frame" ["body"] (sp_frame K) :=
  T.d_frame.cal sc_frame (fun _ _ _ _ _ _ us hl => match us, hl with | [_], _ => rfl) len fun cdv A outer s H vs Q E {f} hr h => ⟨t_frame K, w_frame T c_number_octets c_sum_pair hr, rd vs H Q E h⟩
theorem calk_frame (T : Tx K mg) (c_number_octets : Cal P w K mg base 2 "number_octets" ["number"] (sp_number_octets K)) (c_sum_pair : Cal P w K mg base 2 "sum_pair" ["body"] (sp_sum_pair K)) (len : ∀ vs H Q E, sp_frame K vs H Q E → vs.length = 1) (rd : ∀ vs H Q E, sp_frame K vs H Q E → t_frame K { nx := fun _ H' => Q .non H', rt := Q } (start N_frame vs) H) : CalK P w K mg base 3 "frame" ["body"] (sp_frame K) :=
  T.d_frame.calk sc_frame (fun _ _ _ _ _ _ us hl => match us, hl with | [_], _ => rfl) len fun cdv A outer s H vs Q E {f} hr h => ⟨t_frame K, w_frame T c_number_octets c_sum_pair hr, rd vs H Q E h⟩
theorem w_behind_number (T : Tx K mg) {f : Addr} {cdv : Value} {A : Around} {outer : List Env} {s : Shared} {H : Hp} {E : XK} (hr : Room 0 (A.deeper (envOfC "behind_number" (defScope s_behind_number) s.heap.objs.size f cdv))) :
    PSs (cxOf CX0 P w K mg base N_behind_number "behind_number" (defScope s_behind_number) f cdv A outer s H E).nox (defBody s_behind_number) (t_behind_number K) := by
  have nd := (sc_behind_number).nd
  exact (pss_cons (ps_if (kt_cmp o_lt (kv 1) pe_int) (pss_one (ps_ret pe_non)) pss_nil)
      (pss_cons (ps_for PassesOwn.never rfl (pi_range2 rfl T.m_range (pa_cons (kv 1) (pa_cons (pe_callB c_len rfl T.m_len PySem.boot_len (pa_cons (kv 0) pa_nil)) pa_nil))) (pg_name (i := 2) nd rfl (Or.inl rfl)) (pss_one (ps_if (kt_cmp o_lt (ke_ix (kv 0) (kv 2)) (kg_int T.c_BASE rfl)) (pss_one (ps_ret (pe_op o_add (kv 2) pe_int))) pss_nil)))
      (pss_one (ps_ret pe_non))))
theorem cal_behind_number (T : Tx K mg) (len : ∀ vs H Q E, sp_behind_number K vs H Q E → vs.length = 2) (rd : ∀ vs H Q E, sp_behind_number K vs H Q E → t_behind_number K { nx := fun _ H' => Q .non H', rt := Q } (start N_behind_number vs) H) : Cal P w K mg base 1 "behind_number" ["octets", "at"] (sp_behind_number K) :=
  T.d_behind_number.cal sc_behind_number (fun _ _ _ _ _ _ us hl => match us, hl with | [_, _], _ => rfl) len fun cdv A outer s H vs Q E {f} hr h => ⟨t_behind_number K, w_behind_number T hr, rd vs H Q E h⟩
theorem w_number_of (T : Tx K mg) {f : Addr} {cdv : Value} {A : Around} {outer : List Env} {s : Shared} {H : Hp} {E : XK} (hr : Room 0 (A.deeper (envOfC "number_of" (defScope s_number_of) s.heap.objs.size f cdv))) :
    PSs (cxOf CX0 P w K mg base N_number_of "number_of" (defScope s_number_of) f cdv A outer s H E).nox (defBody s_number_of) (t_number_of K) := by
  have nd := (sc_number_of).nd
  exact (pss_cons (ps_asg (pe_tup (pa_cons (pe_callTy c_list rfl T.m_list (by decide +kernel) (pa_cons (kv 0) pa_nil)) (pa_cons (kg_int T.c_BASE rfl) pa_nil))) (pg_tup (by rfl) (pgs_cons (pg_name (i := 1) nd rfl (Or.inr rfl)) (pgs_cons (pg_name (i := 2) nd rfl (Or.inr rfl)) pgs_nil))))
      (pss_cons (ps_while PassesOwn.never (kt_cmp o_gt (pe_callB c_len rfl T.m_len PySem.boot_len (pa_cons (kv 1) pa_nil)) pe_int) (pss_cons (ps_setLc (i := 3) (own := [("at", 4)]) (g := (gName 4)) (tt := tYes) (te := (tOp qAdd (tOp (qIx K) (tV 1) (tV 4)) (tOp qMulW (tV 2) (tOp (qIx K) (tV 1) (tOp qAdd (tV 4) (tC (.int 1))))))) (by rfl) nd rfl rfl (sw_true rfl rfl rfl (by decide +kernel)) (pi_range3 rfl T.m_range (pa_cons pe_int (pa_cons (pe_op o_sub (pe_callB c_len rfl T.m_len PySem.boot_len (pa_cons (kv 1) pa_nil)) pe_int) (pa_cons pe_int pa_nil)))) (blkOk_by (N := N_number_of) (sc := defScope s_number_of) (by decide +kernel)) (fun _ _ _ _ _ => (pg_name (i := 4) nd rfl (Or.inl rfl))) (fun _ _ _ _ _ => pts_nil) (fun _ _ _ _ _ => (pe_op o_add (ke_ix (kv 1) (kv 4)) (pe_op o_mulW (kv 2) (ke_ix (kv 1) (pe_op o_add (kv 4) pe_int))))))
      (pss_cons (ps_if (kt_cmp o_eq (pe_op o_mod (pe_callB c_len rfl T.m_len PySem.boot_len (pa_cons (kv 1) pa_nil)) pe_int) pe_int) (pss_one (ps_expr (ke_append (kv 3) (ke_ix (kv 1) (pe_op o_sub (pe_callB c_len rfl T.m_len PySem.boot_len (pa_cons (kv 1) pa_nil)) pe_int))))) pss_nil)
      (pss_cons (ps_set (i := 1) nd rfl (Or.inr rfl) (kv 3))
      (pss_one (ps_set (i := 2) nd rfl (Or.inr rfl) (pe_op o_mulW (kv 2) (kv 2))))))))
      (pss_one (ps_ret (ke_ix (kv 1) pe_int)))))
theorem cal_number_of (T : Tx K mg) (len : ∀ vs H Q E, sp_number_of K vs H Q E → vs.length = 1) (rd : ∀ vs H Q E, sp_number_of K vs H Q E → t_number_of K { nx := fun _ H' => Q .non H', rt := Q } (start N_number_of vs) H) : Cal P w K mg base 1 "number_of" ["figures"] (sp_number_of K) :=
  T.d_number_of.cal sc_number_of (fun _ _ _ _ _ _ us hl => match us, hl with | [_], _ => rfl) len fun cdv A outer s H vs Q E {f} hr h => ⟨t_number_of K, w_number_of T hr, rd vs H Q E h⟩
theorem w_number_in (T : Tx K mg) (c_behind_number : Cal P w K mg base 1 "behind_number" ["octets", "at"] (sp_behind_number K)) (c_number_of : Cal P w K mg base 1 "number_of" ["figures"] (sp_number_of K)) {f : Addr} {cdv : Value} {A : Around} {outer : List Env} {s : Shared} {H : Hp} {E : XK} (hr : Room 1 (A.deeper (envOfC "number_in" (defScope s_number_in) s.heap.objs.size f cdv))) :
    PSs (cxOf CX0 P w K mg base N_number_in "number_in" (defScope s_number_in) f cdv A outer s H E).nox (defBody s_number_in) (t_number_in K) := by
  have nd := (sc_number_in).nd
  exact (pss_cons (ps_set (i := 2) nd rfl (Or.inl rfl) (ke_c c_behind_number hr (by decide) rfl (pa_cons (kv 0) (pa_cons (kv 1) pa_nil))))
      (pss_cons (ps_if (PW.pt (pw_or (kt_cmp o_isN (kv 2) pe_non) (pw_or1 (PW.pt (pw_and (kt_cmp o_gt (pe_op o_sub (kv 2) (kv 1)) pe_int) (pw_and1 (kt_cmp o_eq (ke_ix (kv 0) (pe_op o_sub (kv 2) pe_int)) pe_int))))))) (pss_one (ps_ret pe_non)) pss_nil)
      (pss_cons (ps_set (i := 3) nd rfl (Or.inl rfl) (pe_op op_cat (pe_lc (own := [("octet", 4)]) (g := (gName 4)) (tt := tYes) (te := (tOp qSub (tV 4) (tC (.int 128)))) (by rfl) nd (pi_tup (pe_slice s_sl (kv 0) (po_s (kv 1)) (po_s (pe_op o_sub (kv 2) pe_int)))) (blkOk_by (N := N_number_in) (sc := defScope s_number_in) (by decide +kernel)) (fun _ _ _ _ _ => (pg_name (i := 4) nd rfl (Or.inl rfl))) (fun _ _ _ _ _ => pts_nil) (fun _ _ _ _ _ => (pe_op o_sub (kv 4) (kg_int T.c_BASE rfl)))) (pe_lst (pa_cons (ke_ix (kv 0) (pe_op o_sub (kv 2) pe_int)) pa_nil))))
      (pss_one (ps_ret (pe_tup (pa_cons (ke_c c_number_of hr (by decide) rfl (pa_cons (kv 3) pa_nil)) (pa_cons (kv 2) pa_nil))))))))
theorem cal_number_in (T : Tx K mg) (c_behind_number : Cal P w K mg base 1 "behind_number" ["octets", "at"] (sp_behind_number K)) (c_number_of : Cal P w K mg base 1 "number_of" ["figures"] (sp_number_of K)) (len : ∀ vs H Q E, sp_number_in K vs H Q E → vs.length = 2) (rd : ∀ vs H Q E, sp_number_in K vs H Q E → t_number_in K { nx := fun _ H' => Q .non H', rt := Q } (start N_number_in vs) H) : Cal P w K mg base 2 "number_in" ["octets", "at"] (sp_number_in K) :=
  T.d_number_in.cal sc_number_in (fun _ _ _ _ _ _ us hl => match us, hl with | [_, _], _ => rfl) len fun cdv A outer s H vs Q E {f} hr h => ⟨t_number_in K, w_number_in T c_behind_number c_number_of hr, rd vs H Q E h⟩
theorem w_frame_at (T : Tx K mg) (c_number_in : Cal P w K mg base 2 "number_in" ["octets", "at"] (sp_number_in K)) (c_sum_pair : Cal P w K mg base 2 "sum_pair" ["body"] (sp_sum_pair K)) {f : Addr} {cdv : Value} {A : Around} {outer : List Env} {s : Shared} {H : Hp} {E : XK} (hr : Room 2 (A.deeper (envOfC "frame_at" (defScope s_frame_at) s.heap.objs.size f cdv))) :
    PSs (cxOf CX0 P w K mg base N_frame_at "frame_at" (defScope s_frame_at) f cdv A outer s H E).nox (defBody s_frame_at) (t_frame_at K) := by
  have nd := (sc_frame_at).nd
  exact (pss_cons (ps_set (i := 2) nd rfl (Or.inl rfl) (ke_c c_number_in hr (by decide) rfl (pa_cons (kv 0) (pa_cons (kv 1) pa_nil))))
      (pss_cons (ps_if (PW.pt (pw_or (kt_cmp o_isN (kv 2) pe_non) (pw_or1 (kt_cmp o_gt (pe_op o_add (ke_ix (kv 2) pe_int) (kg_int T.c_SUM_OCTETS rfl)) (pe_op o_sub (pe_callB c_len rfl T.m_len PySem.boot_len (pa_cons (kv 0) pa_nil)) (ke_ix (kv 2) pe_int)))))) (pss_one (ps_ret pe_non)) pss_nil)
      (pss_cons (ps_set (i := 3) nd rfl (Or.inl rfl) (pe_op o_add (ke_ix (kv 2) pe_int) (ke_ix (kv 2) pe_int)))
      (pss_cons (ps_set (i := 4) nd rfl (Or.inl rfl) (pe_slice s_sl (kv 0) (po_s (ke_ix (kv 2) pe_int)) (po_s (kv 3))))
      (pss_cons (ps_if (kt_cmp (op_neD hr.units) (pe_slice s_sl (kv 0) (po_s (kv 3)) (po_s (pe_op o_add (kv 3) (kg_int T.c_SUM_OCTETS rfl)))) (ke_c c_sum_pair hr (by decide) rfl (pa_cons (kv 4) pa_nil))) (pss_one (ps_ret pe_non)) pss_nil)
      (pss_one (ps_ret (pe_tup (pa_cons (kv 4) (pa_cons (pe_op o_add (kv 3) (kg_int T.c_SUM_OCTETS rfl)) pa_nil))))))))))
theorem cal_frame_at (T : Tx K mg) (c_number_in : Cal P w K mg base 2 "number_in" ["octets", "at"] (sp_number_in K)) (c_sum_pair : Cal P w K mg base 2 "sum_pair" ["body"] (sp_sum_pair K)) (len : ∀ vs H Q E, sp_frame_at K vs H Q E → vs.length = 2) (rd : ∀ vs H Q E, sp_frame_at K vs H Q E → t_frame_at K { nx := fun _ H' => Q .non H', rt := Q } (start N_frame_at vs) H) : Cal P w K mg base 3 "frame_at" ["octets", "at"] (sp_frame_at K) :=
  T.d_frame_at.cal sc_frame_at (fun _ _ _ _ _ _ us hl => match us, hl with | [_, _], _ => rfl) len fun cdv A outer s H vs Q E {f} hr h => ⟨t_frame_at K, w_frame_at T c_number_in c_sum_pair hr, rd vs H Q E h⟩
theorem w_frames (T : Tx K mg) (c_frame_at : Cal P w K mg base 3 "frame_at" ["octets", "at"] (sp_frame_at K)) {f : Addr} {cdv : Value} {A : Around} {outer : List Env} {s : Shared} {H : Hp} {E : XK} (hr : Room 3 (A.deeper (envOfC "frames" (defScope s_frames) s.heap.objs.size f cdv))) :
    PSs (cxOf CX0 P w K mg base N_frames "frames" (defScope s_frames) f cdv A outer s H E).nox (defBody s_frames) (t_frames K) := by
  have nd := (sc_frames).nd
  exact (pss_cons (ps_set (i := 0) nd rfl (Or.inl rfl) (pe_callTy c_tuple rfl T.m_tuple (by decide +kernel) (pa_cons (kv 0) pa_nil)))
      (pss_cons (ps_par (i := 1) (j := 2) (by rfl) nd rfl rfl (by decide) rfl rfl (pa_cons (pe_lst pa_nil) (pa_cons pe_int pa_nil)) (by rfl))
      (pss_cons (ps_set (i := 3) nd rfl (Or.inl rfl) (ke_c c_frame_at hr (by decide) rfl (pa_cons (kv 0) (pa_cons pe_int pa_nil))))
      (pss_cons (ps_while PassesOwn.never (kt_cmp o_notN (kv 3) pe_non) (pss_cons (ps_expr (ke_append (kv 1) (ke_ix (kv 3) pe_int)))
      (pss_cons (ps_set (i := 2) nd rfl (Or.inl rfl) (ke_ix (kv 3) pe_int))
      (pss_one (ps_set (i := 3) nd rfl (Or.inl rfl) (ke_c c_frame_at hr (by decide) rfl (pa_cons (kv 0) (pa_cons (kv 2) pa_nil))))))))
      (pss_one (ps_ret (pe_tup (pa_cons (pe_callTy c_tuple rfl T.m_tuple (by decide +kernel) (pa_cons (kv 1) pa_nil)) (pa_cons (kv 2) pa_nil)))))))))
theorem cal_frames (T : Tx K mg) (c_frame_at : Cal P w K mg base 3 "frame_at" ["octets", "at"] (sp_frame_at K)) (len : ∀ vs H Q E, sp_frames K vs H Q E → vs.length = 1) (rd : ∀ vs H Q E, sp_frames K vs H Q E → t_frames K { nx := fun _ H' => Q .non H', rt := Q } (start N_frames vs) H) : Cal P w K mg base 4 "frames" ["octets"] (sp_frames K) :=
  T.d_frames.cal sc_frames (fun _ _ _ _ _ _ us hl => match us, hl with | [_], _ => rfl) len fun cdv A outer s H vs Q E {f} hr h => ⟨t_frames K, w_frames T c_frame_at hr, rd vs H Q E h⟩
theorem calk_frames (T : Tx K mg) (c_frame_at : Cal P w K mg base 3 "frame_at" ["octets", "at"] (sp_frame_at K)) (len : ∀ vs H Q E, sp_frames K vs H Q E → vs.length = 1) (rd : ∀ vs H Q E, sp_frames K vs H Q E → t_frames K { nx := fun _ H' => Q .non H', rt := Q } (start N_frames vs) H) : CalK P w K mg base 4 "frames" ["octets"] (sp_frames K) :=
  T.d_frames.calk sc_frames (fun _ _ _ _ _ _ us hl => match us, hl with | [_], _ => rfl) len fun cdv A outer s H vs Q E {f} hr h => ⟨t_frames K, w_frames T c_frame_at hr, rd vs H Q E h⟩
theorem w_law (T : Tx K mg) (c__law_all : Cal P w K mg base 3 "_law_all" ["pairs"] (sp__law_all K)) (c__law_any : Cal P w K mg base 1 "_law_any" ["deal", "bound"] (sp__law_any K)) (c__law_bent : Cal P w K mg base 4 "_law_bent" ["deal", "octets"] (sp__law_bent K)) (c__law_deal : Cal P w K mg base 1 "_law_deal" ["script", "salt"] (sp__law_deal K)) (c__law_due : Cal P w K mg base 3 "_law_due" ["octets"] (sp__law_due K)) (c__law_framed : Cal P w K mg base 2 "_law_framed" ["body"] (sp__law_framed K)) (c__law_joined : Cal P w K mg base 1 "_law_joined" ["rows"] (sp__law_joined K)) (c__law_octet : Cal P w K mg base 3 "_law_octet" ["deal"] (sp__law_octet K)) (c__law_of : Cal P w K mg base 2 "_law_of" ["deal", "some"] (sp__law_of K)) (c__law_some_body : Cal P w K mg base 4 "_law_some_body" ["deal"] (sp__law_some_body K)) (c__law_sum : Cal P w K mg base 1 "_law_sum" ["octets"] (sp__law_sum K)) (c_frame : Cal P w K mg base 3 "frame" ["body"] (sp_frame K)) (ck_frame : CalK P w K mg base 3 "frame" ["body"] (sp_frame K)) (c_frames : Cal P w K mg base 4 "frames" ["octets"] (sp_frames K)) (ck_frames : CalK P w K mg base 4 "frames" ["octets"] (sp_frames K)) {f : Addr} {cdv : Value} {A : Around} {outer : List Env} {s : Shared} {H : Hp} {E : XK} (hr : Room 4 (A.deeper (envOfC "law" (defScope s_law) s.heap.objs.size f cdv))) :
    PSs (cxOf CX0 P w K mg base N_law "law" (defScope s_law) f cdv A outer s H E).nox (defBody s_law) (t_law K) := by
  have nd := (sc_law).nd
  exact (pss_cons (ps_set (i := 1) nd rfl (Or.inr rfl) (ke_c c__law_deal hr (by decide) rfl (pa_cons (kv 0) (pa_cons pe_int pa_nil))))
      (pss_cons (ps_par (i := 2) (j := 3) (by rfl) nd rfl rfl (by decide) rfl rfl (pa_cons (pe_lst pa_nil) (pa_cons (pe_lst pa_nil) pa_nil)) (by rfl))
      (pss_cons (ps_for PassesOwn.never rfl (pi_range1 rfl T.m_range (pa_cons (ke_c c__law_of hr (by decide) rfl (pa_cons (kv 1) (pa_cons (pe_lst (pa_cons pe_int (pa_cons pe_int (pa_cons pe_int (pa_cons pe_int pa_nil))))) pa_nil))) pa_nil)) (pg_name (i := 4) nd rfl (Or.inl rfl)) (pss_cons (ps_set (i := 5) nd rfl (Or.inl rfl) (ke_c c__law_some_body hr (by decide) rfl (pa_cons (kv 1) pa_nil)))
      (pss_cons (ps_set (i := 6) nd rfl (Or.inl rfl) (ke_c c__law_framed hr (by decide) rfl (pa_cons (kv 5) pa_nil)))
      (pss_cons (ps_expr (ke_append (kv 2) (pe_tup (pa_cons (pe_ifExp (kt_cmp o_lt (kv 4) pe_int) (ke_c c_frame hr (by decide) rfl (pa_cons (pe_callTy c_tuple rfl T.m_tuple (by decide +kernel) (pa_cons (kv 5) pa_nil)) pa_nil)) (ke_ck ck_frame hr (by decide) rfl (pk_cons (pe_callTy c_tuple rfl T.m_tuple (by decide +kernel) (pa_cons (kv 5) pa_nil)) pk_nil))) (pa_cons (pe_callTy c_tuple rfl T.m_tuple (by decide +kernel) (pa_cons (kv 6) pa_nil)) pa_nil)))))
      (pss_one (ps_expr (ke_append (kv 3) (pe_tup (pa_cons (kv 5) (pa_cons (kv 6) pa_nil))))))))))
      (pss_cons (ps_set (i := 7) nd rfl (Or.inl rfl) (ke_c c__law_joined hr (by decide) rfl (pa_cons (pe_lc (own := [("body", 5), ("row", 6)]) (g := (gTup K 2 (gCons (gName 5) (gCons (gName 6) gNil)))) (tt := tYes) (te := (tV 6)) (by rfl) nd (pi_list (kv 3)) (blkOk_by (N := N_law) (sc := defScope s_law) (by decide +kernel)) (fun _ _ _ _ _ => (pg_tup (by rfl) (pgs_cons (pg_name (i := 5) nd rfl (Or.inl rfl)) (pgs_cons (pg_name (i := 6) nd rfl (Or.inl rfl)) pgs_nil)))) (fun _ _ _ _ _ => pts_nil) (fun _ _ _ _ _ => (kv 6))) pa_nil)))
      (pss_cons (ps_expr (ke_append (kv 2) (pe_tup (pa_cons (ke_c c_frames hr (by decide) rfl (pa_cons (pe_callTy c_tuple rfl T.m_tuple (by decide +kernel) (pa_cons (kv 7) pa_nil)) pa_nil)) (pa_cons (pe_tup (pa_cons (pe_callTy c_tuple rfl T.m_tuple (by decide +kernel) (pa_cons (pe_lc (own := [("body", 5), ("row", 6)]) (g := (gTup K 2 (gCons (gName 5) (gCons (gName 6) gNil)))) (tt := tYes) (te := (tCB (qTupO K) (tCons (tV 5) tNil))) (by rfl) nd (pi_list (kv 3)) (blkOk_by (N := N_law) (sc := defScope s_law) (by decide +kernel)) (fun _ _ _ _ _ => (pg_tup (by rfl) (pgs_cons (pg_name (i := 5) nd rfl (Or.inl rfl)) (pgs_cons (pg_name (i := 6) nd rfl (Or.inl rfl)) pgs_nil)))) (fun _ _ _ _ _ => pts_nil) (fun _ _ _ _ _ => (pe_callTy c_tuple rfl T.m_tuple (by decide +kernel) (pa_cons (kv 5) pa_nil)))) pa_nil)) (pa_cons (pe_callB c_len rfl T.m_len PySem.boot_len (pa_cons (kv 7) pa_nil)) pa_nil))) pa_nil)))))
      (pss_cons (ps_for PassesOwn.never rfl (pi_range1 rfl T.m_range (pa_cons pe_int pa_nil)) (pg_name (i := 4) nd rfl (Or.inl rfl)) (pss_cons (ps_set (i := 8) nd rfl (Or.inl rfl) (ke_c c__law_any hr (by decide) rfl (pa_cons (kv 1) (pa_cons (pe_callB c_len rfl T.m_len PySem.boot_len (pa_cons (kv 3) pa_nil)) pa_nil))))
      (pss_cons (ps_set (i := 9) nd rfl (Or.inl rfl) (ke_c c__law_joined hr (by decide) rfl (pa_cons (pe_lc (own := [("body", 5), ("row", 6)]) (g := (gTup K 2 (gCons (gName 5) (gCons (gName 6) gNil)))) (tt := tYes) (te := (tV 6)) (by rfl) nd (pi_list (pe_slice s_sl (kv 3) po_none (po_s (kv 8)))) (blkOk_by (N := N_law) (sc := defScope s_law) (by decide +kernel)) (fun _ _ _ _ _ => (pg_tup (by rfl) (pgs_cons (pg_name (i := 5) nd rfl (Or.inl rfl)) (pgs_cons (pg_name (i := 6) nd rfl (Or.inl rfl)) pgs_nil)))) (fun _ _ _ _ _ => pts_nil) (fun _ _ _ _ _ => (kv 6))) pa_nil)))
      (pss_cons (ps_set (i := 10) nd rfl (Or.inl rfl) (ke_ix (ke_ix (kv 3) (kv 8)) pe_int))
      (pss_cons (ps_set (i := 11) nd rfl (Or.inl rfl) (pe_op op_cat (kv 9) (pe_slice s_sl (kv 10) po_none (po_s (ke_c c__law_any hr (by decide) rfl (pa_cons (kv 1) (pa_cons (pe_callB c_len rfl T.m_len PySem.boot_len (pa_cons (kv 10) pa_nil)) pa_nil)))))))
      (pss_cons (ps_expr (ke_append (kv 2) (pe_tup (pa_cons (ke_ck ck_frames hr (by decide) rfl (pk_cons (pe_callTy c_tuple rfl T.m_tuple (by decide +kernel) (pa_cons (kv 11) pa_nil)) pk_nil)) (pa_cons (pe_tup (pa_cons (pe_callTy c_tuple rfl T.m_tuple (by decide +kernel) (pa_cons (pe_lc (own := [("body", 5), ("row", 6)]) (g := (gTup K 2 (gCons (gName 5) (gCons (gName 6) gNil)))) (tt := tYes) (te := (tCB (qTupO K) (tCons (tV 5) tNil))) (by rfl) nd (pi_list (pe_slice s_sl (kv 3) po_none (po_s (kv 8)))) (blkOk_by (N := N_law) (sc := defScope s_law) (by decide +kernel)) (fun _ _ _ _ _ => (pg_tup (by rfl) (pgs_cons (pg_name (i := 5) nd rfl (Or.inl rfl)) (pgs_cons (pg_name (i := 6) nd rfl (Or.inl rfl)) pgs_nil)))) (fun _ _ _ _ _ => pts_nil) (fun _ _ _ _ _ => (pe_callTy c_tuple rfl T.m_tuple (by decide +kernel) (pa_cons (kv 5) pa_nil)))) pa_nil)) (pa_cons (pe_callB c_len rfl T.m_len PySem.boot_len (pa_cons (kv 9) pa_nil)) pa_nil))) pa_nil)))))
      (pss_cons (ps_expr (ke_append (kv 2) (pe_tup (pa_cons (ke_c c_frames hr (by decide) rfl (pa_cons (pe_callTy c_tuple rfl T.m_tuple (by decide +kernel) (pa_cons (pe_op op_cat (kv 9) (kv 10)) pa_nil)) pa_nil)) (pa_cons (pe_tup (pa_cons (pe_callTy c_tuple rfl T.m_tuple (by decide +kernel) (pa_cons (pe_lc (own := [("body", 5), ("row", 6)]) (g := (gTup K 2 (gCons (gName 5) (gCons (gName 6) gNil)))) (tt := tYes) (te := (tCB (qTupO K) (tCons (tV 5) tNil))) (by rfl) nd (pi_list (pe_slice s_sl (kv 3) po_none (po_s (pe_op o_add (kv 8) pe_int)))) (blkOk_by (N := N_law) (sc := defScope s_law) (by decide +kernel)) (fun _ _ _ _ _ => (pg_tup (by rfl) (pgs_cons (pg_name (i := 5) nd rfl (Or.inl rfl)) (pgs_cons (pg_name (i := 6) nd rfl (Or.inl rfl)) pgs_nil)))) (fun _ _ _ _ _ => pts_nil) (fun _ _ _ _ _ => (pe_callTy c_tuple rfl T.m_tuple (by decide +kernel) (pa_cons (kv 5) pa_nil)))) pa_nil)) (pa_cons (pe_callB c_len rfl T.m_len PySem.boot_len (pa_cons (pe_op op_cat (kv 9) (kv 10)) pa_nil)) pa_nil))) pa_nil)))))
      (pss_cons (ps_set (i := 12) nd rfl (Or.inl rfl) (ke_c c__law_bent hr (by decide) rfl (pa_cons (kv 1) (pa_cons (kv 7) pa_nil))))
      (pss_cons (ps_expr (ke_append (kv 2) (pe_tup (pa_cons (ke_c c_frames hr (by decide) rfl (pa_cons (pe_callTy c_tuple rfl T.m_tuple (by decide +kernel) (pa_cons (kv 12) pa_nil)) pa_nil)) (pa_cons (ke_c c__law_due hr (by decide) rfl (pa_cons (kv 12) pa_nil)) pa_nil)))))
      (pss_cons (ps_set (i := 13) nd rfl (Or.inl rfl) (ke_c c__law_of hr (by decide) rfl (pa_cons (kv 1) (pa_cons (pe_lst (pa_cons (pe_lst (pa_cons pe_int (pa_cons pe_int (pa_cons pe_int pa_nil)))) (pa_cons (pe_lst (pa_cons pe_int (pa_cons pe_int (pa_cons pe_int (pa_cons pe_int pa_nil))))) (pa_cons (pe_lst (pa_cons pe_int (pa_cons pe_int (pa_cons pe_int pa_nil)))) (pa_cons (pe_lst (pa_cons pe_int (pa_cons pe_int (pa_cons pe_int (pa_cons pe_int pa_nil))))) (pa_cons (pe_lst (pa_cons pe_int (pa_cons pe_int (pa_cons pe_int (pa_cons pe_int pa_nil))))) (pa_cons (pe_lst (pa_cons pe_int pa_nil)) (pa_cons (pe_lst (pa_cons pe_int (pa_cons pe_int (pa_cons pe_int (pa_cons pe_int (pa_cons pe_int pa_nil)))))) (pa_cons (pe_lst (pa_cons pe_int (pa_cons pe_int (pa_cons pe_int (pa_cons pe_int (pa_cons pe_int pa_nil)))))) pa_nil))))))))) pa_nil))))
      (pss_cons (ps_set (i := 14) nd rfl (Or.inl rfl) (pe_op op_cat (pe_op op_cat (pe_op op_cat (kv 9) (kv 13)) (kv 10)) (pe_lc (own := [("number", 17)]) (g := (gName 17)) (tt := tYes) (te := (tCall (sp__law_octet K) [] E0 (tCons (tV 1) tNil))) (by rfl) nd (pi_range1 rfl T.m_range (pa_cons (ke_c c__law_any hr (by decide) rfl (pa_cons (kv 1) (pa_cons pe_int pa_nil))) pa_nil)) (blkOk_by (N := N_law) (sc := defScope s_law) (by decide +kernel)) (fun _ _ _ _ _ => (pg_name (i := 17) nd rfl (Or.inl rfl))) (fun _ _ _ _ _ => pts_nil) (fun _ _ _ _ _ => (ke_c c__law_octet hr (by decide) rfl (pa_cons (kv 1) pa_nil))))))
      (pss_one (ps_expr (ke_append (kv 2) (pe_tup (pa_cons (ke_c c_frames hr (by decide) rfl (pa_cons (pe_callTy c_tuple rfl T.m_tuple (by decide +kernel) (pa_cons (kv 14) pa_nil)) pa_nil)) (pa_cons (ke_c c__law_due hr (by decide) rfl (pa_cons (kv 14) pa_nil)) pa_nil)))))))))))))))))
      (pss_cons (ps_if (kt_cmp o_eq (ke_c c__law_any hr (by decide) rfl (pa_cons (kv 1) (pa_cons pe_int pa_nil))) pe_int) (pss_cons (ps_par (i := 8) (j := 15) (by rfl) nd rfl rfl (by decide) rfl rfl (pa_cons (ke_c c__law_of hr (by decide) rfl (pa_cons (kv 1) (pa_cons (pe_lst (pa_cons pe_int (pa_cons pe_int (pa_cons pe_int pa_nil)))) pa_nil))) (pa_cons (ke_c c__law_octet hr (by decide) rfl (pa_cons (kv 1) pa_nil)) pa_nil)) (by rfl))
      (pss_cons (ps_set (i := 16) nd rfl (Or.inl rfl) (pe_op op_rep (pe_lst (pa_cons (kv 15) pa_nil)) (kv 8)))
      (pss_cons (ps_expr (ke_append (kv 2) (pe_tup (pa_cons (ke_c c_frames hr (by decide) rfl (pa_cons (ke_c c_frame hr (by decide) rfl (pa_cons (pe_callTy c_tuple rfl T.m_tuple (by decide +kernel) (pa_cons (kv 16) pa_nil)) pa_nil)) pa_nil)) (pa_cons (pe_tup (pa_cons (pe_tup (pa_cons (pe_callTy c_tuple rfl T.m_tuple (by decide +kernel) (pa_cons (kv 16) pa_nil)) pa_nil)) (pa_cons (pe_op o_add (kv 8) pe_int) pa_nil))) pa_nil)))))
      (pss_one (ps_expr (ke_append (kv 2) (pe_tup (pa_cons (pe_slice s_sl (ke_c c_frame hr (by decide) rfl (pa_cons (pe_callTy c_tuple rfl T.m_tuple (by decide +kernel) (pa_cons (kv 16) pa_nil)) pa_nil)) (po_s (ke_neg pe_int)) po_none) (pa_cons (pe_tup (pa_cons (pe_op o_mod (pe_callTy c_int rfl T.m_int (by decide +kernel) (pa_cons (ke_c c__law_sum hr (by decide) rfl (pa_cons (kv 16) pa_nil)) pa_nil)) pe_int) (pa_cons (pe_op o_div (ke_c c__law_sum hr (by decide) rfl (pa_cons (kv 16) pa_nil)) pe_int) pa_nil))) pa_nil))))))))) pss_nil)
      (pss_cons (ps_expr (ke_append (kv 2) (pe_tup (pa_cons (ke_c c_frames hr (by decide) rfl (pa_cons (pe_tup pa_nil) pa_nil)) (pa_cons (pe_tup (pa_cons (pe_tup pa_nil) (pa_cons pe_int pa_nil))) pa_nil)))))
      (pss_one (ps_ret (ke_c c__law_all hr (by decide) rfl (pa_cons (kv 2) pa_nil))))))))))))
theorem cal_law (T : Tx K mg) (c__law_all : Cal P w K mg base 3 "_law_all" ["pairs"] (sp__law_all K)) (c__law_any : Cal P w K mg base 1 "_law_any" ["deal", "bound"] (sp__law_any K)) (c__law_bent : Cal P w K mg base 4 "_law_bent" ["deal", "octets"] (sp__law_bent K)) (c__law_deal : Cal P w K mg base 1 "_law_deal" ["script", "salt"] (sp__law_deal K)) (c__law_due : Cal P w K mg base 3 "_law_due" ["octets"] (sp__law_due K)) (c__law_framed : Cal P w K mg base 2 "_law_framed" ["body"] (sp__law_framed K)) (c__law_joined : Cal P w K mg base 1 "_law_joined" ["rows"] (sp__law_joined K)) (c__law_octet : Cal P w K mg base 3 "_law_octet" ["deal"] (sp__law_octet K)) (c__law_of : Cal P w K mg base 2 "_law_of" ["deal", "some"] (sp__law_of K)) (c__law_some_body : Cal P w K mg base 4 "_law_some_body" ["deal"] (sp__law_some_body K)) (c__law_sum : Cal P w K mg base 1 "_law_sum" ["octets"] (sp__law_sum K)) (c_frame : Cal P w K mg base 3 "frame" ["body"] (sp_frame K)) (ck_frame : CalK P w K mg base 3 "frame" ["body"] (sp_frame K)) (c_frames : Cal P w K mg base 4 "frames" ["octets"] (sp_frames K)) (ck_frames : CalK P w K mg base 4 "frames" ["octets"] (sp_frames K)) (len : ∀ vs H Q E, sp_law K vs H Q E → vs.length = 1) (rd : ∀ vs H Q E, sp_law K vs H Q E → t_law K { nx := fun _ H' => Q .non H', rt := Q } (start N_law vs) H) : Cal P w K mg base 5 "law" ["script"] (sp_law K) :=
  T.d_law.cal sc_law (fun _ _ _ _ _ _ us hl => match us, hl with | [_], _ => rfl) len fun cdv A outer s H vs Q E {f} hr h => ⟨t_law K, w_law T c__law_all c__law_any c__law_bent c__law_deal c__law_due c__law_framed c__law_joined c__law_octet c__law_of c__law_some_body c__law_sum c_frame ck_frame c_frames ck_frames hr, rd vs H Q E h⟩
end
section
variable {K : PySem.W.Frag}
theorem len__law_is_kind : ∀ vs H Q E, sp__law_is_kind K vs H Q E → vs.length = 2 := by
  intro vs H Q E h
  first | (obtain ⟨rfl, _⟩ := h; rfl) | (obtain ⟨_, rfl, _⟩ := h; rfl) | (obtain ⟨_, _, rfl, _⟩ := h; rfl) | (obtain ⟨_, _, _, rfl, _⟩ := h; rfl) | (obtain ⟨_, _, _, _, rfl, _⟩ := h; rfl) | (obtain ⟨_, _, _, _, _, rfl, _⟩ := h; rfl) | (obtain ⟨_, _, _, _, _, _, rfl, _⟩ := h; rfl) | (obtain ⟨_, _, _, _, _, _, _, rfl, _⟩ := h; rfl) | (obtain ⟨_, _, _, _, _, _, _, _, rfl, _⟩ := h; rfl)
theorem len__law_same : ∀ vs H Q E, sp__law_same K vs H Q E → vs.length = 2 := by
  intro vs H Q E h
  first | (obtain ⟨rfl, _⟩ := h; rfl) | (obtain ⟨_, rfl, _⟩ := h; rfl) | (obtain ⟨_, _, rfl, _⟩ := h; rfl) | (obtain ⟨_, _, _, rfl, _⟩ := h; rfl) | (obtain ⟨_, _, _, _, rfl, _⟩ := h; rfl) | (obtain ⟨_, _, _, _, _, rfl, _⟩ := h; rfl) | (obtain ⟨_, _, _, _, _, _, rfl, _⟩ := h; rfl) | (obtain ⟨_, _, _, _, _, _, _, rfl, _⟩ := h; rfl) | (obtain ⟨_, _, _, _, _, _, _, _, rfl, _⟩ := h; rfl)
theorem len__law_all : ∀ vs H Q E, sp__law_all K vs H Q E → vs.length = 1 := by
  intro vs H Q E h
  first | (obtain ⟨rfl, _⟩ := h; rfl) | (obtain ⟨_, rfl, _⟩ := h; rfl) | (obtain ⟨_, _, rfl, _⟩ := h; rfl) | (obtain ⟨_, _, _, rfl, _⟩ := h; rfl) | (obtain ⟨_, _, _, _, rfl, _⟩ := h; rfl) | (obtain ⟨_, _, _, _, _, rfl, _⟩ := h; rfl) | (obtain ⟨_, _, _, _, _, _, rfl, _⟩ := h; rfl) | (obtain ⟨_, _, _, _, _, _, _, rfl, _⟩ := h; rfl) | (obtain ⟨_, _, _, _, _, _, _, _, rfl, _⟩ := h; rfl)
theorem len__law_any : ∀ vs H Q E, sp__law_any K vs H Q E → vs.length = 2 := by
  intro vs H Q E h
  first | (obtain ⟨rfl, _⟩ := h; rfl) | (obtain ⟨_, rfl, _⟩ := h; rfl) | (obtain ⟨_, _, rfl, _⟩ := h; rfl) | (obtain ⟨_, _, _, rfl, _⟩ := h; rfl) | (obtain ⟨_, _, _, _, rfl, _⟩ := h; rfl) | (obtain ⟨_, _, _, _, _, rfl, _⟩ := h; rfl) | (obtain ⟨_, _, _, _, _, _, rfl, _⟩ := h; rfl) | (obtain ⟨_, _, _, _, _, _, _, rfl, _⟩ := h; rfl) | (obtain ⟨_, _, _, _, _, _, _, _, rfl, _⟩ := h; rfl)
theorem len__law_of : ∀ vs H Q E, sp__law_of K vs H Q E → vs.length = 2 := by
  intro vs H Q E h
  first | (obtain ⟨_, _, _, _, ⟨_, _, rfl, _⟩ | ⟨_, rfl, _⟩⟩ := h <;> rfl)
theorem len__law_octet : ∀ vs H Q E, sp__law_octet K vs H Q E → vs.length = 1 := by
  intro vs H Q E h
  first | (obtain ⟨rfl, _⟩ := h; rfl) | (obtain ⟨_, rfl, _⟩ := h; rfl) | (obtain ⟨_, _, rfl, _⟩ := h; rfl) | (obtain ⟨_, _, _, rfl, _⟩ := h; rfl) | (obtain ⟨_, _, _, _, rfl, _⟩ := h; rfl) | (obtain ⟨_, _, _, _, _, rfl, _⟩ := h; rfl) | (obtain ⟨_, _, _, _, _, _, rfl, _⟩ := h; rfl) | (obtain ⟨_, _, _, _, _, _, _, rfl, _⟩ := h; rfl) | (obtain ⟨_, _, _, _, _, _, _, _, rfl, _⟩ := h; rfl)
theorem len__law_bent : ∀ vs H Q E, sp__law_bent K vs H Q E → vs.length = 2 := by
  intro vs H Q E h
  first | (obtain ⟨rfl, _⟩ := h; rfl) | (obtain ⟨_, rfl, _⟩ := h; rfl) | (obtain ⟨_, _, rfl, _⟩ := h; rfl) | (obtain ⟨_, _, _, rfl, _⟩ := h; rfl) | (obtain ⟨_, _, _, _, rfl, _⟩ := h; rfl) | (obtain ⟨_, _, _, _, _, rfl, _⟩ := h; rfl) | (obtain ⟨_, _, _, _, _, _, rfl, _⟩ := h; rfl) | (obtain ⟨_, _, _, _, _, _, _, rfl, _⟩ := h; rfl) | (obtain ⟨_, _, _, _, _, _, _, _, rfl, _⟩ := h; rfl)
theorem len__law_deal : ∀ vs H Q E, sp__law_deal K vs H Q E → vs.length = 2 := by
  intro vs H Q E h
  first | (obtain ⟨rfl, _⟩ := h; rfl) | (obtain ⟨_, rfl, _⟩ := h; rfl) | (obtain ⟨_, _, rfl, _⟩ := h; rfl) | (obtain ⟨_, _, _, rfl, _⟩ := h; rfl) | (obtain ⟨_, _, _, _, rfl, _⟩ := h; rfl) | (obtain ⟨_, _, _, _, _, rfl, _⟩ := h; rfl) | (obtain ⟨_, _, _, _, _, _, rfl, _⟩ := h; rfl) | (obtain ⟨_, _, _, _, _, _, _, rfl, _⟩ := h; rfl) | (obtain ⟨_, _, _, _, _, _, _, _, rfl, _⟩ := h; rfl)
theorem len__law_number_at : ∀ vs H Q E, sp__law_number_at K vs H Q E → vs.length = 2 := by
  intro vs H Q E h
  first | (obtain ⟨rfl, _⟩ := h; rfl) | (obtain ⟨_, rfl, _⟩ := h; rfl) | (obtain ⟨_, _, rfl, _⟩ := h; rfl) | (obtain ⟨_, _, _, rfl, _⟩ := h; rfl) | (obtain ⟨_, _, _, _, rfl, _⟩ := h; rfl) | (obtain ⟨_, _, _, _, _, rfl, _⟩ := h; rfl) | (obtain ⟨_, _, _, _, _, _, rfl, _⟩ := h; rfl) | (obtain ⟨_, _, _, _, _, _, _, rfl, _⟩ := h; rfl) | (obtain ⟨_, _, _, _, _, _, _, _, rfl, _⟩ := h; rfl)
theorem len__law_sum : ∀ vs H Q E, sp__law_sum K vs H Q E → vs.length = 1 := by
  intro vs H Q E h
  first | (obtain ⟨rfl, _⟩ := h; rfl) | (obtain ⟨_, rfl, _⟩ := h; rfl) | (obtain ⟨_, _, rfl, _⟩ := h; rfl) | (obtain ⟨_, _, _, rfl, _⟩ := h; rfl) | (obtain ⟨_, _, _, _, rfl, _⟩ := h; rfl) | (obtain ⟨_, _, _, _, _, rfl, _⟩ := h; rfl) | (obtain ⟨_, _, _, _, _, _, rfl, _⟩ := h; rfl) | (obtain ⟨_, _, _, _, _, _, _, rfl, _⟩ := h; rfl) | (obtain ⟨_, _, _, _, _, _, _, _, rfl, _⟩ := h; rfl)
theorem len__law_frames_in : ∀ vs H Q E, sp__law_frames_in K vs H Q E → vs.length = 1 := by
  intro vs H Q E h
  first | (obtain ⟨rfl, _⟩ := h; rfl) | (obtain ⟨_, rfl, _⟩ := h; rfl) | (obtain ⟨_, _, rfl, _⟩ := h; rfl) | (obtain ⟨_, _, _, rfl, _⟩ := h; rfl) | (obtain ⟨_, _, _, _, rfl, _⟩ := h; rfl) | (obtain ⟨_, _, _, _, _, rfl, _⟩ := h; rfl) | (obtain ⟨_, _, _, _, _, _, rfl, _⟩ := h; rfl) | (obtain ⟨_, _, _, _, _, _, _, rfl, _⟩ := h; rfl) | (obtain ⟨_, _, _, _, _, _, _, _, rfl, _⟩ := h; rfl)
theorem len__law_due : ∀ vs H Q E, sp__law_due K vs H Q E → vs.length = 1 := by
  intro vs H Q E h
  first | (obtain ⟨rfl, _⟩ := h; rfl) | (obtain ⟨_, rfl, _⟩ := h; rfl) | (obtain ⟨_, _, rfl, _⟩ := h; rfl) | (obtain ⟨_, _, _, rfl, _⟩ := h; rfl) | (obtain ⟨_, _, _, _, rfl, _⟩ := h; rfl) | (obtain ⟨_, _, _, _, _, rfl, _⟩ := h; rfl) | (obtain ⟨_, _, _, _, _, _, rfl, _⟩ := h; rfl) | (obtain ⟨_, _, _, _, _, _, _, rfl, _⟩ := h; rfl) | (obtain ⟨_, _, _, _, _, _, _, _, rfl, _⟩ := h; rfl)
theorem len__law_number_octets : ∀ vs H Q E, sp__law_number_octets K vs H Q E → vs.length = 1 := by
  intro vs H Q E h
  first | (obtain ⟨rfl, _⟩ := h; rfl) | (obtain ⟨_, rfl, _⟩ := h; rfl) | (obtain ⟨_, _, rfl, _⟩ := h; rfl) | (obtain ⟨_, _, _, rfl, _⟩ := h; rfl) | (obtain ⟨_, _, _, _, rfl, _⟩ := h; rfl) | (obtain ⟨_, _, _, _, _, rfl, _⟩ := h; rfl) | (obtain ⟨_, _, _, _, _, _, rfl, _⟩ := h; rfl) | (obtain ⟨_, _, _, _, _, _, _, rfl, _⟩ := h; rfl) | (obtain ⟨_, _, _, _, _, _, _, _, rfl, _⟩ := h; rfl)
theorem len__law_framed : ∀ vs H Q E, sp__law_framed K vs H Q E → vs.length = 1 := by
  intro vs H Q E h
  first | (obtain ⟨rfl, _⟩ := h; rfl) | (obtain ⟨_, rfl, _⟩ := h; rfl) | (obtain ⟨_, _, rfl, _⟩ := h; rfl) | (obtain ⟨_, _, _, rfl, _⟩ := h; rfl) | (obtain ⟨_, _, _, _, rfl, _⟩ := h; rfl) | (obtain ⟨_, _, _, _, _, rfl, _⟩ := h; rfl) | (obtain ⟨_, _, _, _, _, _, rfl, _⟩ := h; rfl) | (obtain ⟨_, _, _, _, _, _, _, rfl, _⟩ := h; rfl) | (obtain ⟨_, _, _, _, _, _, _, _, rfl, _⟩ := h; rfl)
theorem len__law_joined : ∀ vs H Q E, sp__law_joined K vs H Q E → vs.length = 1 := by
  intro vs H Q E h
  first | (obtain ⟨rfl, _⟩ := h; rfl) | (obtain ⟨_, rfl, _⟩ := h; rfl) | (obtain ⟨_, _, rfl, _⟩ := h; rfl) | (obtain ⟨_, _, _, rfl, _⟩ := h; rfl) | (obtain ⟨_, _, _, _, rfl, _⟩ := h; rfl) | (obtain ⟨_, _, _, _, _, rfl, _⟩ := h; rfl) | (obtain ⟨_, _, _, _, _, _, rfl, _⟩ := h; rfl) | (obtain ⟨_, _, _, _, _, _, _, rfl, _⟩ := h; rfl) | (obtain ⟨_, _, _, _, _, _, _, _, rfl, _⟩ := h; rfl)
theorem len__law_some_body : ∀ vs H Q E, sp__law_some_body K vs H Q E → vs.length = 1 := by
  intro vs H Q E h
  first | (obtain ⟨rfl, _⟩ := h; rfl) | (obtain ⟨_, rfl, _⟩ := h; rfl) | (obtain ⟨_, _, rfl, _⟩ := h; rfl) | (obtain ⟨_, _, _, rfl, _⟩ := h; rfl) | (obtain ⟨_, _, _, _, rfl, _⟩ := h; rfl) | (obtain ⟨_, _, _, _, _, rfl, _⟩ := h; rfl) | (obtain ⟨_, _, _, _, _, _, rfl, _⟩ := h; rfl) | (obtain ⟨_, _, _, _, _, _, _, rfl, _⟩ := h; rfl) | (obtain ⟨_, _, _, _, _, _, _, _, rfl, _⟩ := h; rfl)
theorem len_octets_of_number : ∀ vs H Q E, sp_octets_of_number K vs H Q E → vs.length = 1 := by
  intro vs H Q E h
  first | (obtain ⟨rfl, _⟩ := h; rfl) | (obtain ⟨_, rfl, _⟩ := h; rfl) | (obtain ⟨_, _, rfl, _⟩ := h; rfl) | (obtain ⟨_, _, _, rfl, _⟩ := h; rfl) | (obtain ⟨_, _, _, _, rfl, _⟩ := h; rfl) | (obtain ⟨_, _, _, _, _, rfl, _⟩ := h; rfl) | (obtain ⟨_, _, _, _, _, _, rfl, _⟩ := h; rfl) | (obtain ⟨_, _, _, _, _, _, _, rfl, _⟩ := h; rfl) | (obtain ⟨_, _, _, _, _, _, _, _, rfl, _⟩ := h; rfl)
theorem len_number_octets : ∀ vs H Q E, sp_number_octets K vs H Q E → vs.length = 1 := by
  intro vs H Q E h
  first | (obtain ⟨rfl, _⟩ := h; rfl) | (obtain ⟨_, rfl, _⟩ := h; rfl) | (obtain ⟨_, _, rfl, _⟩ := h; rfl) | (obtain ⟨_, _, _, rfl, _⟩ := h; rfl) | (obtain ⟨_, _, _, _, rfl, _⟩ := h; rfl) | (obtain ⟨_, _, _, _, _, rfl, _⟩ := h; rfl) | (obtain ⟨_, _, _, _, _, _, rfl, _⟩ := h; rfl) | (obtain ⟨_, _, _, _, _, _, _, rfl, _⟩ := h; rfl) | (obtain ⟨_, _, _, _, _, _, _, _, rfl, _⟩ := h; rfl)
theorem len_sum_of_octets : ∀ vs H Q E, sp_sum_of_octets K vs H Q E → vs.length = 1 := by
  intro vs H Q E h
  first | (obtain ⟨rfl, _⟩ := h; rfl) | (obtain ⟨_, rfl, _⟩ := h; rfl) | (obtain ⟨_, _, rfl, _⟩ := h; rfl) | (obtain ⟨_, _, _, rfl, _⟩ := h; rfl) | (obtain ⟨_, _, _, _, rfl, _⟩ := h; rfl) | (obtain ⟨_, _, _, _, _, rfl, _⟩ := h; rfl) | (obtain ⟨_, _, _, _, _, _, rfl, _⟩ := h; rfl) | (obtain ⟨_, _, _, _, _, _, _, rfl, _⟩ := h; rfl) | (obtain ⟨_, _, _, _, _, _, _, _, rfl, _⟩ := h; rfl)
theorem len_sum_pair : ∀ vs H Q E, sp_sum_pair K vs H Q E → vs.length = 1 := by
  intro vs H Q E h
  first | (obtain ⟨rfl, _⟩ := h; rfl) | (obtain ⟨_, rfl, _⟩ := h; rfl) | (obtain ⟨_, _, rfl, _⟩ := h; rfl) | (obtain ⟨_, _, _, rfl, _⟩ := h; rfl) | (obtain ⟨_, _, _, _, rfl, _⟩ := h; rfl) | (obtain ⟨_, _, _, _, _, rfl, _⟩ := h; rfl) | (obtain ⟨_, _, _, _, _, _, rfl, _⟩ := h; rfl) | (obtain ⟨_, _, _, _, _, _, _, rfl, _⟩ := h; rfl) | (obtain ⟨_, _, _, _, _, _, _, _, rfl, _⟩ := h; rfl)
theorem len_frame : ∀ vs H Q E, sp_frame K vs H Q E → vs.length = 1 := by
  intro vs H Q E h
  first | (obtain ⟨rfl, _⟩ := h; rfl) | (obtain ⟨_, rfl, _⟩ := h; rfl) | (obtain ⟨_, _, rfl, _⟩ := h; rfl) | (obtain ⟨_, _, _, rfl, _⟩ := h; rfl) | (obtain ⟨_, _, _, _, rfl, _⟩ := h; rfl) | (obtain ⟨_, _, _, _, _, rfl, _⟩ := h; rfl) | (obtain ⟨_, _, _, _, _, _, rfl, _⟩ := h; rfl) | (obtain ⟨_, _, _, _, _, _, _, rfl, _⟩ := h; rfl) | (obtain ⟨_, _, _, _, _, _, _, _, rfl, _⟩ := h; rfl)
theorem len_behind_number : ∀ vs H Q E, sp_behind_number K vs H Q E → vs.length = 2 := by
  intro vs H Q E h
  first | (obtain ⟨rfl, _⟩ := h; rfl) | (obtain ⟨_, rfl, _⟩ := h; rfl) | (obtain ⟨_, _, rfl, _⟩ := h; rfl) | (obtain ⟨_, _, _, rfl, _⟩ := h; rfl) | (obtain ⟨_, _, _, _, rfl, _⟩ := h; rfl) | (obtain ⟨_, _, _, _, _, rfl, _⟩ := h; rfl) | (obtain ⟨_, _, _, _, _, _, rfl, _⟩ := h; rfl) | (obtain ⟨_, _, _, _, _, _, _, rfl, _⟩ := h; rfl) | (obtain ⟨_, _, _, _, _, _, _, _, rfl, _⟩ := h; rfl)
theorem len_number_of : ∀ vs H Q E, sp_number_of K vs H Q E → vs.length = 1 := by
  intro vs H Q E h
  first | (obtain ⟨rfl, _⟩ := h; rfl) | (obtain ⟨_, rfl, _⟩ := h; rfl) | (obtain ⟨_, _, rfl, _⟩ := h; rfl) | (obtain ⟨_, _, _, rfl, _⟩ := h; rfl) | (obtain ⟨_, _, _, _, rfl, _⟩ := h; rfl) | (obtain ⟨_, _, _, _, _, rfl, _⟩ := h; rfl) | (obtain ⟨_, _, _, _, _, _, rfl, _⟩ := h; rfl) | (obtain ⟨_, _, _, _, _, _, _, rfl, _⟩ := h; rfl) | (obtain ⟨_, _, _, _, _, _, _, _, rfl, _⟩ := h; rfl)
theorem len_number_in : ∀ vs H Q E, sp_number_in K vs H Q E → vs.length = 2 := by
  intro vs H Q E h
  first | (obtain ⟨rfl, _⟩ := h; rfl) | (obtain ⟨_, rfl, _⟩ := h; rfl) | (obtain ⟨_, _, rfl, _⟩ := h; rfl) | (obtain ⟨_, _, _, rfl, _⟩ := h; rfl) | (obtain ⟨_, _, _, _, rfl, _⟩ := h; rfl) | (obtain ⟨_, _, _, _, _, rfl, _⟩ := h; rfl) | (obtain ⟨_, _, _, _, _, _, rfl, _⟩ := h; rfl) | (obtain ⟨_, _, _, _, _, _, _, rfl, _⟩ := h; rfl) | (obtain ⟨_, _, _, _, _, _, _, _, rfl, _⟩ := h; rfl)
theorem len_frame_at : ∀ vs H Q E, sp_frame_at K vs H Q E → vs.length = 2 := by
  intro vs H Q E h
  first | (obtain ⟨rfl, _⟩ := h; rfl) | (obtain ⟨_, rfl, _⟩ := h; rfl) | (obtain ⟨_, _, rfl, _⟩ := h; rfl) | (obtain ⟨_, _, _, rfl, _⟩ := h; rfl) | (obtain ⟨_, _, _, _, rfl, _⟩ := h; rfl) | (obtain ⟨_, _, _, _, _, rfl, _⟩ := h; rfl) | (obtain ⟨_, _, _, _, _, _, rfl, _⟩ := h; rfl) | (obtain ⟨_, _, _, _, _, _, _, rfl, _⟩ := h; rfl) | (obtain ⟨_, _, _, _, _, _, _, _, rfl, _⟩ := h; rfl)
theorem len_frames : ∀ vs H Q E, sp_frames K vs H Q E → vs.length = 1 := by
  intro vs H Q E h
  first | (obtain ⟨rfl, _⟩ := h; rfl) | (obtain ⟨_, rfl, _⟩ := h; rfl) | (obtain ⟨_, _, rfl, _⟩ := h; rfl) | (obtain ⟨_, _, _, rfl, _⟩ := h; rfl) | (obtain ⟨_, _, _, _, rfl, _⟩ := h; rfl) | (obtain ⟨_, _, _, _, _, rfl, _⟩ := h; rfl) | (obtain ⟨_, _, _, _, _, _, rfl, _⟩ := h; rfl) | (obtain ⟨_, _, _, _, _, _, _, rfl, _⟩ := h; rfl) | (obtain ⟨_, _, _, _, _, _, _, _, rfl, _⟩ := h; rfl)
theorem len_law : ∀ vs H Q E, sp_law K vs H Q E → vs.length = 1 := by
  intro vs H Q E h
  first | (obtain ⟨rfl, _⟩ := h; rfl) | (obtain ⟨_, rfl, _⟩ := h; rfl) | (obtain ⟨_, _, rfl, _⟩ := h; rfl) | (obtain ⟨_, _, _, rfl, _⟩ := h; rfl) | (obtain ⟨_, _, _, _, rfl, _⟩ := h; rfl) | (obtain ⟨_, _, _, _, _, rfl, _⟩ := h; rfl) | (obtain ⟨_, _, _, _, _, _, rfl, _⟩ := h; rfl) | (obtain ⟨_, _, _, _, _, _, _, rfl, _⟩ := h; rfl) | (obtain ⟨_, _, _, _, _, _, _, _, rfl, _⟩ := h; rfl)
end
section
variable {P : Program} {w : World} {K : PySem.W.Frag} {mg : Str → Option Value} {base : Heap}
theorem all_ok (T : Tx K mg) {f : Addr} {fd : FuncData} (F : FunD K "law" "law" (defArgs s_law) (defBody s_law) (defScope s_law) [] [] f fd) : FnOk P w K mg base CX0 5 f fd ["script"] (sp_law K) := by
  have c__law_is_kind := cal__law_is_kind (P := P) (w := w) (base := base) T  len__law_is_kind rd__law_is_kind
  have c__law_same := cal__law_same (P := P) (w := w) (base := base) T c__law_is_kind len__law_same rd__law_same
  have c__law_all := cal__law_all (P := P) (w := w) (base := base) T c__law_same len__law_all rd__law_all
  have c__law_any := cal__law_any (P := P) (w := w) (base := base) T  len__law_any rd__law_any
  have c__law_of := cal__law_of (P := P) (w := w) (base := base) T c__law_any len__law_of rd__law_of
  have c__law_octet := cal__law_octet (P := P) (w := w) (base := base) T c__law_any c__law_of len__law_octet rd__law_octet
  have c__law_bent := cal__law_bent (P := P) (w := w) (base := base) T c__law_any c__law_octet c__law_of len__law_bent rd__law_bent
  have c__law_deal := cal__law_deal (P := P) (w := w) (base := base) T  len__law_deal rd__law_deal
  have c__law_number_at := cal__law_number_at (P := P) (w := w) (base := base) T  len__law_number_at rd__law_number_at
  have c__law_sum := cal__law_sum (P := P) (w := w) (base := base) T  len__law_sum rd__law_sum
  have c__law_frames_in := cal__law_frames_in (P := P) (w := w) (base := base) T c__law_number_at c__law_sum len__law_frames_in rd__law_frames_in
  have c__law_due := cal__law_due (P := P) (w := w) (base := base) T c__law_frames_in len__law_due rd__law_due
  have c__law_number_octets := cal__law_number_octets (P := P) (w := w) (base := base) T  len__law_number_octets rd__law_number_octets
  have c__law_framed := cal__law_framed (P := P) (w := w) (base := base) T c__law_number_octets c__law_sum len__law_framed rd__law_framed
  have c__law_joined := cal__law_joined (P := P) (w := w) (base := base) T  len__law_joined rd__law_joined
  have c__law_some_body := cal__law_some_body (P := P) (w := w) (base := base) T c__law_octet c__law_of len__law_some_body rd__law_some_body
  have c_octets_of_number := cal_octets_of_number (P := P) (w := w) (base := base) T  len_octets_of_number rd_octets_of_number
  have c_number_octets := cal_number_octets (P := P) (w := w) (base := base) T c_octets_of_number len_number_octets rd_number_octets
  have c_sum_of_octets := cal_sum_of_octets (P := P) (w := w) (base := base) T  len_sum_of_octets rd_sum_of_octets
  have c_sum_pair := cal_sum_pair (P := P) (w := w) (base := base) T c_sum_of_octets len_sum_pair rd_sum_pair
  have c_frame := cal_frame (P := P) (w := w) (base := base) T c_number_octets c_sum_pair len_frame rd_frame
  have ck_frame := calk_frame (P := P) (w := w) (base := base) T c_number_octets c_sum_pair len_frame rd_frame
  have c_behind_number := cal_behind_number (P := P) (w := w) (base := base) T  len_behind_number rd_behind_number
  have c_number_of := cal_number_of (P := P) (w := w) (base := base) T  len_number_of rd_number_of
  have c_number_in := cal_number_in (P := P) (w := w) (base := base) T c_behind_number c_number_of len_number_in rd_number_in
  have c_frame_at := cal_frame_at (P := P) (w := w) (base := base) T c_number_in c_sum_pair len_frame_at rd_frame_at
  have c_frames := cal_frames (P := P) (w := w) (base := base) T c_frame_at len_frames rd_frames
  have ck_frames := calk_frames (P := P) (w := w) (base := base) T c_frame_at len_frames rd_frames
  exact F.ok sc_law len_law fun cdv A outer s H vs Q E hr h => ⟨t_law K, (w_law T c__law_all c__law_any c__law_bent c__law_deal c__law_due c__law_framed c__law_joined c__law_octet c__law_of c__law_some_body c__law_sum c_frame ck_frame c_frames ck_frames hr).nox, rd_law vs H Q E h⟩
end
def dd__law_is_kind : He.DefD := ⟨("_law_is_kind", none), "_law_is_kind", "_law_is_kind", defArgs s__law_is_kind, defBody s__law_is_kind, defScope s__law_is_kind, [], []⟩
def dd__law_same : He.DefD := ⟨("_law_same", none), "_law_same", "_law_same", defArgs s__law_same, defBody s__law_same, defScope s__law_same, [], []⟩
def dd__law_all : He.DefD := ⟨("_law_all", none), "_law_all", "_law_all", defArgs s__law_all, defBody s__law_all, defScope s__law_all, [], []⟩
def dd__law_any : He.DefD := ⟨("_law_any", none), "_law_any", "_law_any", defArgs s__law_any, defBody s__law_any, defScope s__law_any, [], []⟩
def dd__law_of : He.DefD := ⟨("_law_of", none), "_law_of", "_law_of", defArgs s__law_of, defBody s__law_of, defScope s__law_of, [], []⟩
def dd__law_octet : He.DefD := ⟨("_law_octet", none), "_law_octet", "_law_octet", defArgs s__law_octet, defBody s__law_octet, defScope s__law_octet, [], []⟩
def dd__law_bent : He.DefD := ⟨("_law_bent", none), "_law_bent", "_law_bent", defArgs s__law_bent, defBody s__law_bent, defScope s__law_bent, [], []⟩
def dd__law_deal : He.DefD := ⟨("_law_deal", none), "_law_deal", "_law_deal", defArgs s__law_deal, defBody s__law_deal, defScope s__law_deal, [], []⟩
def dd__law_number_at : He.DefD := ⟨("_law_number_at", none), "_law_number_at", "_law_number_at", defArgs s__law_number_at, defBody s__law_number_at, defScope s__law_number_at, [], []⟩
def dd__law_sum : He.DefD := ⟨("_law_sum", none), "_law_sum", "_law_sum", defArgs s__law_sum, defBody s__law_sum, defScope s__law_sum, [], []⟩
def dd__law_frames_in : He.DefD := ⟨("_law_frames_in", none), "_law_frames_in", "_law_frames_in", defArgs s__law_frames_in, defBody s__law_frames_in, defScope s__law_frames_in, [], []⟩
def dd__law_due : He.DefD := ⟨("_law_due", none), "_law_due", "_law_due", defArgs s__law_due, defBody s__law_due, defScope s__law_due, [], []⟩
def dd__law_number_octets : He.DefD := ⟨("_law_number_octets", none), "_law_number_octets", "_law_number_octets", defArgs s__law_number_octets, defBody s__law_number_octets, defScope s__law_number_octets, [], []⟩
def dd__law_framed : He.DefD := ⟨("_law_framed", none), "_law_framed", "_law_framed", defArgs s__law_framed, defBody s__law_framed, defScope s__law_framed, [], []⟩
def dd__law_joined : He.DefD := ⟨("_law_joined", none), "_law_joined", "_law_joined", defArgs s__law_joined, defBody s__law_joined, defScope s__law_joined, [], []⟩
def dd__law_some_body : He.DefD := ⟨("_law_some_body", none), "_law_some_body", "_law_some_body", defArgs s__law_some_body, defBody s__law_some_body, defScope s__law_some_body, [], []⟩
def dd_octets_of_number : He.DefD := ⟨("octets_of_number", none), "octets_of_number", "octets_of_number", defArgs s_octets_of_number, defBody s_octets_of_number, defScope s_octets_of_number, [], []⟩
def dd_number_octets : He.DefD := ⟨("number_octets", none), "number_octets", "number_octets", defArgs s_number_octets, defBody s_number_octets, defScope s_number_octets, [], []⟩
def dd_sum_of_octets : He.DefD := ⟨("sum_of_octets", none), "sum_of_octets", "sum_of_octets", defArgs s_sum_of_octets, defBody s_sum_of_octets, defScope s_sum_of_octets, [], []⟩
def dd_sum_pair : He.DefD := ⟨("sum_pair", none), "sum_pair", "sum_pair", defArgs s_sum_pair, defBody s_sum_pair, defScope s_sum_pair, [], []⟩
def dd_frame : He.DefD := ⟨("frame", none), "frame", "frame", defArgs s_frame, defBody s_frame, defScope s_frame, [], []⟩
def dd_behind_number : He.DefD := ⟨("behind_number", none), "behind_number", "behind_number", defArgs s_behind_number, defBody s_behind_number, defScope s_behind_number, [], []⟩
def dd_number_of : He.DefD := ⟨("number_of", none), "number_of", "number_of", defArgs s_number_of, defBody s_number_of, defScope s_number_of, [], []⟩
def dd_number_in : He.DefD := ⟨("number_in", none), "number_in", "number_in", defArgs s_number_in, defBody s_number_in, defScope s_number_in, [], []⟩
def dd_frame_at : He.DefD := ⟨("frame_at", none), "frame_at", "frame_at", defArgs s_frame_at, defBody s_frame_at, defScope s_frame_at, [], []⟩
def dd_frames : He.DefD := ⟨("frames", none), "frames", "frames", defArgs s_frames, defBody s_frames, defScope s_frames, [], []⟩
def dd_law : He.DefD := ⟨("law", none), "law", "law", defArgs s_law, defBody s_law, defScope s_law, [], []⟩
def fn : List He.DefD := [dd__law_is_kind, dd__law_same, dd__law_all, dd__law_any, dd__law_of, dd__law_octet, dd__law_bent, dd__law_deal, dd__law_number_at, dd__law_sum, dd__law_frames_in, dd__law_due, dd__law_number_octets, dd__law_framed, dd__law_joined, dd__law_some_body, dd_octets_of_number, dd_number_octets, dd_sum_of_octets, dd_sum_pair, dd_frame, dd_behind_number, dd_number_of, dd_number_in, dd_frame_at, dd_frames, dd_law]
def fa : List He.Fa := [.glo "_law_is_kind", .glo "_law_same", .glo "_law_all", .glo "_law_any", .glo "_law_of", .glo "_law_octet", .glo "_law_bent", .glo "_law_deal", .glo "_law_number_at", .glo "_law_sum", .glo "_law_frames_in", .glo "_law_due", .glo "_law_number_octets", .glo "_law_framed", .glo "_law_joined", .glo "_law_some_body", .glo "octets_of_number", .glo "number_octets", .glo "sum_of_octets", .glo "sum_pair", .glo "frame", .glo "behind_number", .glo "number_of", .glo "number_in", .glo "frame_at", .glo "frames", .glo "law", .free "abs", .free "bool", .free "dict", .free "enumerate", .free "int", .free "isinstance", .free "len", .free "list", .free "range", .free "str", .free "sum", .free "tuple", .int "BASE" 128, .int "OCTET" 256, .int "PRIME" 65521, .int "SUM_OCTETS" 2]
theorem tx_of {K : PySem.W.Frag} {h : Heap} {mg : Str → Option Value} (X : K.In h) (G : h.Ns mainGlobals mg) (c : He.SaysD fa fn K) : Tx K mg where
  m_abs := He.free_ok X G (c.fact 27 (f := .free "abs") rfl)
  m_bool := He.free_ok X G (c.fact 28 (f := .free "bool") rfl)
  m_dict := He.free_ok X G (c.fact 29 (f := .free "dict") rfl)
  m_enumerate := He.free_ok X G (c.fact 30 (f := .free "enumerate") rfl)
  m_int := He.free_ok X G (c.fact 31 (f := .free "int") rfl)
  m_isinstance := He.free_ok X G (c.fact 32 (f := .free "isinstance") rfl)
  m_len := He.free_ok X G (c.fact 33 (f := .free "len") rfl)
  m_list := He.free_ok X G (c.fact 34 (f := .free "list") rfl)
  m_range := He.free_ok X G (c.fact 35 (f := .free "range") rfl)
  m_str := He.free_ok X G (c.fact 36 (f := .free "str") rfl)
  m_sum := He.free_ok X G (c.fact 37 (f := .free "sum") rfl)
  m_tuple := He.free_ok X G (c.fact 38 (f := .free "tuple") rfl)
  c_BASE := He.int_ok X G (c.fact 39 (f := .int "BASE" 128) rfl)
  c_OCTET := He.int_ok X G (c.fact 40 (f := .int "OCTET" 256) rfl)
  c_PRIME := He.int_ok X G (c.fact 41 (f := .int "PRIME" 65521) rfl)
  c_SUM_OCTETS := He.int_ok X G (c.fact 42 (f := .int "SUM_OCTETS" 2) rfl)
  d__law_is_kind := Df.of (c.def_ 0 (d := dd__law_is_kind) rfl) (He.glo_ok X G (c.fact 0 (f := .glo "_law_is_kind") rfl))
  d__law_same := Df.of (c.def_ 1 (d := dd__law_same) rfl) (He.glo_ok X G (c.fact 1 (f := .glo "_law_same") rfl))
  d__law_all := Df.of (c.def_ 2 (d := dd__law_all) rfl) (He.glo_ok X G (c.fact 2 (f := .glo "_law_all") rfl))
  d__law_any := Df.of (c.def_ 3 (d := dd__law_any) rfl) (He.glo_ok X G (c.fact 3 (f := .glo "_law_any") rfl))
  d__law_of := Df.of (c.def_ 4 (d := dd__law_of) rfl) (He.glo_ok X G (c.fact 4 (f := .glo "_law_of") rfl))
  d__law_octet := Df.of (c.def_ 5 (d := dd__law_octet) rfl) (He.glo_ok X G (c.fact 5 (f := .glo "_law_octet") rfl))
  d__law_bent := Df.of (c.def_ 6 (d := dd__law_bent) rfl) (He.glo_ok X G (c.fact 6 (f := .glo "_law_bent") rfl))
  d__law_deal := Df.of (c.def_ 7 (d := dd__law_deal) rfl) (He.glo_ok X G (c.fact 7 (f := .glo "_law_deal") rfl))
  d__law_number_at := Df.of (c.def_ 8 (d := dd__law_number_at) rfl) (He.glo_ok X G (c.fact 8 (f := .glo "_law_number_at") rfl))
  d__law_sum := Df.of (c.def_ 9 (d := dd__law_sum) rfl) (He.glo_ok X G (c.fact 9 (f := .glo "_law_sum") rfl))
  d__law_frames_in := Df.of (c.def_ 10 (d := dd__law_frames_in) rfl) (He.glo_ok X G (c.fact 10 (f := .glo "_law_frames_in") rfl))
  d__law_due := Df.of (c.def_ 11 (d := dd__law_due) rfl) (He.glo_ok X G (c.fact 11 (f := .glo "_law_due") rfl))
  d__law_number_octets := Df.of (c.def_ 12 (d := dd__law_number_octets) rfl) (He.glo_ok X G (c.fact 12 (f := .glo "_law_number_octets") rfl))
  d__law_framed := Df.of (c.def_ 13 (d := dd__law_framed) rfl) (He.glo_ok X G (c.fact 13 (f := .glo "_law_framed") rfl))
  d__law_joined := Df.of (c.def_ 14 (d := dd__law_joined) rfl) (He.glo_ok X G (c.fact 14 (f := .glo "_law_joined") rfl))
  d__law_some_body := Df.of (c.def_ 15 (d := dd__law_some_body) rfl) (He.glo_ok X G (c.fact 15 (f := .glo "_law_some_body") rfl))
  d_octets_of_number := Df.of (c.def_ 16 (d := dd_octets_of_number) rfl) (He.glo_ok X G (c.fact 16 (f := .glo "octets_of_number") rfl))
  d_number_octets := Df.of (c.def_ 17 (d := dd_number_octets) rfl) (He.glo_ok X G (c.fact 17 (f := .glo "number_octets") rfl))
  d_sum_of_octets := Df.of (c.def_ 18 (d := dd_sum_of_octets) rfl) (He.glo_ok X G (c.fact 18 (f := .glo "sum_of_octets") rfl))
  d_sum_pair := Df.of (c.def_ 19 (d := dd_sum_pair) rfl) (He.glo_ok X G (c.fact 19 (f := .glo "sum_pair") rfl))
  d_frame := Df.of (c.def_ 20 (d := dd_frame) rfl) (He.glo_ok X G (c.fact 20 (f := .glo "frame") rfl))
  d_behind_number := Df.of (c.def_ 21 (d := dd_behind_number) rfl) (He.glo_ok X G (c.fact 21 (f := .glo "behind_number") rfl))
  d_number_of := Df.of (c.def_ 22 (d := dd_number_of) rfl) (He.glo_ok X G (c.fact 22 (f := .glo "number_of") rfl))
  d_number_in := Df.of (c.def_ 23 (d := dd_number_in) rfl) (He.glo_ok X G (c.fact 23 (f := .glo "number_in") rfl))
  d_frame_at := Df.of (c.def_ 24 (d := dd_frame_at) rfl) (He.glo_ok X G (c.fact 24 (f := .glo "frame_at") rfl))
  d_frames := Df.of (c.def_ 25 (d := dd_frames) rfl) (He.glo_ok X G (c.fact 25 (f := .glo "frames") rfl))
  d_law := Df.of (c.def_ 26 (d := dd_law) rfl) (He.glo_ok X G (c.fact 26 (f := .glo "law") rfl))
def loose : List PySem.Str := (["BASE", "octets_of_number", "number_of", "behind_number", "number_in", "OCTET", "PRIME", "SUM_OCTETS", "number_octets", "sum_of_octets", "sum_pair", "frame", "frame_at", "frames", "_law_deal", "_law_any", "_law_of", "_law_is_kind", "_law_same", "_law_all"] : List PySem.Str) ++ (["_law_number_octets", "_law_sum", "_law_framed", "_law_joined", "_law_octet", "_law_number_at", "_law_frames_in", "_law_some_body", "_law_bent", "_law_due"] : List PySem.Str)
abbrev rowL : PySem.W.OpenRow := PySem.W.OpenLaw.row PySem.Challenge.rw_ownrules_k82_frames_are_read_up_to_the_f
abbrev hk : PySem.W.Hook := He.hookD 4 fa fn
def ob (s : PySem.W.SharedT) : He.AlD := He.obsDG 4 fa fn (HandSHeadRun.getT s)
theorem ob_eq (s : PySem.W.SharedT) : ob s = hk.obs s.abs := He.obsDG_eq (HandSHeadRun.getT_eq s)
theorem run (w : World) : HandSHeadRun.RunEq rowL (PySem.W.view rowL.prog [33]) hk ob 4000 loose w := by
  intro os
  kernel_rfl
theorem facts {P : Program} {w : World} {K : PySem.W.Frag} {h : Heap} {mg : Str → Option Value} {f : Addr} (X : K.In h) (G : h.Ns mainGlobals mg) (hfa : mg ("law" : Str) = some (.ref f)) (c : He.SaysD fa fn K) :
    ∃ fd : FuncData, (∀ (s : Shared) (v : Value), BindsTo s fd ⟨[v], []⟩ [("script", v)]) ∧ ∀ base : Heap, K.In base → base.Ns mainGlobals mg → FnOk P w K mg base CX0 5 f fd ["script"] (sp_law K) := by
  have T := tx_of X G c
  obtain ⟨f2, fd, F, gl⟩ := T.d_law.ex
  obtain rfl : f2 = f := by
    have e := hfa.symm.trans gl
    cases e
    rfl
  have b := FunD.bindsA (ps := ["script"]) F fun _ _ _ _ _ _ us hl => match us, hl with | [_], _ => rfl
  exact ⟨fd, fun s v => b s [v] rfl, fun base _ _ => all_ok T F⟩
end L82
open PySem PySem.W PySem.Calls PyProof.Rows
theorem PySem.Challenge.cw_ownrules_k82_frames_are_read_up_to_the_f_holds : PySem.Challenge.rw_ownrules_k82_frames_are_read_up_to_the_f.Holds := by
  w_on; o_law
  refine HandSHeadRun.head_any (r := OpenLaw.row PySem.Challenge.rw_ownrules_k82_frames_are_read_up_to_the_f) (q := view (OpenLaw.row PySem.Challenge.rw_ownrules_k82_frames_are_read_up_to_the_f).prog [33]) (H := L82.hk) (ob := L82.ob) (M := 4000) (loose := L82.loose) (d := HandSHeadRun.topDef (OpenLaw.row PySem.Challenge.rw_ownrules_k82_frames_are_read_up_to_the_f).prog 33) (kwd := []) L82.ob_eq
    (by kernel_rfl) (fun s => by kernel_rfl) L82.run (by kernel_rfl) (by kernel_rfl) (by kernel_rfl) (by rfl) (by first | assumption | decide +kernel) (by decide +kernel) ⟨rfl, rfl, rfl, rfl, rfl, by decide +kernel⟩ ?hw ?hc
  case hw => w_witness2
  case hc =>
    refine L2.walk_ofE (l := PySem.Challenge.rw_ownrules_k82_frames_are_read_up_to_the_f) (n := 63) (k := 5) (x := "script") (CX := L2.CX0) rfl (by decide) (by kernel_rfl) ⟨rfl, by decide, by decide⟩ ?F (fun _ _ _ _ z => z)
    intro w mg fa h Y G hmg0
    obtain ⟨K, KX, c⟩ := Y
    have hmg : mg ("law" : PySem.Str) = some (.ref fa) := by
      have e : (HandSHeadRun.topDef (OpenLaw.row PySem.Challenge.rw_ownrules_k82_frames_are_read_up_to_the_f).prog 33).name = ("law" : PySem.Str) := by kernel_rfl
      rw [← e]
      exact hmg0
    obtain ⟨fd, hb, hF⟩ := L82.facts (P := (PySem.Challenge.rw_ownrules_k82_frames_are_read_up_to_the_f).prog) (w := w) KX G hmg c
    exact ⟨K, fd, L82.sp_law K, KX, hb, fun H a ns hl _ hS => ⟨a, ns, rfl, hS, hl, fun _ => rfl⟩, hF⟩
