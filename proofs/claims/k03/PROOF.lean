import PyProof.Rows.All
import Wide.All
import OpenK.AllK
import Wide.FinOn
import HandS.ForMost
import HandS.IsInst
import HandS.More
import HandS.Flow
import HandS.Style
import HandS.TupAny
import HandS.Zip
import HandS.Exc
import HandS.Defaults
import HandS.RaiseMore
import HandS.Head0
import HandS.Head1
import HandS.Head2
import HandS.HeadEnd
import HandS.HeadHook1
import HandS.HeadHook2
import HandS.HeadHook3
import HandS.SetFor
import HandS.Conv
import PySem.Challenge.RW_ripplewell_k03_programs
set_option Elab.async false
set_option linter.all false
set_option maxRecDepth 100000
set_option maxHeartbeats 4000000
/-! My own layer over HandS: calls by a bundle, operators over several kinds, simple words. -/
namespace Rp
open PySem L2

/-! ### a def that stands and keeps its promise -/
structure Cal (P : Program) (w : World) (K : PySem.W.Frag) (mg : Str → Option Value) (base : Heap) (x : Str) (CX : CXT) (k : Nat) (sp : Sp) : Prop where
  ex : ∃ f fd ps, FnOk P w K mg base CX k f fd ps sp ∧ mg x = some (.ref f) ∧ PySem.W.keepIn K (.ref f) = true ∧ Binds K fd ps []
section
variable {X : Cx} {CX : CXT} {k : Nat} {sp : Sp} {E : XK} {x : Str} {p pos : Pos} {e : Expr} {es : List Expr} {t : TA}
theorem pe_cal (c : Cal X.prog X.w X.K X.mg X.base x CX k sp) (hr : Room k X.A) (hx : Passes CX X E) (ha : PA X (e :: es) t) (hg : Gl X x := by rfl)
    (hdb : (x == ("__debug__" : Str)) = false := by decide) (he : starEach (e :: es) X.env = (false, eval e X.env) :: starEach es X.env := by rfl) (hpl : (backTo pos (starEach es X.env)).any (·.1) = false := by rfl) :
    PE X (.Call (.Name x p) (e :: es) [] pos) (tCall sp [] E t) := by
  obtain ⟨f, fd, ps, F, hm, hk, hb⟩ := c.ex
  exact pe_call F hr hg hm hk hb .nil hx ha hdb he hpl
theorem pe_cal0 (c : Cal X.prog X.w X.K X.mg X.base x CX k sp) (hr : Room k X.A) (hx : Passes CX X E) (hg : Gl X x := by rfl) (hdb : (x == ("__debug__" : Str)) = false := by decide) :
    PE X (.Call (.Name x p) [] [] pos) (tCall sp [] E tNil) := by
  obtain ⟨f, fd, ps, F, hm, hk, hb⟩ := c.ex
  exact pe_call0 F hr hg hm hk hb .nil hx hdb
/-- a builtin class by its name, as a value -/
theorem pe_tyB {n : String} (hg : Gl X x) (hm : X.mg x = none) (hv : bootBuiltins x = some (.type n)) (hn : x ≠ "__name__" := by decide) (hd : (x == ("__debug__" : Str)) = false := by decide) : PE X (.Name x pos) (tC (.ty n)) :=
  pe_bltn hg hm hv rfl hn hd
theorem pe_gint {i : Int} (hg : Gl X x) (hm : ∃ t, X.mg x = some (.int i t)) (hd : (x == ("__debug__" : Str)) = false := by decide) : PE X (.Name x pos) (tC (.int i)) := by
  obtain ⟨t, hm⟩ := hm
  exact pe_glob hg hm ⟨t, rfl⟩ hd
theorem pe_gstr {z : Str} (hg : Gl X x) (hm : ∃ t, X.mg x = some (.str z t)) (hd : (x == ("__debug__" : Str)) = false := by decide) : PE X (.Name x pos) (tC (.str z)) := by
  obtain ⟨t, hm⟩ := hm
  exact pe_glob hg hm ⟨t, rfl⟩ hd

/-! ### operators over several kinds -/
def rMulS : R2 := fun x y H Q => ∃ z n, x = .str z ∧ y = .int n ∧ z.length ≤ 1 ∧ 0 ≤ n ∧ n ≤ 1000 ∧ Q (.str (Txt.mul z n)) H
theorem op_mulS : OpR X (binaryOp .Mult) rMulS := by
  intro pins s σ H x y v u Q I rx ry h
  obtain ⟨z, n, rfl, rfl, h1, h2, h3, q⟩ := h
  obtain ⟨t, rfl⟩ := rx
  obtain ⟨t', rfl⟩ := ry
  refine PySem.SB.mul (PyProof.Rows.mulOk_of 16 1048576 (by omega) (by omega) (by omega) (by decide) (by decide)) (fun t k => ?_)
  exact ⟨.str _, H, I.tok k, ⟨t, rfl⟩, q⟩
/-- v is True, v is False: v any value but an object of unknown kind -/
def rIsBv : R2 := fun x y H Q => ∃ b : Bool, y = .bl b ∧ (flatV x = true ∨ ∃ a, x = .ref a) ∧ Q (.bl (decide (x = .bl b))) H
theorem op_isB : OpR X (compareOp .Is) rIsBv := by
  intro pins s σ H x y v u Q I rx ry h
  obtain ⟨b, rfl, fx, q⟩ := h
  cases (show u = Value.bool b from ry)
  rcases fx with fx | ⟨a, rfl⟩
  case inr =>
    cases (show v = Value.ref a from rx)
    exact wpAny_is_other rfl (fun z => by cases z) ⟨.bl false, H, I, rfl, by simpa using q⟩
  cases x with
  | non => cases (show v = Value.none from rx); exact wpAny_is_other rfl (fun z => by cases z) ⟨.bl false, H, I, rfl, by simpa using q⟩
  | bl a =>
    cases (show v = Value.bool a from rx)
    by_cases e : a = b
    · subst e; exact wpAny_is_self rfl ⟨.bl true, H, I, rfl, by simpa using q⟩
    · exact wpAny_is_other rfl (fun z => e (Value.bool.inj z)) ⟨.bl false, H, I, rfl, by simpa [e] using q⟩
  | int i => obtain ⟨t, rfl⟩ := rx; exact wpAny_is_other rfl (fun z => by cases z) ⟨.bl false, H, I, rfl, by simpa using q⟩
  | str i => obtain ⟨t, rfl⟩ := rx; exact wpAny_is_other rfl (fun z => by cases z) ⟨.bl false, H, I, rfl, by simpa using q⟩
  | _ => cases fx
end
end Rp
namespace Rp
open PySem L2
/-! ### kinds of things -/
inductive Kd where
  | non | bl | int | str | lst | tup | dic
  deriving DecidableEq
def Kd.nm : Kd → String
  | .non => "NoneType" | .bl => "bool" | .int => "int" | .str => "str" | .lst => "list" | .tup => "tuple" | .dic => "dict"
def Kd.isa : Kd → Kd → Bool
  | .bl, .int => true
  | .non, .non => true | .bl, .bl => true | .int, .int => true | .str, .str => true | .lst, .lst => true | .tup, .tup => true | .dic, .dic => true
  | _, _ => false
theorem kit_tab (a b : Kd) (hb : b ≠ .non) : kitB a.nm b.nm = some (a.isa b) := by
  cases b <;> first | exact absurd rfl hb | (cases a <;> decide +kernel)
def KdOf (K : PySem.W.Frag) (H : Hp) (x : V) (k : Kd) : Prop := TyX K H x (.type k.nm)
section
variable {K : PySem.W.Frag} {H : Hp}
theorem kd_non : KdOf K H .non .non := .base .non
theorem kd_bl {b : Bool} : KdOf K H (.bl b) .bl := .base (.bl b)
theorem kd_int {i : Int} : KdOf K H (.int i) .int := .base (.int i)
theorem kd_str {z : Str} : KdOf K H (.str z) .str := .base (.str z)
theorem kd_lst {a : Addr} {xs : List V} (e : H a = some (.lst xs)) : KdOf K H (.ref a) .lst := .base (.lst e)
theorem kd_tup {a : Addr} {xs : List V} (e : H a = some (.tup xs)) : KdOf K H (.ref a) .tup := .base (.tup e)
theorem kd_dic {a : Addr} {kvs : List (Key × V)} (e : H a = some (.dK kvs)) : KdOf K H (.ref a) .dic := .base (.dK e)
theorem kd_same {H' : Hp} {x : V} {k : Kd} (h : KdOf K H x k) (s : Same H H') : KdOf K H' x k := by
  have g : ∀ t, TyX K H x t → TyX K H' x t := by
    intro t h
    cases h with
    | base b =>
      cases b with
      | non => exact .base .non
      | bl y => exact .base (.bl y)
      | int i => exact .base (.int i)
      | str y => exact .base (.str y)
      | flt y => exact .base (.flt y)
      | lst e => exact .base (.lst (s _ _ e))
      | frz e => exact .base (.frz (s _ _ e))
      | tup e => exact .base (.tup (s _ _ e))
      | dK e => exact .base (.dK (s _ _ e))
      | dT e => exact .base (.dT (s _ _ e))
      | ins e cl ha hn htk hm => exact .base (.ins (s _ _ e) cl ha hn htk hm)
    | byt b => exact .byt b
    | set e => exact .set (s _ _ e)
    | kList e c => exact .kList e c
    | kTuple e c => exact .kTuple e c
    | kDict e c => exact .kDict e c
    | fTuple e => exact .fTuple (s _ _ e)
    | fDict e => exact .fDict (s _ _ e)
  exact g _ h
end
/-- isinstance(e, C), C a built-in class of these -/
def rIsiK (K : PySem.W.Frag) (k : Kd) : List V → Hp → VK → Prop := fun xs H Q => ∃ (x : V) (kk : Kd), xs = [x, .ty k.nm] ∧ KdOf K H x kk ∧ Q (.bl (kk.isa k)) H
theorem call_isiK {X : Cx} {K : PySem.W.Frag} (k : Kd) (hk : k ≠ .non := by decide) (hK : X.K = K := by rfl) : CallR X (.builtin "isinstance") (rIsiK K k) := by
  subst hK
  intro pins s σ H xs us Q I r h
  obtain ⟨x, kk, rfl, hx, q⟩ := h
  exact call_isi pins s σ H _ us Q I r ⟨x, .ty k.nm, _, _, _, rfl, .ty _, hx, kit_ty (kit_tab kk k hk), q⟩
/-! ### calls and operators by several rules -/
def rCatI : R2 := rI0 fun i j => .int (i + j)
def rCatS : R2 := fun x y H Q => ∃ i j, x = .str i ∧ y = .str j ∧ i.length + j.length ≤ sizeLine ∧ Q (.str (i ++ j)) H
def rAddX (K : PySem.W.Frag) : R2 := fun x y H Q => rCatI x y H Q ∨ rCatS x y H Q ∨ rCat x y H Q ∨ rCatA K x y H Q
theorem opAdd {X : Cx} {K : PySem.W.Frag} (hK : X.K = K := by rfl) : OpR X (binaryOp .Add) (rAddX K) := by
  subst hK
  exact OpR.or op_add (OpR.or op_add_str (OpR.or op_cat op_catA))
def rMulI : R2 := rI CMul fun i j => .int (i * j)
def rMulX : R2 := fun x y H Q => rMulI x y H Q ∨ rMulS x y H Q ∨ rRep x y H Q
theorem opMul {X : Cx} : OpR X (binaryOp .Mult) rMulX := OpR.or op_mul (OpR.or op_mulS op_rep)
def rEqX (K : PySem.W.Frag) : R2 := fun x y H Q => rEq x y H Q ∨ rEqD K x y H Q
def rNeX (K : PySem.W.Frag) : R2 := fun x y H Q => rNe x y H Q ∨ rNeD K x y H Q
theorem opEq {X : Cx} {K : PySem.W.Frag} (hu : X.A.units + 64 < cLine) (hK : X.K = K := by rfl) : OpR X (compareOp .Eq) (rEqX K) := by
  subst hK
  exact OpR.or op_eq (op_eqD hu)
theorem opNe {X : Cx} {K : PySem.W.Frag} (hu : X.A.units + 64 < cLine) (hK : X.K = K := by rfl) : OpR X (compareOp .NotEq) (rNeX K) := by
  subst hK
  exact OpR.or op_ne (op_neD hu)
def rInSg : R2 := fun x y H Q => ∃ (c : Nat) (z : Str), x = .str ⟨#[c]⟩ ∧ y = .str z ∧ Q (.bl (decide (c ∈ z.cps.toList))) H
def rNiSg : R2 := fun x y H Q => ∃ (c : Nat) (z : Str), x = .str ⟨#[c]⟩ ∧ y = .str z ∧ Q (.bl (!decide (c ∈ z.cps.toList))) H
def rInX (K : PySem.W.Frag) : R2 := fun x y H Q => rInSg x y H Q ∨ rIn K false x y H Q
def rNiX (K : PySem.W.Frag) : R2 := fun x y H Q => rNiSg x y H Q ∨ rIn K true x y H Q
theorem opIn {X : Cx} {K : PySem.W.Frag} (hK : X.K = K := by rfl) : OpR X (compareOp .In) (rInX K) := by
  subst hK
  exact OpR.or op_in_sign op_in_seq
theorem opNotIn {X : Cx} {K : PySem.W.Frag} (hK : X.K = K := by rfl) : OpR X (compareOp .NotIn) (rNiX K) := by
  subst hK
  exact OpR.or op_notIn_sign op_notIn_seq
def isNonV : V → Bool
  | .non => true
  | _ => false
theorem isNonV_eq (x : V) : isNonV x = decide (x = .non) := by cases x <;> simp [isNonV]
def rIsNX : R2 := fun x y H Q => y = .non ∧ Q (.bl (isNonV x)) H
def rNotNX : R2 := fun x y H Q => y = .non ∧ Q (.bl (!isNonV x)) H
theorem opIsN {X : Cx} : OpR X (compareOp .Is) rIsNX := by
  intro pins s σ H x y v u Q I rx ry h
  obtain ⟨e, q⟩ := h
  exact op_isN pins s σ H x y v u Q I rx ry ⟨e, by rw [← isNonV_eq]; exact q⟩
theorem opNotN {X : Cx} : OpR X (compareOp .IsNot) rNotNX := by
  intro pins s σ H x y v u Q I rx ry h
  obtain ⟨e, q⟩ := h
  exact op_notN pins s σ H x y v u Q I rx ry ⟨e, by rw [← isNonV_eq]; exact q⟩
def rLenX (K : PySem.W.Frag) : List V → Hp → VK → Prop := fun xs H Q => ∃ x n, xs = [x] ∧ LenV K x H n ∧ (n ≤ sizeLine → Q (.int n) H)
theorem callLen {X : Cx} {K : PySem.W.Frag} (hK : X.K = K := by rfl) : CallR X (.builtin "len") (rLenX K) := by
  subst hK
  intro pins s σ H xs us Q I r h
  obtain ⟨x, n, rfl, e, q⟩ := h
  refine call_len pins s σ H _ us Q I r ⟨x, n, rfl, e, q ?_⟩
  cases x with
  | str y => exact e.2 ▸ e.1
  | byt y => exact e.2 ▸ e.1
  | ref a =>
    rcases e with ⟨ys, h, rfl⟩ | ⟨ys, h, rfl⟩
    · obtain ⟨_, _, _, z⟩ := I.list h
      exact z
    · obtain ⟨_, _, _, z⟩ := I.tuple h
      exact z
  | _ => exact e.elim
def rStrX : List V → Hp → VK → Prop := fun xs H Q => (∃ i : Int, xs = [.int i] ∧ i.natAbs.log2 < 1920 ∧ Q (.str (toString i)) H) ∨ ∃ a, xs = [.str a] ∧ Q (.str a) H
theorem callStr {X : Cx} : CallR X (.type "str") rStrX := CallR.or call_str_int SkE.call_str_str
def rIntX : List V → Hp → VK → Prop := fun xs H Q => (∃ i, xs = [.int i] ∧ Q (.int i) H) ∨ ∃ k, xs = [.bl k] ∧ Q (.int (if k then 1 else 0)) H
theorem callInt {X : Cx} : CallR X (.type "int") rIntX := call_int1
def rAbsX : List V → Hp → VK → Prop := fun xs H Q => ∃ i, xs = [.int i] ∧ Q (.int (if i < 0 then -i else i)) H
theorem callAbs {X : Cx} : CallR X (.builtin "abs") rAbsX := call_abs
end Rp
namespace Rp
open PySem L2
/-! ### readings, step by step -/
/-- a new object o at p -/
structure Alloc (H : Hp) (p : Addr) (o : HO) (H' : Hp) : Prop where
  nw : H p = none
  eq : H' = upd H p o
theorem Alloc.same {H H' : Hp} {p : Addr} {o : HO} (A : Alloc H p o H') : Same H H' := by
  obtain ⟨h, rfl⟩ := A
  exact fun b u q => by rw [upd_ne (ne_of_none q h)]; exact q
theorem Alloc.at_ {H H' : Hp} {p : Addr} {o : HO} (A : Alloc H p o H') : H' p = some o := by
  obtain ⟨h, rfl⟩ := A
  exact upd_same
theorem al {xs : List V} {R : Addr → Hp → Prop} {H : Hp} {o : HO} (h : xs.length ≤ 1000000) (q : ∀ p H', Alloc H p o H' → R p H') : xs.length ≤ sizeLine ∧ ∀ p H', Alloc H p o H' → R p H' := ⟨Nat.le_trans h (by decide), q⟩
section
variable {K : PySem.W.Frag} {σ : St} {H : Hp} {i : Nat} {v x y : V} {ta tb te : TE} {Q : VK} {D : Ends} {t u : TS} {r : R2} {c d : TT} {B : Bool → Hp → Prop} {tl : TA} {QA : List V → Hp → Prop} {sp : Sp} {E : XK}
theorem w_var (h : σ[i]? = some (some v)) (q : Q v H) : tVar i σ H Q := ⟨v, h, q⟩
theorem w_c (q : Q v H) : tC v σ H Q := q
theorem w_op (q : ta σ H fun x H1 => tb σ H1 fun y H2 => r x y H2 Q) : tOp r ta tb σ H Q := q
theorem w_cb {r : List V → Hp → VK → Prop} (q : tl σ H fun vs H1 => r vs H1 Q) : tCB r tl σ H Q := q
theorem w_call (q : tl σ H fun vs H1 => sp (vs ++ []) H1 Q E) : tCall sp [] E tl σ H Q := q
theorem w_cons {tr : TA} (q : te σ H fun x H1 => tr σ H1 fun xs H2 => QA (x :: xs) H2) : tCons te tr σ H QA := q
theorem w_nil (q : QA [] H) : tNil σ H QA := q
theorem w_seq (q : t { D with nx := u D } σ H) : tSeq t u D σ H := q
theorem w_next (q : D.nx σ H) : tNext D σ H := q
theorem w_ret (q : te σ H D.rt) : tRet te D σ H := q
theorem w_set (q : te σ H fun x H1 => D.nx (σ.set i (some x)) H1) : tAsg te (gName i) D σ H := q
theorem w_drop (q : te σ H fun _ H1 => D.nx σ H1) : tDrop te D σ H := q
theorem w_if (q : c σ H fun b H1 => if b = true then t D σ H1 else u D σ H1) : tIfS c t u D σ H := q
theorem w_ifx (q : c σ H fun b H1 => if b = true then ta σ H1 Q else tb σ H1 Q) : tIf c ta tb σ H Q := q
theorem w_test (q : te σ H fun x H1 => ∃ k, x = .bl k ∧ B k H1) : tTest te σ H B := q
theorem w_tb (q : te σ H fun x H1 => ∃ k, x = .bl k ∧ B k H1) : tB te σ H B := q
theorem w_not (q : c σ H fun b H1 => B (!b) H1) : tNot c σ H B := q
theorem w_and (q : c σ H fun b H1 => if b = true then d σ H1 B else B false H1) : tAnd c d σ H B := q
theorem w_or (q : c σ H fun b H1 => if b = true then B true H1 else d σ H1 B) : tOr c d σ H B := q
theorem w_andV (q : ta σ H fun x H1 => ∃ k, x = .bl k ∧ if k = true then tb σ H1 Q else Q (.bl false) H1) : tAndV ta tb σ H Q := q
theorem w_orV (q : ta σ H fun x H1 => ∃ k, x = .bl k ∧ if k = true then Q (.bl true) H1 else tb σ H1 Q) : tOrV ta tb σ H Q := q
theorem w_notV (q : ta σ H fun x H1 => ∃ k, x = .bl k ∧ Q (.bl (!k)) H1) : tNotV ta σ H Q := q
theorem w_exb {b : Bool} {P : Bool → Prop} (q : P b) : ∃ k, (V.bl b) = .bl k ∧ P k := ⟨b, rfl, q⟩
theorem w_chain {r r' : R2} {tc : TE} (q : ta σ H fun x H1 => tb σ H1 fun y H2 => r x y H2 fun z H3 => ∃ k, z = .bl k ∧ (if k = true then tc σ H3 fun w' H4 => r' y w' H4 Q else Q (.bl false) H3)) : tChain r r' ta tb tc σ H Q := q
theorem qb {b b' : Bool} (q : Q (.bl b) H) (e : b = b') : Q (.bl b') H := e ▸ q
theorem qv {v v' : V} (q : Q v H) (e : v = v') : Q v' H := e ▸ q
theorem w_T {A C : Prop} (q : A) : if true = true then A else C := by rw [if_pos rfl]; exact q
theorem w_F {A C : Prop} (q : C) : if false = true then A else C := by rw [if_neg Bool.false_ne_true]; exact q
theorem w_nT {A C : Prop} (q : C) : if (!true) = true then A else C := w_F q
theorem w_nF {A C : Prop} (q : A) : if (!false) = true then A else C := w_T q
theorem w_b {b : Bool} {A C : Prop} (q1 : b = true → A) (q2 : b = false → C) : if b = true then A else C := by
  cases b with
  | true => exact w_T (q1 rfl)
  | false => exact w_F (q2 rfl)
-- operators on known values
theorem v_addI {i j : Int} (q : Q (.int (i + j)) H) : rAddX K (.int i) (.int j) H Q := .inl ⟨i, j, rfl, rfl, q⟩
theorem v_subI {i j : Int} (q : Q (.int (i - j)) H) : rI0 (fun i j => .int (i - j)) (.int i) (.int j) H Q := ⟨i, j, rfl, rfl, q⟩
theorem v_cmpI {f : Int → Int → V} {i j : Int} (q : Q (f i j) H) : rI0 f (.int i) (.int j) H Q := ⟨i, j, rfl, rfl, q⟩
theorem v_isN (q : Q (.bl (isNonV x)) H) : rIsNX x .non H Q := ⟨rfl, q⟩
theorem v_notN (q : Q (.bl (!isNonV x)) H) : rNotNX x .non H Q := ⟨rfl, q⟩
theorem w_bT {b : Bool} {A C : Prop} (e : b = true) (q : A) : if b = true then A else C := by rw [if_pos e]; exact q
theorem w_bF {b : Bool} {A C : Prop} (e : b = false) (q : C) : if b = true then A else C := by rw [e]; exact w_F q
theorem v_isB {b : Bool} (h : flatV x = true) (q : Q (.bl (decide (x = .bl b))) H) : rIsBv x (.bl b) H Q := ⟨b, rfl, .inl h, q⟩
theorem v_isBr {b : Bool} {a : Addr} (q : Q (.bl false) H) : rIsBv (.ref a) (.bl b) H Q := ⟨b, rfl, .inr ⟨a, rfl⟩, by simpa using q⟩
theorem v_int {i : Int} (q : Q (.int i) H) : rIntX [.int i] H Q := .inl ⟨i, rfl, q⟩
theorem v_intB {b : Bool} (q : Q (.int (if b then 1 else 0)) H) : rIntX [.bl b] H Q := .inr ⟨b, rfl, q⟩
theorem v_strI {i : Int} (h : i.natAbs.log2 < 1920) (q : Q (.str (toString i)) H) : rStrX [.int i] H Q := .inl ⟨i, rfl, h, q⟩
theorem v_strS {z : Str} (q : Q (.str z) H) : rStrX [.str z] H Q := .inr ⟨z, rfl, q⟩
theorem v_abs {i : Int} (q : Q (.int (if i < 0 then -i else i)) H) : rAbsX [.int i] H Q := ⟨i, rfl, q⟩
theorem v_neg {g : Int → V} {i : Int} (q : Q (g i) H) : rU g (.int i) H Q := ⟨i, rfl, q⟩
theorem w_un {r : V → Hp → VK → Prop} (q : ta σ H fun x H1 => r x H1 Q) : tUn r ta σ H Q := q
theorem v_mod {i j : Int} (h : 0 < j) (q : Q (.int (i % j)) H) : rI (fun _ j => 0 < j) (fun i j => .int (i % j)) (.int i) (.int j) H Q := ⟨i, j, rfl, rfl, h, q⟩
theorem v_fdiv {i j : Int} (h : CDiv i j) (q : Q (.int (i / j)) H) : rI CDiv (fun i j => .int (i / j)) (.int i) (.int j) H Q := ⟨i, j, rfl, rfl, h, q⟩
theorem v_mulI {i j : Int} (h : CMul i j) (q : Q (.int (i * j)) H) : rMulX (.int i) (.int j) H Q := .inl ⟨i, j, rfl, rfl, h, q⟩
theorem v_mulS {z : Str} {n : Int} (h1 : z.length ≤ 1) (h2 : 0 ≤ n) (h3 : n ≤ 1000) (q : Q (.str (Txt.mul z n)) H) : rMulX (.str z) (.int n) H Q := .inr (.inl ⟨z, n, rfl, rfl, h1, h2, h3, q⟩)
theorem v_cat {l b : Addr} {xs zs : List V} (h1 : H l = some (.lst xs)) (h2 : H b = some (.lst zs)) (h3 : xs.length + zs.length ≤ sizeLine) (q : ∀ p, H p = none → Q (.ref p) (upd H p (.lst (xs ++ zs)))) : rAddX K (.ref l) (.ref b) H Q := .inr (.inr (.inl ⟨l, b, xs, zs, rfl, rfl, h1, h2, h3, q⟩))
theorem v_ixL {p : Addr} {xs : List V} {i : Int} (h : SqL K H p xs) (h2 : atI xs i = some v) (q : Q v H) : rIx K (.ref p) (.int i) H Q := .inl ⟨p, xs, i, v, rfl, rfl, h, h2, q⟩
theorem v_ixT {p : Addr} {xs : List V} {i : Int} (h : SqT K H p xs) (h2 : atI xs i = some v) (q : Q v H) : rIx K (.ref p) (.int i) H Q := .inr (.inl ⟨p, xs, i, v, rfl, rfl, h, h2, q⟩)
theorem w_lst {xs : List V} (h : xs.length ≤ sizeLine) (q : ∀ p, H p = none → Q (.ref p) (upd H p (.lst xs))) : (fun (xs : List V) (H1 : Hp) => xs.length ≤ sizeLine ∧ ∀ p, H1 p = none → Q (.ref p) (upd H1 p (.lst xs))) xs H := ⟨h, q⟩
theorem w_tlst (q : tl σ H fun xs H1 => xs.length ≤ sizeLine ∧ ∀ p H', Alloc H1 p (.lst xs) H' → Q (.ref p) H') : tLst tl σ H Q := by
  have e : (fun (xs : List V) (H1 : Hp) => xs.length ≤ sizeLine ∧ ∀ p H', Alloc H1 p (.lst xs) H' → Q (.ref p) H') = fun xs H1 => xs.length ≤ sizeLine ∧ ∀ p, H1 p = none → Q (.ref p) (upd H1 p (.lst xs)) := by
    funext xs H1
    exact propext ⟨fun h => ⟨h.1, fun p hp => h.2 p _ ⟨hp, rfl⟩⟩, fun h => ⟨h.1, fun p H' ⟨hp, e⟩ => e ▸ h.2 p hp⟩⟩
  rw [e] at q
  exact q
theorem w_ttup (q : tl σ H fun xs H1 => xs.length ≤ sizeLine ∧ ∀ p H', Alloc H1 p (.tup xs) H' → Q (.ref p) H') : tTup tl σ H Q := by
  have e : (fun (xs : List V) (H1 : Hp) => xs.length ≤ sizeLine ∧ ∀ p H', Alloc H1 p (.tup xs) H' → Q (.ref p) H') = fun xs H1 => xs.length ≤ sizeLine ∧ ∀ p, H1 p = none → Q (.ref p) (upd H1 p (.tup xs)) := by
    funext xs H1
    exact propext ⟨fun h => ⟨h.1, fun p hp => h.2 p _ ⟨hp, rfl⟩⟩, fun h => ⟨h.1, fun p H' ⟨hp, e⟩ => e ▸ h.2 p hp⟩⟩
  rw [e] at q
  exact q
theorem w_asgE {g : TG} (q : te σ H fun x H1 => g x σ H1 D.nx) : tAsg te g D σ H := q
theorem w_sub {t : V → V → V → Hp → (Hp → Prop) → Prop} {q' : St → Hp → Prop} (q : ta σ H fun o H1 => tb σ H1 fun i H2 => t o i v H2 fun H3 => q' σ H3) : gSub ta tb t v σ H q' := q
theorem v_setL {p : Addr} {xs : List V} {k : Int} {j : Nat} {R : Hp → Prop} (h : H p = some (.lst xs)) (h2 : ixN xs.length k = some j) (q : R (upd H p (.lst (xs.set j v)))) : rSetL (.ref p) (.int k) v H R := ⟨p, xs, k, j, rfl, rfl, h, h2, q⟩
theorem w_bm {T : String} {r : V → List V → Hp → VK → Prop} (q : ta σ H fun x H1 => tyV K T x H1 ∧ tl σ H1 fun xs H2 => r x xs H2 Q) : tBM K T r ta tl σ H Q := q
theorem v_app {l : Addr} {xs : List V} (h : H l = some (.lst xs)) (h2 : xs.length < sizeLine) (q : Q .non (upd H l (.lst (xs ++ [y])))) : rAppend (.ref l) [y] H Q := ⟨l, xs, y, rfl, rfl, h, h2, q⟩
theorem v_eq (h : scal x y = true) (q : Q (.bl (decide (x = y))) H) : rEqX K x y H Q := .inl ⟨h, q⟩
theorem v_ne (h : scal x y = true) (q : Q (.bl (!decide (x = y))) H) : rNeX K x y H Q := .inl ⟨h, q⟩
theorem v_lenS {z : Str} (h : z.length ≤ sizeLine) (q : Q (.int z.length) H) : rLenX K [.str z] H Q := ⟨_, _, rfl, ⟨h, rfl⟩, fun _ => q⟩
theorem v_lenL {a : Addr} {xs : List V} (h : SqL K H a xs) (q : Q (.int xs.length) H) : rLenX K [.ref a] H Q := ⟨_, _, rfl, .inl ⟨xs, h, rfl⟩, fun _ => q⟩
theorem v_lenLb {a : Addr} {xs : List V} (h : SqL K H a xs) (q : xs.length ≤ sizeLine → Q (.int xs.length) H) : rLenX K [.ref a] H Q := ⟨_, _, rfl, .inl ⟨xs, h, rfl⟩, q⟩
theorem v_lenT {a : Addr} {xs : List V} (h : SqT K H a xs) (q : Q (.int xs.length) H) : rLenX K [.ref a] H Q := ⟨_, _, rfl, .inr ⟨xs, h, rfl⟩, fun _ => q⟩
theorem v_lenTb {a : Addr} {xs : List V} (h : SqT K H a xs) (q : xs.length ≤ sizeLine → Q (.int xs.length) H) : rLenX K [.ref a] H Q := ⟨_, _, rfl, .inr ⟨xs, h, rfl⟩, q⟩
theorem small_line {n : Nat} (h : n ≤ sizeLine) : n ≤ 16777216 := Nat.le_trans h (by decide)
theorem v_isi {k kk : Kd} (h : KdOf K H x kk) (q : Q (.bl (kk.isa k)) H) : rIsiK K k [x, .ty k.nm] H Q := ⟨x, kk, rfl, h, q⟩
theorem w_name {P : L2.St → Hp → Prop} (q : P (σ.set i (some v)) H) : gName i v σ H P := q
theorem v_pow {i j : Int} (h : CPow i j) (q : Q (.int (i ^ j.toNat)) H) : rI CPow (fun i j => .int (i ^ j.toNat)) (.int i) (.int j) H Q := ⟨i, j, rfl, rfl, h, q⟩
theorem hu64 {A : Around} {k : Nat} (hr : Room k A) : A.units + 64 < cLine := Nat.lt_of_le_of_lt (by omega) hr.un
def tTruT (K : PySem.W.Frag) (te : TE) : TT := fun σ H Q => te σ H fun x H1 => ∃ k, TruV K x H1 k ∧ Q k H1
theorem w_tru (q : te σ H fun x H1 => ∃ k, TruV K x H1 k ∧ B k H1) : tTruT K te σ H B := q
theorem w_notT (q : te σ H fun x H1 => ∃ k, TruV K x H1 k ∧ Q (.bl (!k)) H1) : tNotT K te σ H Q := q
theorem t_bl {b : Bool} {P : Bool → Prop} (q : P b) : ∃ k, TruV K (.bl b) H k ∧ P k := ⟨b, rfl, q⟩
theorem t_non {P : Bool → Prop} (q : P false) : ∃ k, TruV K .non H k ∧ P k := ⟨false, rfl, q⟩
theorem t_int {i : Int} {P : Bool → Prop} (q : P (i != 0)) : ∃ k, TruV K (.int i) H k ∧ P k := ⟨_, rfl, q⟩
theorem t_lst {a : Addr} {xs : List V} {P : Bool → Prop} (h : SqL K H a xs) (q : P (!xs.isEmpty)) : ∃ k, TruV K (.ref a) H k ∧ P k := ⟨_, .inl ⟨xs, h, rfl⟩, q⟩
theorem t_tup {a : Addr} {xs : List V} {P : Bool → Prop} (h : SqT K H a xs) (q : P (!xs.isEmpty)) : ∃ k, TruV K (.ref a) H k ∧ P k := ⟨_, .inr (.inl ⟨xs, h, rfl⟩), q⟩
end
theorem ty_lst {K : PySem.W.Frag} {a : Addr} {xs : List V} {H : Hp} (h : SqL K H a xs) : tyV K "list" (.ref a) H := .inl ⟨rfl, _, h⟩
section
variable {X : Cx} {K : PySem.W.Frag} {a : Expr} {ta : TE} {pos : Pos}
theorem pt_tru (ha : PE X a ta) (he : ∀ whole, isTrue a X.env whole = (do let v ← whole; standAt a.pos; holding [v] (truthy v)) := by intro _; rfl) (hK : X.K = K := by rfl) : PT X a (tTruT K ta) := by
  subst hK
  exact pt_truth ha he
theorem pe_nt (ha : PE X a ta) (hK : X.K = K := by rfl) : PE X (.UnaryOp .Not a pos) (tNotT K ta) := by
  subst hK
  exact pe_notT ha
end
end Rp
namespace Rp
open PySem L2
/-! ### what the small defs compute -/
def LETTERS : Str := "abcdefghijklmnopqrstuvwxyz"
def isIntV : V → Bool
  | .int _ => true
  | _ => false
def isValV : V → Bool
  | .non => true
  | .bl _ => true
  | .int i => decide (0 ≤ i) && decide (i < 1000)
  | .str z => decide (z.length ≤ 40)
  | _ => false
def isKeyV : V → Bool
  | .str z => (decide (1 ≤ z.length) && decide (z.length ≤ 8)) && z.cps.toList.all (fun c => decide (c ∈ LETTERS.cps.toList))
  | _ => false
/-- [sign in LETTERS for sign in z] -/
def signKeyV : V → V
  | .str z => .bl (decide (z.cps.getD 0 0 ∈ LETTERS.cps.toList))
  | _ => .non
def isBlV : V → Bool
  | .bl _ => true
  | _ => false
def sortV : V → Int
  | .non => 0
  | .bl _ => 1
  | .int _ => 2
  | _ => 3
def textV : V → Str
  | .non => "none"
  | .bl true => "true"
  | .bl false => "false"
  | .int i => toString i
  | .str z => z
  | _ => ""
def emptyV : V → Bool
  | .non => true
  | .bl b => !b
  | .int i => decide (i = 0)
  | .str z => decide (z = "")
  | _ => false
/-- a thing with its kind -/
inductive Kn (K : PySem.W.Frag) (H : Hp) : V → Kd → Prop where
  | non : Kn K H .non .non
  | bl (b : Bool) : Kn K H (.bl b) .bl
  | int (i : Int) : Kn K H (.int i) .int
  | str (z : Str) (h : z.length ≤ 1000) : Kn K H (.str z) .str
  | lst (a : Addr) (h : KdOf K H (.ref a) .lst) : Kn K H (.ref a) .lst
  | tup (a : Addr) (h : KdOf K H (.ref a) .tup) : Kn K H (.ref a) .tup
  | dic (a : Addr) (h : KdOf K H (.ref a) .dic) : Kn K H (.ref a) .dic
theorem Kn.same {K : PySem.W.Frag} {H H' : Hp} {v : V} {k : Kd} (h : Kn K H v k) (s : Same H H') : Kn K H' v k := by
  cases h with
  | non => exact .non
  | bl b => exact .bl b
  | int i => exact .int i
  | str z h => exact .str z h
  | lst a h => exact .lst a (kd_same h s)
  | tup a h => exact .tup a (kd_same h s)
  | dic a h => exact .dic a (kd_same h s)
theorem Kn.kd {K : PySem.W.Frag} {H : Hp} {v : V} {k : Kd} (h : Kn K H v k) : KdOf K H v k := by
  cases h with
  | non => exact kd_non
  | bl b => exact kd_bl
  | int i => exact kd_int
  | str z h => exact kd_str
  | lst a h => exact h
  | tup a h => exact h
  | dic a h => exact h
/-- a flat thing that may be shown -/
def Flat (v : V) : Prop := flatV v = true ∧ (∀ z, v = .str z → z.length ≤ 1000) ∧ (∀ i, v = .int i → -1000000 ≤ i ∧ i ≤ 1000000)
theorem same_upd {H : Hp} {p : Addr} {o : HO} (h : H p = none) : Same H (upd H p o) := fun b u q => by rw [upd_ne (ne_of_none q h)]; exact q
theorem line1000 {n : Nat} (h : n ≤ 1000000) : n ≤ sizeLine := Nat.le_trans h (by decide)
theorem line1000' {n : Nat} (h : n ≤ 1000000) : n < sizeLine := Nat.lt_of_le_of_lt h (by decide)
theorem Same.seqT {K : PySem.W.Frag} {H H' : Hp} {a : Addr} {xs : List V} (e : Same H H') (h : SqT K H a xs) : SqT K H' a xs := by
  rcases h with (h | ⟨o, h⟩) | h
  · exact .inl (.inl (e _ _ h))
  · exact .inl (.inr ⟨o, e _ _ h⟩)
  · exact .inr h
/-- all but b is as it was -/
def SameBut (b : Addr) (H H' : Hp) : Prop := ∀ x o, H x = some o → x ≠ b → H' x = some o
theorem SameBut.of {b : Addr} {H H' : Hp} (s : Same H H') : SameBut b H H' := fun x o h _ => s x o h
theorem SameBut.trans {b : Addr} {H H1 H2 : Hp} (s : SameBut b H H1) (t : SameBut b H1 H2) : SameBut b H H2 := fun x o h n => t x o (s x o h n) n
theorem SameBut.seq {K : PySem.W.Frag} {b a : Addr} {H H' : Hp} {xs : List V} (s : SameBut b H H') (n : a ≠ b) (h : SqL K H a xs) : SqL K H' a xs := by
  rcases h with (h | ⟨o, h⟩) | h
  · exact .inl (.inl (s _ _ h n))
  · exact .inl (.inr ⟨o, s _ _ h n⟩)
  · exact .inr h
theorem seq_keep {K : PySem.W.Frag} {b a : Addr} {H H' : Hp} {xs : List V} (h : SqL K H a xs) (hb : H b = none) (s : SameBut b H H') : SqL K H' a xs := by
  rcases h with (h | ⟨o, h⟩) | h
  · exact .inl (.inl (s _ _ h (ne_of_none h hb)))
  · exact .inl (.inr ⟨o, s _ _ h (ne_of_none h hb)⟩)
  · exact .inr h
theorem SameBut.upd {b : Addr} {H : Hp} {o : HO} : SameBut b H (upd H b o) := fun x u h n => by rw [upd_ne n]; exact h
theorem SameBut.none {b p : Addr} {H H' : Hp} (s : SameBut b H H') (n : p ≠ b) (h : H' p = Option.none) : H p = Option.none := by
  cases q : H p with
  | none => rfl
  | some o => rw [s p o q n] at h; cases h
theorem SameBut.up {b p : Addr} {H H' : Hp} {o : HO} (s : SameBut b H H') (h : H p = Option.none) : SameBut b H (L2.upd H' p o) := fun x u q n => by rw [upd_ne (ne_of_none q h)]; exact s x u q n
end Rp
namespace Rp
open PySem L2
/-! ### what a for or a comprehension walks, by the list of its items -/
structure ItOf (J : It) (xs : List V) (ok : Hp → Prop) : Prop where
  go : ∀ i H, ok H → i < xs.length → J.go i H
  yld : ∀ i H x H', ok H → i < xs.length → J.yld i H x H' → H' = H ∧ xs[i]? = some x
  stop : ∀ i H, ok H → xs.length ≤ i → J.stop i H
theorem it_list {K : PySem.W.Frag} {a : Addr} {xs : List V} : ItOf (Itl K a) xs (fun H => SqL K H a xs) where
  go := fun i H h hi => ⟨xs, xs[i], h, List.getElem?_eq_getElem hi⟩
  yld := fun i H x H' h _ y => ⟨y.1, y.2 xs h⟩
  stop := fun i H h hi => ⟨xs, h, hi⟩
theorem it_tup {K : PySem.W.Frag} {a : Addr} {xs : List V} : ItOf (Itt K a) xs (fun H => SqT K H a xs) where
  go := fun i H h hi => ⟨xs, xs[i], h, List.getElem?_eq_getElem hi⟩
  yld := fun i H x H' h _ y => ⟨y.1, y.2 xs h⟩
  stop := fun i H h hi => ⟨xs, h, hi⟩
def signsV (z : Str) : List V := z.cps.toList.map fun c => V.str ⟨#[c]⟩
theorem it_str {z : Str} : ItOf (Its z) (signsV z) (fun _ => True) where
  go := fun i H _ hi => by
    have e : (signsV z).length = z.cps.size := by simp [signsV]
    show i < z.cps.size
    omega
  yld := fun i H x H' _ _ y => by
    obtain ⟨e, c, hc, rfl⟩ := y
    refine ⟨e, ?_⟩
    simp [signsV, hc]
  stop := fun i H _ hi => by
    have e : (signsV z).length = z.cps.size := by simp [signsV]
    show z.cps.size ≤ i
    omega
theorem signKey_all (z : Str) : ((signsV z).filter fun _ => true).map signKeyV = (z.cps.toList.map fun c => decide (c ∈ LETTERS.cps.toList)).map V.bl := by
  rw [List.filter_eq_self.mpr (fun _ _ => rfl)]
  simp only [signsV, List.map_map]
  exact List.map_congr_left fun c _ => by simp [signKeyV]
theorem signKey_is (l : List Nat) : (l.map fun c => decide (c ∈ LETTERS.cps.toList)).all id = l.all fun c => decide (c ∈ LETTERS.cps.toList) := by
  simp [List.all_map]
def rangeV (lo : Int) (n : Nat) : List V := (List.range n).map fun (k : Nat) => V.int (lo + (k : Int))
theorem rangeV_get {lo : Int} {n i : Nat} {v : V} (h : (rangeV lo n)[i]? = some v) : i < n ∧ v = .int (lo + (i : Int)) := by
  obtain ⟨h1, h2⟩ := List.getElem?_eq_some_iff.mp h
  have e : (rangeV lo n).length = n := by simp [rangeV]
  refine ⟨by omega, ?_⟩
  rw [← h2]
  simp [rangeV]
theorem it_range {lo : Int} {n : Nat} : ItOf (Itr lo n) (rangeV lo n) (fun _ => True) where
  go := fun i H _ hi => by
    have e : (rangeV lo n).length = n := by simp [rangeV]
    show i < n
    omega
  yld := fun i H x H' _ hi y => by
    obtain ⟨e, hx⟩ := y
    have e2 : (rangeV lo n).length = n := by simp [rangeV]
    refine ⟨e, ?_⟩
    subst hx
    simp [rangeV, show i < n by omega]
  stop := fun i H _ hi => by
    have e : (rangeV lo n).length = n := by simp [rangeV]
    show n ≤ i
    omega

/-- an expression gives v, the heap at most grown -/
def ValS (te : TE) (σ : L2.St) (H : Hp) (v : V) : Prop := ∀ Q : VK, (∀ H', Same H H' → Q v H') → te σ H Q
def AnsS (t : TT) (σ : L2.St) (H : Hp) (b : Bool) : Prop := ∀ Q : Bool → Hp → Prop, (∀ H', Same H H' → Q b H') → t σ H Q
section
variable {J : It} {xs : List V} {ok : Hp → Prop} {g : TG} {tb : TS} {D : Ends} {σ : L2.St} {H : Hp} {tt : TT} {te : TE} {vs : List Nat} {Q : VK}
/-- a for over these items -/
theorem for_it (W : ItOf J xs ok) (Pv : Nat → L2.St → Hp → Prop) (h0 : Pv 0 σ H) (hok : ∀ i σ H, i ≤ xs.length → Pv i σ H → ok H)
    (hs : ∀ i x σ H, xs[i]? = some x → Pv i σ H → g x σ H fun σ2 H2 => tb { D with nx := Pv (i + 1), ct := Pv (i + 1), bk := D.nx } σ2 H2) (hd : ∀ σ H, Pv xs.length σ H → D.nx σ H) :
    ∃ W : Nat → Nat → L2.St → Hp → Prop, (∃ m, W 0 m σ H) ∧ ∀ i m σ H, W i m σ H →
      (J.stop i H ∧ D.nx σ H) ∨ (J.go i H ∧ ∃ N : L2.St → Hp → Prop, (∀ σ' H', N σ' H' → ∃ m', m' < m ∧ W (i + 1) m' σ' H') ∧ ∀ x H', J.yld i H x H' → g x σ H' fun σ2 H2 => tb { D with nx := N, ct := N, bk := D.nx } σ2 H2) := by
  refine ⟨fun i m σ H => m = xs.length - i ∧ i ≤ xs.length ∧ Pv i σ H, ⟨xs.length, by simp, Nat.zero_le _, h0⟩, ?_⟩
  rintro i m σ H ⟨rfl, hi, p⟩
  have q := hok i σ H hi p
  by_cases hlt : i < xs.length
  · refine .inr ⟨W.go i H q hlt, Pv (i + 1), fun σ' H' p' => ⟨xs.length - (i + 1), by omega, rfl, hlt, p'⟩, fun x H' y => ?_⟩
    obtain ⟨e, hx⟩ := W.yld i H x H' q hlt y
    subst e
    exact hs i x σ _ hx p
  · have e : i = xs.length := by omega
    subst e
    exact .inl ⟨W.stop _ H q (Nat.le_refl _), hd σ H p⟩
/-- a comprehension over these items -/
theorem lc_it {Qd : Hp → Prop} {Dl : Addr} (W : ItOf J xs ok) (Pv : Nat → Hp → Prop) (h0 : Pv 0 (upd H Dl (.lst []))) (hok : ∀ i H, i ≤ xs.length → Pv i H → ok H)
    (hs : ∀ i x H, xs[i]? = some x → Pv i H → g x (wipe σ vs) H fun σ2 H2 => wipe σ2 vs = wipe σ vs ∧ tt σ2 H2 fun b H3 =>
      if b = true then te σ2 H3 fun y H4 => ∃ acc, H4 Dl = some (.lst acc) ∧ acc.length < sizeLine ∧ Pv (i + 1) (upd H4 Dl (.lst (acc ++ [y]))) else Pv (i + 1) H3) (hd : ∀ H, Pv xs.length H → Qd H) :
    ∃ W : Nat → Nat → Hp → Prop, (∃ m, W 0 m (upd H Dl (.lst []))) ∧ ∀ i m H, W i m H →
      (J.stop i H ∧ Qd H) ∨ (J.go i H ∧ ∃ Nx : Hp → Prop, (∀ H', Nx H' → ∃ m', m' < m ∧ W (i + 1) m' H') ∧ ∀ x H', J.yld i H x H' → g x (wipe σ vs) H' fun σ2 H2 => wipe σ2 vs = wipe σ vs ∧ tt σ2 H2 fun b H3 =>
        if b = true then te σ2 H3 fun y H4 => ∃ acc, H4 Dl = some (.lst acc) ∧ acc.length < sizeLine ∧ Nx (upd H4 Dl (.lst (acc ++ [y]))) else Nx H3) := by
  refine ⟨fun i m H => m = xs.length - i ∧ i ≤ xs.length ∧ Pv i H, ⟨xs.length, by simp, Nat.zero_le _, h0⟩, ?_⟩
  rintro i m H ⟨rfl, hi, p⟩
  have q := hok i H hi p
  by_cases hlt : i < xs.length
  · refine .inr ⟨W.go i H q hlt, Pv (i + 1), fun H' p' => ⟨xs.length - (i + 1), by omega, rfl, hlt, p'⟩, fun x H' y => ?_⟩
    obtain ⟨e, hx⟩ := W.yld i H x H' q hlt y
    subst e
    exact hs i x _ hx p
  · have e : i = xs.length := by omega
    subst e
    exact .inl ⟨W.stop _ H q (Nat.le_refl _), hd H p⟩
/-- [f x for x in xs if p x], all of it reading alone -/
theorem lcp {j : Nat} {Q : Addr → Hp → Prop} (W : ItOf J xs ok) (hz : xs.length ≤ 1000000) (hok : ∀ H', Same H H' → ok H') (p : V → Bool) (f : V → V) (hw : ∀ x, wipe ((wipe σ vs).set j (some x)) vs = wipe σ vs)
    (ht : ∀ (i : Nat) (x : V) (H' : Hp), xs[i]? = some x → Same H H' → AnsS tt ((wipe σ vs).set j (some x)) H' (p x))
    (hv : ∀ (i : Nat) (x : V) (H' : Hp), xs[i]? = some x → Same H H' → p x = true → ValS te ((wipe σ vs).set j (some x)) H' (f x))
    (q : ∀ Dl H', H Dl = none → Same H H' → H' Dl = some (.lst ((xs.filter p).map f)) → Q Dl H') :
    ∀ Dl, H Dl = none → ∃ W : Nat → Nat → Hp → Prop, (∃ m, W 0 m (upd H Dl (.lst []))) ∧ ∀ i m H, W i m H →
      (J.stop i H ∧ Q Dl H) ∨ (J.go i H ∧ ∃ Nx : Hp → Prop, (∀ H', Nx H' → ∃ m', m' < m ∧ W (i + 1) m' H') ∧ ∀ x H', J.yld i H x H' → gName j x (wipe σ vs) H' fun σ2 H2 => wipe σ2 vs = wipe σ vs ∧ tt σ2 H2 fun b H3 =>
        if b = true then te σ2 H3 fun y H4 => ∃ acc, H4 Dl = some (.lst acc) ∧ acc.length < sizeLine ∧ Nx (upd H4 Dl (.lst (acc ++ [y]))) else Nx H3) := by
  intro Dl hD
  refine lc_it (σ := σ) W (fun i H' => Same H H' ∧ H' Dl = some (.lst (((xs.take i).filter p).map f))) ⟨same_upd hD, upd_same⟩ (fun i H' _ h => hok H' h.1) (fun i x H' hx h => ?_) (fun H' h => q Dl H' hD h.1 (by simpa using h.2))
  obtain ⟨s1, h1⟩ := h
  have hlt : i < xs.length := (List.getElem?_eq_some_iff.mp hx).1
  have ext : xs.take (i + 1) = xs.take i ++ [x] := by
    rw [List.take_add_one, hx]; rfl
  refine ⟨hw x, ht i x H' hx s1 _ fun H3 s3 => ?_⟩
  have e3 : H3 Dl = some (.lst (((xs.take i).filter p).map f)) := s3 _ _ h1
  cases hp : p x with
  | true =>
    refine w_T (hv i x H3 hx (s1.trans s3) hp _ fun H4 s4 => ⟨_, s4 _ _ e3, ?_, ?_, ?_⟩)
    · have a1 := List.length_filter_le p (xs.take i)
      rw [List.length_map]
      have a2 : (xs.take i).length ≤ i := by rw [List.length_take]; omega
      exact line1000' (by omega)
    · intro b o hb
      have nb : b ≠ Dl := ne_of_none hb hD
      rw [upd_ne nb]
      exact s4 _ _ (s3 _ _ (s1 _ _ hb))
    · rw [upd_same, ext, List.filter_append, List.filter_cons_of_pos hp, List.filter_nil, List.map_append]
      rfl
  | false =>
    refine w_F ⟨s1.trans s3, ?_⟩
    rw [ext, List.filter_append, List.filter_cons_of_neg (by simp [hp]), List.filter_nil, List.append_nil]
    exact e3
theorem w_yes {B : Bool → Hp → Prop} (q : B true H) : tYes σ H B := q
theorem ansS_yes : AnsS tYes σ H true := fun Q q => q H (Same.refl H)
theorem w_lc {wi : TI} (q : wi σ H fun J H1 => ∀ D, H1 D = none → ∃ W : Nat → Nat → Hp → Prop, (∃ m, W 0 m (upd H1 D (.lst []))) ∧ ∀ i m H, W i m H →
  (J.stop i H ∧ Q (.ref D) H) ∨ (J.go i H ∧ ∃ Nx : Hp → Prop, (∀ H', Nx H' → ∃ m', m' < m ∧ W (i + 1) m' H') ∧ ∀ x H', J.yld i H x H' → g x (wipe σ vs) H' fun σ2 H2 => wipe σ2 vs = wipe σ vs ∧ tt σ2 H2 fun b H3 =>
    if b = true then te σ2 H3 fun y H4 => ∃ acc, H4 D = some (.lst acc) ∧ acc.length < sizeLine ∧ Nx (upd H4 D (.lst (acc ++ [y]))) else Nx H3)) : tLc wi g tt te vs σ H Q := q
theorem w_iStr {R : It → Hp → Prop} (q : te σ H fun v H1 => ∃ x, v = .str x ∧ R (Its x) H1) : iStr te σ H R := q
theorem w_iList {K : PySem.W.Frag} {R : It → Hp → Prop} (q : te σ H fun x H1 => ∃ a, x = .ref a ∧ (∃ xs, SqL K H1 a xs) ∧ R (Itl K a) H1) : iList K te σ H R := q
theorem w_iTup {K : PySem.W.Frag} {R : It → Hp → Prop} (q : te σ H fun x H1 => ∃ a, x = .ref a ∧ (∃ xs, SqT K H1 a xs) ∧ R (Itt K a) H1) : iTup K te σ H R := q
theorem w_exS {z : Str} {P : Str → Prop} (q : P z) : ∃ x, V.str z = .str x ∧ P x := ⟨z, rfl, q⟩
theorem w_exR {K : PySem.W.Frag} {a : Addr} {P : Addr → Prop} (h : SqL K H a xs) (q : P a) : ∃ b, V.ref a = .ref b ∧ (∃ xs, SqL K H b xs) ∧ P b := ⟨a, rfl, ⟨xs, h⟩, q⟩
theorem w_exRT {K : PySem.W.Frag} {a : Addr} {P : Addr → Prop} (h : SqT K H a xs) (q : P a) : ∃ b, V.ref a = .ref b ∧ (∃ xs, SqT K H b xs) ∧ P b := ⟨a, rfl, ⟨xs, h⟩, q⟩
theorem w_iR1 {ta : TA} {R : It → Hp → Prop} (q : ta σ H fun vs H1 => ∃ j : Int, vs = [.int j] ∧ -(2 ^ 62) ≤ j ∧ j < 2 ^ 62 ∧ R (Itr 0 j.toNat) H1) : iRng1 ta σ H R := q
theorem w_iR2 {ta : TA} {R : It → Hp → Prop} (q : ta σ H fun vs H1 => ∃ i j : Int, vs = [.int i, .int j] ∧ (-(2 ^ 62) ≤ i ∧ i < 2 ^ 62 ∧ -(2 ^ 62) ≤ j ∧ j < 2 ^ 62) ∧ R (Itr i (j - i).toNat) H1) : iRng2 ta σ H R := q
theorem w_for {wi : TI} (q : wi σ H fun J H1 => ∃ W : Nat → Nat → L2.St → Hp → Prop, (∃ m, W 0 m σ H1) ∧ ∀ i m σ H, W i m σ H →
  (J.stop i H ∧ D.nx σ H) ∨ (J.go i H ∧ ∃ N : L2.St → Hp → Prop, (∀ σ' H', N σ' H' → ∃ m', m' < m ∧ W (i + 1) m' σ' H') ∧ ∀ x H', J.yld i H x H' → g x σ H' fun σ2 H2 => tb { D with nx := N, ct := N, bk := D.nx } σ2 H2)) : tFor wi g tb D σ H := q
theorem v_all {K : PySem.W.Frag} {a : Addr} {bs : List Bool} (h : SqL K H a (bs.map V.bl)) (q : Q (.bl (bs.all id)) H) : rAll K [.ref a] H Q := ⟨a, bs, rfl, h, q⟩
end
end Rp
namespace Rp
open PySem L2
/-! ### data in the heap: None, bools, ints, texts, lists and tuples of these -/
section
variable {K : PySem.W.Frag} {H H' : Hp}
mutual
theorem dp_same (s : Same H H') : ∀ (d : PyData) (v : V), Dp K H v d → Dp K H' v d
  | .none, _, h => by cases h; exact .non
  | .bool b, _, h => by cases h; exact .bl _
  | .int i, _, h => by cases h; exact .int _
  | .str x, _, h => by cases h; exact .str _
  | .list ds, _, h => by
    cases h with
    | lst a b => exact .lst (s.seq a) (dpAll_same s ds _ b)
  | .tuple ds, _, h => by
    cases h with
    | tup a b => exact .tup (Same.seqT s a) (dpAll_same s ds _ b)
  | .dict _, _, h => by cases h
theorem dpAll_same (s : Same H H') : ∀ (ds : List PyData) (vs : List V), DpAll K H vs ds → DpAll K H' vs ds
  | [], _, h => by cases h; exact .nil
  | d :: ds, _, h => by
    cases h with
    | cons a b => exact .cons (dp_same s d _ a) (dpAll_same s ds _ b)
end
theorem dpAll_len : ∀ {vs : List V} {ds : List PyData}, DpAll K H vs ds → vs.length = ds.length
  | [], [], _ => rfl
  | _ :: vs, _ :: ds, h => by
    cases h with
    | cons a b => exact congrArg Nat.succ (dpAll_len b)
  | [], _ :: _, h => by cases h
  | _ :: _, [], h => by cases h
theorem dpAll_get : ∀ {vs : List V} {ds : List PyData} {i : Nat}, DpAll K H vs ds → i < ds.length → ∃ v d, vs[i]? = some v ∧ ds[i]? = some d ∧ Dp K H v d
  | [], [], i, _, l => by simp at l
  | v :: vs, d :: ds, 0, h, _ => by
    cases h with
    | cons a b => exact ⟨v, d, rfl, rfl, a⟩
  | v :: vs, d :: ds, i + 1, h, l => by
    cases h with
    | cons a b => exact dpAll_get (i := i) b (by simpa using l)
  | [], _ :: _, _, h, _ => by cases h
  | _ :: _, [], _, h, _ => by cases h
def kdD : PyData → Kd
  | .none => .non
  | .bool _ => .bl
  | .int _ => .int
  | .str _ => .str
  | .list _ => .lst
  | .tuple _ => .tup
  | .dict _ => .dic
theorem kd_seqL {a : Addr} {xs : List V} (h : SqL K H a xs) : KdOf K H (.ref a) .lst := by
  rcases h with (h | ⟨o, h⟩) | ⟨o, its, n, hk, hc, _⟩
  · exact .base (.lst h)
  · exact .base (.frz h)
  · exact .kList hk hc
theorem kd_seqT {a : Addr} {xs : List V} (h : SqT K H a xs) : KdOf K H (.ref a) .tup := by
  rcases h with (h | ⟨o, h⟩) | ⟨o, its, n, hk, hc, _⟩
  · exact .base (.tup h)
  · exact .fTuple h
  · exact .kTuple hk hc
theorem kd_dp {d : PyData} {v : V} (h : Dp K H v d) : KdOf K H v (kdD d) := by
  cases h with
  | non => exact kd_non
  | bl b => exact kd_bl
  | int i => exact kd_int
  | str x => exact kd_str
  | lst a b => exact kd_seqL a
  | tup a b => exact kd_seqT a
end
/-- data of a flat thing -/
def datV : V → PyData
  | .bl b => .bool b
  | .int i => .int i
  | .str z => .str z
  | _ => .none
theorem dp_flat {K : PySem.W.Frag} {H : Hp} {v : V} (h : flatV v = true) : Dp K H v (datV v) := by
  cases v
  all_goals (first | (cases h; done) | skip)
  · exact .non
  · exact .bl _
  · exact .int _
  · exact .str _
def flatD : PyData → Bool
  | .none => true
  | .bool _ => true
  | .int _ => true
  | .str _ => true
  | _ => false
theorem dp_flatD {K : PySem.W.Frag} {H : Hp} {d : PyData} {v : V} (h : Dp K H v d) (f : flatD d = true) : flatV v = true ∧ datV v = d := by
  cases h with
  | non => exact ⟨rfl, rfl⟩
  | bl b => exact ⟨rfl, rfl⟩
  | int i => exact ⟨rfl, rfl⟩
  | str x => exact ⟨rfl, rfl⟩
  | lst a b => cases f
  | tup a b => cases f
theorem dat_inj {v u : V} (h1 : flatV v = true) (h2 : flatV u = true) (e : datV v = datV u) : v = u := by
  cases v
  all_goals (first | (cases h1; done) | skip)
  all_goals (cases u)
  all_goals (first | (cases h2; done) | skip)
  all_goals (first | rfl | (simp [datV] at e; done) | (simp [datV] at e; rw [e]))
mutual
/-- the same data, bools and ints told apart -/
def sam : PyData → PyData → Bool
  | .none, .none => true
  | .bool a, .bool b => a == b
  | .int i, .int j => i == j
  | .str x, .str y => x == y
  | .list xs, .list ys => samAll xs ys
  | .tuple xs, .tuple ys => samAll xs ys
  | .none, .bool _ | .none, .int _ | .none, .str _ | .none, .list _ | .none, .tuple _ | .none, .dict _ => false
  | .bool _, .none | .bool _, .int _ | .bool _, .str _ | .bool _, .list _ | .bool _, .tuple _ | .bool _, .dict _ => false
  | .int _, .none | .int _, .bool _ | .int _, .str _ | .int _, .list _ | .int _, .tuple _ | .int _, .dict _ => false
  | .str _, .none | .str _, .bool _ | .str _, .int _ | .str _, .list _ | .str _, .tuple _ | .str _, .dict _ => false
  | .list _, .none | .list _, .bool _ | .list _, .int _ | .list _, .str _ | .list _, .tuple _ | .list _, .dict _ => false
  | .tuple _, .none | .tuple _, .bool _ | .tuple _, .int _ | .tuple _, .str _ | .tuple _, .list _ | .tuple _, .dict _ => false
  | .dict _, _ => false
def samAll : List PyData → List PyData → Bool
  | [], [] => true
  | x :: xs, y :: ys => sam x y && samAll xs ys
  | [], _ :: _ => false
  | _ :: _, [] => false
end
theorem sam_flat {v u : V} (h1 : flatV v = true) (h2 : flatV u = true) : sam (datV v) (datV u) = decide (v = u) := by
  cases v
  all_goals (first | (cases h1; done) | skip)
  all_goals (cases u)
  all_goals (first | (cases h2; done) | skip)
  all_goals simp [sam, datV, Bool.beq_eq_decide_eq]
theorem samAll_len : ∀ {xs ys : List PyData}, samAll xs ys = true → xs.length = ys.length
  | [], [], _ => rfl
  | _ :: xs, _ :: ys, h => by
    simp only [samAll, Bool.and_eq_true] at h
    exact congrArg Nat.succ (samAll_len h.2)
  | [], _ :: _, h => by simp [samAll] at h
  | _ :: _, [], h => by simp [samAll] at h
/-- by places -/
theorem samAll_iff : ∀ {xs ys : List PyData}, xs.length = ys.length → (samAll xs ys = true ↔ ∀ (i : Nat) (x y : PyData), xs[i]? = some x → ys[i]? = some y → sam x y = true)
  | [], [], _ => by simp [samAll]
  | a :: xs, b :: ys, h => by
    have ih := samAll_iff (xs := xs) (ys := ys) (by simpa using h)
    simp only [samAll, Bool.and_eq_true, ih]
    constructor
    · rintro ⟨h1, h2⟩ i x y hx hy
      cases i with
      | zero => simp at hx hy; subst hx hy; exact h1
      | succ i => exact h2 i x y (by simpa using hx) (by simpa using hy)
    · intro h1
      exact ⟨h1 0 a b rfl rfl, fun i x y hx hy => h1 (i + 1) x y (by simpa using hx) (by simpa using hy)⟩
  | [], _ :: _, h => by simp at h
  | _ :: _, [], h => by simp at h
mutual
/-- no bools and ints in it -/
def noNum : PyData → Bool
  | .none => true
  | .str _ => true
  | .list xs => noNumAll xs
  | .tuple xs => noNumAll xs
  | _ => false
def noNumAll : List PyData → Bool
  | [] => true
  | x :: xs => noNum x && noNumAll xs
end
mutual
theorem eqv_sam : ∀ (d e : PyData), noNum d = true → PyData.eqv d e = sam d e
  | .none, e, _ => by cases e <;> rfl
  | .str x, e, _ => by cases e <;> simp [PyData.eqv, sam]
  | .list xs, e, h => by
    cases e <;> simp only [PyData.eqv, sam]
    exact eqvAll_sam xs _ (by simpa [noNum] using h)
  | .tuple xs, e, h => by
    cases e <;> simp only [PyData.eqv, sam]
    exact eqvAll_sam xs _ (by simpa [noNum] using h)
  | .bool _, _, h => by simp [noNum] at h
  | .int _, _, h => by simp [noNum] at h
  | .dict _, _, h => by simp [noNum] at h
theorem eqvAll_sam : ∀ (xs ys : List PyData), noNumAll xs = true → PyData.eqvAll xs ys = samAll xs ys
  | [], ys, _ => by cases ys <;> rfl
  | x :: xs, ys, h => by
    simp only [noNumAll, Bool.and_eq_true] at h
    cases ys with
    | nil => rfl
    | cons y ys => simp only [PyData.eqvAll, samAll]; rw [eqv_sam x y h.1, eqvAll_sam xs ys h.2]
end
theorem canLayAll_get : ∀ {xs : List PyData} {i : Nat} {x : PyData}, PyData.canLayAll0 xs = true → xs[i]? = some x → x.canLay0 = true
  | [], _, _, _, h => by simp at h
  | a :: xs, 0, x, h, e => by
    simp only [PyData.canLayAll0, Bool.and_eq_true] at h
    simp at e; subst e; exact h.1
  | a :: xs, i + 1, x, h, e => by
    simp only [PyData.canLayAll0, Bool.and_eq_true] at h
    exact canLayAll_get (i := i) h.2 (by simpa using e)
theorem depthAll_get : ∀ {xs : List PyData} {i : Nat} {x : PyData}, xs[i]? = some x → x.depth ≤ PyData.depthAll xs
  | [], _, _, h => by simp at h
  | a :: xs, 0, x, e => by
    simp at e; subst e
    simp only [PyData.depthAll]
    exact Nat.le_max_left _ _
  | a :: xs, i + 1, x, e => by
    have := depthAll_get (xs := xs) (i := i) (x := x) (by simpa using e)
    simp only [PyData.depthAll]
    exact Nat.le_trans this (Nat.le_max_right _ _)
theorem samAll_false {xs ys : List PyData} {i : Nat} {x y : PyData} (hx : xs[i]? = some x) (hy : ys[i]? = some y) (h : sam x y = false) : samAll xs ys = false := by
  cases q : samAll xs ys with
  | false => rfl
  | true =>
    have := (samAll_iff (samAll_len q)).mp q i x y hx hy
    rw [h] at this; cases this
theorem samAll_lenF {xs ys : List PyData} (h : xs.length ≠ ys.length) : samAll xs ys = false := by
  cases q : samAll xs ys with
  | false => rfl
  | true => exact absurd (samAll_len q) h
mutual
/-- no lists in it -/
def noLst : PyData → Bool
  | .list _ => false
  | .tuple xs => noLstAll xs
  | .dict _ => false
  | .none => true
  | .bool _ => true
  | .int _ => true
  | .str _ => true
def noLstAll : List PyData → Bool
  | [] => true
  | x :: xs => noLst x && noLstAll xs
end
section
variable {K : PySem.W.Frag} {H H' : Hp} {b : Addr} {zs : List V}
theorem SameBut.seqT (s : SameBut b H H') (hb : H b = some (.lst zs)) {a : Addr} {xs : List V} (h : SqT K H a xs) : SqT K H' a xs := by
  rcases h with (h | ⟨o, h⟩) | h
  · exact .inl (.inl (s _ _ h (ne_of h hb (by intro z; cases z))))
  · exact .inl (.inr ⟨o, s _ _ h (ne_of h hb (by intro z; cases z))⟩)
  · exact .inr h
mutual
theorem dp_but (s : SameBut b H H') (hb : H b = some (.lst zs)) : ∀ (d : PyData) (v : V), noLst d = true → Dp K H v d → Dp K H' v d
  | .none, _, _, h => by cases h; exact .non
  | .bool b, _, _, h => by cases h; exact .bl _
  | .int i, _, _, h => by cases h; exact .int _
  | .str x, _, _, h => by cases h; exact .str _
  | .list ds, _, n, h => by simp [noLst] at n
  | .tuple ds, _, n, h => by
    cases h with
    | tup x y => exact .tup (s.seqT hb x) (dpAll_but s hb ds _ (by simpa [noLst] using n) y)
  | .dict _, _, _, h => by cases h
theorem dpAll_but (s : SameBut b H H') (hb : H b = some (.lst zs)) : ∀ (ds : List PyData) (vs : List V), noLstAll ds = true → DpAll K H vs ds → DpAll K H' vs ds
  | [], _, _, h => by cases h; exact .nil
  | d :: ds, _, n, h => by
    simp only [noLstAll, Bool.and_eq_true] at n
    cases h with
    | cons x y => exact .cons (dp_but s hb d _ n.1 x) (dpAll_but s hb ds _ n.2 y)
end
end
theorem Alloc.dpT {K : PySem.W.Frag} {H H' : Hp} {p : Addr} {xs : List V} {ds : List PyData} (A : Alloc H p (.tup xs) H') (h : DpAll K H xs ds) : Dp K H' (.ref p) (.tuple ds) := .tup (SqT.of A.at_) (dpAll_same A.same _ _ h)
theorem dpAll_strs {K : PySem.W.Frag} {H : Hp} : ∀ {ks : List Str}, DpAll K H (ks.map V.str) (ks.map PyData.str)
  | [] => .nil
  | _ :: _ => .cons (.str _) dpAll_strs
theorem Alloc.but {b : Addr} {H0 H H' : Hp} {p : Addr} {o : HO} (s : SameBut b H0 H) (A : Alloc H p o H') : SameBut b H0 H' := s.trans (.of A.same)
end Rp
namespace Rp
open PySem L2
/-! ### further rules -/
def rCntS (K : PySem.W.Frag) : V → List V → Hp → VK → Prop := fun x xs H Q => ∃ (p : Addr) (ys : List Str) (k : Str), x = .ref p ∧ xs = [.str k] ∧ SqL K H p (ys.map V.str) ∧ Q (.int (ys.count k : Nat)) H
theorem strsAre_vals : ∀ {ys : List Str} {us : List Value}, Vals (ys.map V.str) us → PyProof.Rows.StrsAre us ys
  | [], _, r => by cases r; exact .nil
  | y :: ys, _, r => by
    cases r with
    | cons h t =>
      obtain ⟨tk, rfl⟩ := h
      exact .cons _ _ (strsAre_vals t)
theorem countIn_strs (k : Str) : ∀ ys : List Str, PySem.Spec.countIn (.str k) (ys.map PyData.str) = (ys.count k : Nat) := by
  intro ys
  induction ys with
  | nil => rfl
  | cons y ys ih =>
    rw [List.map_cons, PySem.Spec.countIn, ih, List.count_cons]
    have e : PySem.Spec.same (.str y) (.str k) = (y == k) := rfl
    rw [e]
    cases (y == k) <;> simp <;> omega
theorem mt_countS {X : Cx} : MtR X "list.count" (rCntS X.K) := by
  intro pins s σ H x xs v us Q I rx rxs h
  obtain ⟨p, ys, k, rfl, rfl, hs, q⟩ := h
  cases rx
  obtain ⟨u, rfl, ru⟩ := rxs.one
  obtain ⟨t, rfl⟩ := ru
  obtain ⟨its, rv, hl, hlen⟩ := I.list hs
  refine PyProof.Rows.count_list_strs hl.isList (strsAre_vals rv) ?_
  rw [countIn_strs]
  exact ⟨.int (ys.count k : Nat), H, I.tok _, ⟨s.toks, rfl⟩, q⟩
/-! ### a dict of the module: words with tuples of words -/
structure KTab (K : PySem.W.Frag) (w : World) (d : Addr) (rows : List (Str × List Str)) : Prop where
  at_ : ∃ es n, KDict K w d es n
  out : ∀ z, rows.lookup z = none → PySem.W.nsIn K d z = some none
  inn : ∀ z ks, rows.lookup z = some ks → ∃ t, PySem.W.nsIn K d z = some (some (.ref t)) ∧ ∀ H, SqT K H t (ks.map V.str)
def rInTab (d : Addr) (rows : List (Str × List Str)) : R2 := fun x y H Q => ∃ z, x = .str z ∧ y = .ref d ∧ Q (.bl (rows.lookup z).isSome) H
def rNiTab (d : Addr) (rows : List (Str × List Str)) : R2 := fun x y H Q => ∃ z, x = .str z ∧ y = .ref d ∧ Q (.bl (!(rows.lookup z).isSome)) H
def rIxTab (K : PySem.W.Frag) (d : Addr) (rows : List (Str × List Str)) : R2 := fun x y H Q => ∃ z ks, x = .ref d ∧ y = .str z ∧ rows.lookup z = some ks ∧ ∀ t, (∀ H, SqT K H t (ks.map V.str)) → Q (.ref t) H
section
variable {X : Cx} {d : Addr} {rows : List (Str × List Str)} {K : PySem.W.Frag}
theorem KTab.ns {w : World} (T : KTab K w d rows) (z : Str) : ∃ r, PySem.W.nsIn K d z = some r ∧ r.isSome = (rows.lookup z).isSome := by
  cases e : rows.lookup z with
  | none => exact ⟨_, T.out z e, rfl⟩
  | some ks =>
    obtain ⟨t, h, _⟩ := T.inn z ks e
    exact ⟨_, h, rfl⟩
theorem opInTab {w : World} (T : KTab K w d rows) (hK : X.K = K := by rfl) (hw : X.w = w := by rfl) : OpR X (compareOp .In) (rInTab d rows) := by
  subst hK hw
  intro pins s σ H x y v u Q I rx ry h
  obtain ⟨z, rfl, rfl, q⟩ := h
  obtain ⟨es, n, D⟩ := T.at_
  obtain ⟨r, h1, h2⟩ := T.ns z
  exact op_in_kd D pins s σ H _ _ v u Q I rx ry ⟨z, r, rfl, rfl, h1, by rw [h2]; exact q⟩
theorem opNiTab {w : World} (T : KTab K w d rows) (hK : X.K = K := by rfl) (hw : X.w = w := by rfl) : OpR X (compareOp .NotIn) (rNiTab d rows) := by
  subst hK hw
  intro pins s σ H x y v u Q I rx ry h
  obtain ⟨z, rfl, rfl, q⟩ := h
  obtain ⟨es, n, D⟩ := T.at_
  obtain ⟨r, h1, h2⟩ := T.ns z
  exact op_notIn_kd D pins s σ H _ _ v u Q I rx ry ⟨z, r, rfl, rfl, h1, by rw [h2]; exact q⟩
theorem ixTab {w : World} (T : KTab K w d rows) (hK : X.K = K := by rfl) (hw : X.w = w := by rfl) : IxR X (rIxTab K d rows) := by
  subst hK hw
  intro value slice pins s σ H x y v u Q I rx ry h hs
  obtain ⟨z, ks, rfl, rfl, e, q⟩ := h
  obtain ⟨es, n, D⟩ := T.at_
  obtain ⟨t, h1, h2⟩ := T.inn z ks e
  exact ix_kdict value slice pins s σ H _ _ v u Q I rx ry ⟨d, z, .ref t, rfl, rfl, ⟨es, n, .ref t, D.at_, D.lit, h1, rfl⟩, q t h2⟩ hs
end
/-- the rows of a table as they stand -/
def tabB (K : PySem.W.Frag) (a : Addr) (rows : List (Str × List Str)) : Bool := rows.all fun r => match PySem.W.nsIn K a r.1 with
  | some (some (.ref t)) => (match K.lookup t with
    | some ⟨.type c, _, .seq its _, _⟩ => decide (c = "tuple") && (decide (its.size ≤ sizeLine) && He.relAll (r.2.map V.str) its.toList)
    | _ => false)
  | _ => false
theorem tabB_ok {K : PySem.W.Frag} {a : Addr} {rows : List (Str × List Str)} (h : tabB K a rows = true) {r : Str × List Str} (hr : r ∈ rows) : ∃ t, PySem.W.nsIn K a r.1 = some (some (.ref t)) ∧ ∀ H, SqT K H t (r.2.map V.str) := by
  have h2 := List.all_eq_true.mp h r hr
  cases e : PySem.W.nsIn K a r.1 with
  | none => rw [e] at h2; cases h2
  | some x =>
    rw [e] at h2
    cases x with
    | none => cases h2
    | some u =>
      cases u with
      | ref t =>
        refine ⟨t, rfl, fun H => ?_⟩
        cases q : K.lookup t with
        | none =>
          have h3 : (match K.lookup t with
            | some ⟨.type c, _, .seq its _, _⟩ => decide (c = "tuple") && (decide (its.size ≤ sizeLine) && He.relAll (r.2.map V.str) its.toList)
            | _ => false) = true := h2
          rw [q] at h3; cases h3
        | some o =>
          obtain ⟨oc, od, dt, osl⟩ := o
          have h3 : (match K.lookup t with
            | some ⟨.type c, _, .seq its _, _⟩ => decide (c = "tuple") && (decide (its.size ≤ sizeLine) && He.relAll (r.2.map V.str) its.toList)
            | _ => false) = true := h2
          rw [q] at h3
          cases oc with
          | type c =>
            cases dt with
            | seq its n =>
              obtain ⟨h1, h2⟩ := He.ba (show (decide (c = "tuple") && (decide (its.size ≤ sizeLine) && He.relAll (r.2.map V.str) its.toList)) = true from h3)
              obtain ⟨h5, h4⟩ := He.ba h2
              exact .inr ⟨_, its, n, q, congrArg Value.type (of_decide_eq_true h1), rfl, of_decide_eq_true h5, He.relAll_ok h4⟩
            | _ => cases h3
          | _ => cases dt <;> cases h3
      | _ => cases h2
theorem ns_out {K : PySem.W.Frag} {P : Params} {a : Addr} {ks : List Str} (h : He.dicW K a = some (He.keysIn P ks)) (z : Str) (hz : z ∉ ks) : PySem.W.nsIn K a z = some none := by
  unfold He.dicW at h
  cases q : K.lookup a with
  | none => rw [q] at h; cases h
  | some o =>
    obtain ⟨oc, od, dt, osl⟩ := o
    rw [q] at h
    cases oc with
    | type c =>
      cases od with
      | none =>
        cases dt with
        | dict es n =>
          have h1 : (match decide (c = "dict") && (osl.isEmpty && !(a == sysModules)) with
            | true => some (es.toList.map He.keyOf)
            | false => none) = some (He.keysIn P ks) := h
          cases b : decide (c = "dict") && (osl.isEmpty && !(a == sysModules)) with
          | false => rw [b] at h1; cases h1
          | true =>
            rw [b] at h1
            have h2 := Option.some.inj h1
            have key : ∀ e ∈ es.toList, ∃ x t, e.key = .str x t ∧ x ∈ ks := by
              intro e he
              have h3 : He.keyOf e ∈ He.keysIn P ks := by rw [← h2]; exact List.mem_map_of_mem he
              obtain ⟨k, hk, ek⟩ := List.mem_map.mp h3
              unfold He.keyOf at ek
              split at ek
              · rename_i x t hx
                simp at ek
                exact ⟨x, t, hx, by rw [← ek.1]; exact hk⟩
              · cases ek
            unfold PySem.W.nsIn
            rw [q]
            have f1 : es.toList.find? (·.key.isStr z) = none := by
              rw [List.find?_eq_none]
              intro e he
              obtain ⟨x, t, hx, hm⟩ := key e he
              rw [hx]
              intro hh
              have : x = z := by simpa [Value.isStr] using hh
              exact hz (this ▸ hm)
            have f2 : es.toList.any (·.refKey) = false := by
              rw [List.any_eq_false]
              intro e he
              obtain ⟨x, t, hx, hm⟩ := key e he
              simp [DictEntry.refKey, hx]
            simp only [f1, f2]
            rfl
        | _ => cases h
      | some b => cases dt <;> cases h
    | _ => cases od <;> cases dt <;> cases h
theorem lookup_mem {rows : List (Str × List Str)} {z : Str} {ks : List Str} (h : rows.lookup z = some ks) : (z, ks) ∈ rows := by
  induction rows with
  | nil => cases h
  | cons r rows ih =>
    rw [List.lookup_cons] at h
    split at h
    · rename_i hb
      have e : z = r.1 := by simpa using hb
      cases h
      subst e
      exact List.mem_cons_self
    · exact List.mem_cons_of_mem _ (ih h)
theorem lookup_out {rows : List (Str × List Str)} {z : Str} (h : rows.lookup z = none) : z ∉ rows.map (·.1) := by
  induction rows with
  | nil => simp
  | cons r rows ih =>
    rw [List.lookup_cons] at h
    split at h
    · cases h
    · rename_i hb
      simp only [List.map_cons, List.mem_cons, not_or]
      exact ⟨by simpa using hb, ih h⟩
/-! ### the Hook: defs and facts, tables with words, any further truths -/
abbrev TabX : Type := Str × List (Str × List Str)
abbrev AlX : Type := He.AlD × Bool × List (Option (List (Option (Str × Int))))
def obsX (fa : List He.Fa) (fn : List He.DefD) (mo : List (PySem.W.Frag → Bool)) (ts : List TabX) (K : PySem.W.Frag) : AlX :=
  (He.obsD fa fn K, (mo.all fun m => m K) && ts.all (fun t => tabB K (He.ga K t.1) t.2), ts.map fun t => He.dicW K (He.ga K t.1))
def valX (fn : List He.DefD) (ts : List TabX) (w : World) : AlX := (He.valD fn, true, ts.map fun t => some (He.keysIn w.params (t.2.map (·.1))))
def SaysX (fa : List He.Fa) (fn : List He.DefD) (mo : List (PySem.W.Frag → Bool)) (ts : List TabX) (w : World) (K : PySem.W.Frag) : Prop := obsX fa fn mo ts K = valX fn ts w
def obsXG (n : Nat) (fa : List He.Fa) (fn : List He.DefD) (mo : List (PySem.W.Frag → Bool)) (ts : List TabX) (g : Addr → Option Obj) : AlX := obsX fa fn mo ts (He.frG g (He.asD g n))
def hookX (n : Nat) (fa : List He.Fa) (fn : List He.DefD) (mo : List (PySem.W.Frag → Bool)) (ts : List TabX) : PySem.W.Hook where
  α := AlX
  obs := fun s => obsXG n fa fn mo ts s.heap.get?
  val := fun w => valX fn ts w
  says := fun w h => ∃ K : PySem.W.Frag, K.In h ∧ SaysX fa fn mo ts w K
  of := fun _ _ e => ⟨_, He.frG_in, e⟩
  keeps := fun _ _ _ ⟨K, hK, c⟩ k => ⟨K, PySem.W.Frag.In.keeps hK k, c⟩
theorem obsXG_eq {n : Nat} {fa : List He.Fa} {fn : List He.DefD} {mo : List (PySem.W.Frag → Bool)} {ts : List TabX} {g : Addr → Option Obj} {s : Shared} (h : ∀ a, g a = s.heap.get? a) : obsXG n fa fn mo ts g = (hookX n fa fn mo ts).obs s := by
  have e : g = s.heap.get? := funext h
  rw [e] <;> rfl
section
variable {fa : List He.Fa} {fn : List He.DefD} {mo : List (PySem.W.Frag → Bool)} {ts : List TabX} {w : World} {K : PySem.W.Frag}
theorem SaysX.d (c : SaysX fa fn mo ts w K) : He.SaysD fa fn K := congrArg (fun z : AlX => z.1) c
theorem SaysX.mo_ (c : SaysX fa fn mo ts w K) (i : Nat) {m : PySem.W.Frag → Bool} (h : mo[i]? = some m := by rfl) : m K = true := by
  have e : ((mo.all fun m => m K) && ts.all (fun t => tabB K (He.ga K t.1) t.2)) = true := congrArg (fun z : AlX => z.2.1) c
  exact List.all_eq_true.mp (He.ba e).1 m (List.mem_of_getElem? h)
theorem SaysX.tab (c : SaysX fa fn mo ts w K) (i : Nat) {t : TabX} (h : ts[i]? = some t := by rfl) : KTab K w (He.ga K t.1) t.2 := by
  have e : ((mo.all fun m => m K) && ts.all (fun t => tabB K (He.ga K t.1) t.2)) = true := congrArg (fun z : AlX => z.2.1) c
  have b := List.all_eq_true.mp (He.ba e).2 t (List.mem_of_getElem? h)
  have e1 : ts.map (fun t => He.dicW K (He.ga K t.1)) = ts.map fun t => some (He.keysIn w.params (t.2.map (·.1))) := congrArg (fun z : AlX => z.2.2) c
  have e2 : (ts.map fun t => He.dicW K (He.ga K t.1))[i]? = (ts.map fun t => some (He.keysIn w.params (t.2.map (·.1))))[i]? := by rw [e1]
  rw [List.getElem?_map, List.getElem?_map, h] at e2
  have e3 := Option.some.inj e2
  exact ⟨He.dicW_ok e3, fun z hz => ns_out e3 z (lookup_out hz), fun z ks hz => tabB_ok b (lookup_mem hz)⟩
end
theorem pi_zip {X : Cx} {K : PySem.W.Frag} {e e2 : Expr} {ta : TA} {p pos tpos : Pos} {elts : List Expr} {kk : Nat} (hg : Gl X "zip") (hm : X.mg "zip" = none) (ha : PA X [e, e2] ta) (hK : X.K = K := by rfl)
    (hs : starEach [e, e2] X.env = (false, eval e X.env) :: starEach [e2] X.env := by rfl) (hpl : (backTo pos (starEach [e2] X.env)).any (·.1) = false := by rfl) :
    PI X (.Tuple elts kk tpos) (.Call (.Name "zip" p) [e, e2] [] pos) (RZ.iZipA K ta) := by
  subst hK
  exact RZ.pi_zipA hg hm ha hs hpl
theorem pg_tupK {X : Cx} {K : PySem.W.Frag} {pos : Pos} {es : List Expr} {k : Nat} {t : TGs} {n : Nat} (hc : X.calm = true) (h : PGs X es t) (hK : X.K = K := by rfl)
    (hn : (assignEach es X.env).length = n := by rfl) (hst : (assignEach es X.env).findIdx? (·.1) = none := by rfl) : PG X (.Tuple es k pos) (gTup K n t) := by
  subst hK
  exact pg_tup hc h hn hst
theorem w_izip {K : PySem.W.Frag} {ta : TA} {σ : L2.St} {H : Hp} {R : It → Hp → Prop} (q : ta σ H fun vs H1 => ∃ a b xs ys, vs = [.ref a, .ref b] ∧ ((SqL K H1 a xs ∧ SqL K H1 b ys ∧ R (Itz K a b) H1) ∨ (SqT K H1 a xs ∧ SqT K H1 b ys ∧ R (RZ.ItzT K a b) H1))) : RZ.iZipA K ta σ H R := q
theorem v_zipT {K : PySem.W.Frag} {H : Hp} {a b : Addr} {xs ys : List V} {R : It → Hp → Prop} (ha : SqT K H a xs) (hb : SqT K H b ys) (q : R (RZ.ItzT K a b) H) : ∃ a' b' xs ys, [V.ref a, V.ref b] = [.ref a', .ref b'] ∧ ((SqL K H a' xs ∧ SqL K H b' ys ∧ R (Itz K a' b') H) ∨ (SqT K H a' xs ∧ SqT K H b' ys ∧ R (RZ.ItzT K a' b') H)) := ⟨a, b, xs, ys, rfl, .inr ⟨ha, hb, q⟩⟩
theorem pe_count {X : Cx} {K : PySem.W.Frag} {o e : Expr} {apos cpos : Pos} {to : TE} {t : TA} (ho : PE X o to) (ha : PA X [e] t) (hK : X.K = K := by rfl)
    (hbase : attributeBase o "count" X.env (eval o X.env) = eval o X.env := by rfl)
    (hfew : ((backTo cpos (starEach [e] X.env)).all (fun x => !x.1) && (backToKw cpos (keywordEach [] X.env)).all (fun x => x.1.isSome)
      && decide ([e].length + ([] : List Keyword).length + (if ([] : List Keyword).isEmpty then 0 else 1) < 30)) = true := by rfl)
    (hline : (apos.endLine == cpos.line) = true := by rfl) (hs : starEach [e] X.env = (false, eval e X.env) :: starEach [] X.env := by rfl) (hplain : (backTo cpos (starEach [] X.env)).any (·.1) = false := by rfl) :
    PE X (.Call (.Attribute o "count" apos) [e] [] cpos) (tBM K "list" (rCntS K) to t) := by
  subst hK
  exact pe_bm PySem.F.plainAttrs_list PySem.F.slot_list_count PySem.F.type_list_count mt_countS ho ha hbase hfew hline hs hplain
theorem ixS {X : Cx} {K : PySem.W.Frag} (hK : X.K = K := by rfl) : IxR X (rIx K) := by
  subst hK
  exact ix_seq
theorem pe_gref {X : Cx} {x : Str} {pos : Pos} {a : Addr} (hg : Gl X x) (hm : X.mg x = some (.ref a)) (hd : (x == ("__debug__" : Str)) = false := by decide) : PE X (.Name x pos) (tC (.ref a)) :=
  pe_glob (v := .ref a) hg hm rfl hd
section
variable {K : PySem.W.Frag} {H : Hp} {Q : VK} {σ : L2.St}
theorem v_inTab {d : Addr} {rows : List (Str × List Str)} {z : Str} (q : Q (.bl (rows.lookup z).isSome) H) : rInTab d rows (.str z) (.ref d) H Q := ⟨z, rfl, rfl, q⟩
theorem v_niTab {d : Addr} {rows : List (Str × List Str)} {z : Str} (q : Q (.bl (!(rows.lookup z).isSome)) H) : rNiTab d rows (.str z) (.ref d) H Q := ⟨z, rfl, rfl, q⟩
theorem v_ixTab {d : Addr} {rows : List (Str × List Str)} {z : Str} {ks : List Str} (e : rows.lookup z = some ks) (q : ∀ t, (∀ H, SqT K H t (ks.map V.str)) → Q (.ref t) H) : rIxTab K d rows (.ref d) (.str z) H Q := ⟨z, ks, rfl, rfl, e, q⟩
theorem v_cntS {p : Addr} {ys : List Str} {k : Str} (h : SqL K H p (ys.map V.str)) (q : Q (.int (ys.count k : Nat)) H) : rCntS K (.ref p) [.str k] H Q := ⟨p, ys, k, rfl, rfl, h, q⟩
/-- [e for x in xs], reading alone, by places -/
theorem lci {J : It} {xs : List V} {ok : Hp → Prop} {te : TE} {vs : List Nat} {j : Nat} {ys : List V} {Q : Addr → Hp → Prop} (W : ItOf J xs ok) (hl : ys.length = xs.length) (hz : xs.length ≤ 1000000) (hok : ∀ H', Same H H' → ok H') (hw : ∀ x, wipe ((wipe σ vs).set j (some x)) vs = wipe σ vs)
    (hv : ∀ (i : Nat) (x y : V) (H' : Hp), xs[i]? = some x → ys[i]? = some y → Same H H' → ValS te ((wipe σ vs).set j (some x)) H' y)
    (q : ∀ Dl H', H Dl = none → Same H H' → H' Dl = some (.lst ys) → Q Dl H') :
    ∀ Dl, H Dl = none → ∃ W : Nat → Nat → Hp → Prop, (∃ m, W 0 m (upd H Dl (.lst []))) ∧ ∀ i m H, W i m H →
      (J.stop i H ∧ Q Dl H) ∨ (J.go i H ∧ ∃ Nx : Hp → Prop, (∀ H', Nx H' → ∃ m', m' < m ∧ W (i + 1) m' H') ∧ ∀ x H', J.yld i H x H' → gName j x (wipe σ vs) H' fun σ2 H2 => wipe σ2 vs = wipe σ vs ∧ tYes σ2 H2 fun b H3 =>
        if b = true then te σ2 H3 fun y H4 => ∃ acc, H4 Dl = some (.lst acc) ∧ acc.length < sizeLine ∧ Nx (upd H4 Dl (.lst (acc ++ [y]))) else Nx H3) := by
  intro Dl hD
  refine lc_it (σ := σ) W (fun i H' => Same H H' ∧ H' Dl = some (.lst (ys.take i))) ⟨same_upd hD, upd_same⟩ (fun i H' _ h => hok H' h.1) (fun i x H' hx h => ?_) (fun H' h => q Dl H' hD h.1 (by rw [← hl] at h; simpa using h.2))
  obtain ⟨s1, h1⟩ := h
  have hlt : i < xs.length := (List.getElem?_eq_some_iff.mp hx).1
  have hy : ys[i]? = some (ys[i]'(by omega)) := List.getElem?_eq_getElem _
  refine ⟨hw x, w_yes (w_T (hv i x _ H' hx hy s1 _ fun H4 s4 => ⟨_, s4 _ _ h1, ?_, ?_, ?_⟩))⟩
  · rw [List.length_take]
    exact line1000' (by omega)
  · intro b o hb
    have nb : b ≠ Dl := ne_of_none hb hD
    rw [upd_ne nb]
    exact s4 _ _ (s1 _ _ hb)
  · rw [upd_same, List.take_add_one, hy]
    rfl
theorem w_s {k z : Str} {A C : Prop} (q1 : k = z → A) (q2 : k ≠ z → C) : if decide (V.str k = V.str z) = true then A else C := by
  by_cases e : k = z
  · rw [if_pos (by simp [e])]; exact q1 e
  · rw [if_neg (by simp [e])]; exact q2 e
theorem w_ns {k z : Str} {A C : Prop} (q1 : k ≠ z → A) (q2 : k = z → C) : if (!decide (V.str k = V.str z)) = true then A else C := by
  by_cases e : k = z
  · rw [if_neg (by simp [e])]; exact q2 e
  · rw [if_pos (by simp [e])]; exact q1 e
theorem w_aug {i : Nat} {te : TE} {ti : TIp} {D : Ends} {x : V} (h : σ[i]? = some (some x)) (q : te σ H fun y H1 => ti x y H1 fun z H2 => D.nx (σ.set i (some z)) H2) : tAug i te ti D σ H := ⟨x, h, q⟩
theorem v_ipI {f : Int → Int → Int} {i j : Int} (q : Q (.int (f i j)) H) : ipI f (.int i) (.int j) H Q := ⟨i, j, rfl, rfl, q⟩
theorem hu1 {A : Around} {k : Nat} (hr : Room k A) : A.units + 1 < cLine := by have := hu64 hr; omega
theorem w_dget {td ty : TE} (q : td σ H fun x H1 => ty σ H1 fun y H2 => ∃ a v, x = .ref a ∧ DGet H2 a y (some v) ∧ Q v H2) : tDGet td ty σ H Q := q
theorem w_dnotin {td ty : TE} (q : ty σ H fun y H1 => td σ H1 fun x H2 => ∃ a o, x = .ref a ∧ DGet H2 a y o ∧ Q (.bl (!o.isSome)) H2) : tDNotIn ty td σ H Q := q
theorem w_din {td ty : TE} (q : ty σ H fun y H1 => td σ H1 fun x H2 => ∃ a o, x = .ref a ∧ DGet H2 a y o ∧ Q (.bl o.isSome) H2) : tDIn ty td σ H Q := q
theorem v_dnotin {a : Addr} {z : Str} {kvs : List (Key × V)} (h : H a = some (.dK kvs)) (q : Q (.bl (!(valV kvs (.inr z : Key)).isSome)) H) : ∃ b o, V.ref a = .ref b ∧ DGet H b (.str z) o ∧ Q (.bl (!o.isSome)) H := ⟨a, _, rfl, DGet.k (k := .inr z) h, q⟩
theorem v_din {a : Addr} {z : Str} {kvs : List (Key × V)} (h : H a = some (.dK kvs)) (q : Q (.bl (valV kvs (.inr z : Key)).isSome) H) : ∃ b o, V.ref a = .ref b ∧ DGet H b (.str z) o ∧ Q (.bl o.isSome) H := ⟨a, _, rfl, DGet.k (k := .inr z) h, q⟩
theorem v_dget {a : Addr} {z : Str} {kvs : List (Key × V)} {v : V} (h : H a = some (.dK kvs)) (e : valV kvs (.inr z : Key) = some v) (q : Q v H) : ∃ b u, V.ref a = .ref b ∧ DGet H b (.str z) (some u) ∧ Q u H := ⟨a, v, rfl, by rw [← e]; exact DGet.k (k := .inr z) h, q⟩
theorem v_ixS {z : Str} {i : Int} {c : Nat} (h : z.length ≤ sizeLine) (e : atI z.cps.toList i = some c) (q : Q (.str ⟨#[c]⟩) H) : rIx K (.str z) (.int i) H Q := .inr (.inr ⟨z, i, c, rfl, rfl, h, e, q⟩)
theorem w_nb {b : Bool} {A C : Prop} (q1 : b = false → A) (q2 : b = true → C) : if (!b) = true then A else C := by
  cases b with
  | true => exact w_F (q2 rfl)
  | false => exact w_T (q1 rfl)
theorem v_notB {a b : Bool} (q : Q (.bl (!decide (a = b))) H) : rNotB (.bl a) (.bl b) H Q := ⟨a, b, rfl, rfl, q⟩
theorem v_rep {l : Addr} {k : Int} {xs : List V} (h : H l = some (.lst xs)) (h0 : 0 ≤ k) (h1 : k ≤ 1000) (h2 : xs.length ≤ 1000) (q : ∀ p H', Alloc H p (.lst (List.replicate k.toNat xs).flatten) H' → Q (.ref p) H') : rMulX (.ref l) (.int k) H Q := by
  refine .inr (.inr ⟨l, k, xs, rfl, rfl, h, by omega, by omega, ?_, fun p hp => q p _ ⟨hp, rfl⟩⟩)
  have : xs.length * k.toNat ≤ 1000 * 1000 := Nat.mul_le_mul h2 (by omega)
  exact line1000 this
theorem v_catL {l b : Addr} {xs zs : List V} (h1 : H l = some (.lst xs)) (h2 : H b = some (.lst zs)) (h3 : xs.length + zs.length ≤ 1000000) (q : ∀ p H', Alloc H p (.lst (xs ++ zs)) H' → Q (.ref p) H') : rAddX K (.ref l) (.ref b) H Q := v_cat h1 h2 (line1000 h3) fun p hp => q p _ ⟨hp, rfl⟩
theorem v_catT {a b : Addr} {xs ys : List V} (h1 : SqT K H a xs) (h2 : SqT K H b ys) (h3 : xs.length + ys.length ≤ 1000000) (hx : xs ≠ []) (hy : ys ≠ []) (q : ∀ p H', Alloc H p (.tup (xs ++ ys)) H' → Q (.ref p) H') : rAddX K (.ref a) (.ref b) H Q :=
  .inr (.inr (.inr ⟨a, b, xs, ys, rfl, rfl, h1, h2, line1000 h3, fun e => absurd e hx, fun _ e => absurd e hy, fun _ _ p hp => q p _ ⟨hp, rfl⟩⟩))
/-- t[:-1] -/
theorem v_slm {a : Addr} {xs : List V} (h : SqT K H a xs) (h0 : xs ≠ []) (q : ∀ p H', Alloc H p (.tup xs.dropLast) H' → Q (.ref p) H') : rSlA K (.ref a) none (some (-1)) H Q := by
  have hl : 0 < xs.length := List.length_pos_iff.mpr h0
  have e1 : HT.sIx xs.length xs.length (some (-1)) = xs.length - 1 := by
    show (if (-1 : Int) < 0 then ((-1 : Int) + (xs.length : Int)).toNat else min (-1 : Int).toNat xs.length) = xs.length - 1
    rw [if_pos (by decide)]
    omega
  refine ⟨a, xs, rfl, h, fun e => ?_, fun _ p hp => ?_⟩
  · exfalso
    have := e.2
    rw [e1] at this
    omega
  · have e : cutV xs none (some (-1)) = xs.dropLast := by
      unfold cutV
      rw [e1, HT.sIx_none, List.dropLast_eq_take]
      simp
    refine q p _ ⟨hp, ?_⟩
    rw [e]
theorem w_gtup {n : Nat} {t : TGs} {a : Addr} {xs : List V} {q' : L2.St → Hp → Prop} (h : SqT K H a xs) (hl : xs.length = n) (q : t xs σ H q') : gTup K n t (.ref a) σ H q' := ⟨a, xs, rfl, h, hl, q⟩
theorem w_gcons {t : TG} {u : TGs} {v : V} {r : List V} {q' : L2.St → Hp → Prop} (q : t v σ H fun σ1 H1 => u r σ1 H1 q') : gCons t u (v :: r) σ H q' := ⟨v, r, rfl, q⟩
theorem w_gnil {q' : L2.St → Hp → Prop} (q : q' σ H) : gNil [] σ H q' := ⟨rfl, q⟩
theorem slA {X : Cx} {K : PySem.W.Frag} (hK : X.K = K := by rfl) : SlR X (rSlA K) := by
  subst hK
  exact sl_tupA
theorem w_sl {r : V → Option Int → Option Int → Hp → VK → Prop} {te : TE} {tl th : TO} (q : te σ H fun x H1 => tl σ H1 fun l H2 => th σ H2 fun u H3 => r x l u H3 Q) : tSl r te tl th σ H Q := q
theorem w_ponone {P : Option Int → Hp → Prop} (q : P none H) : tNoPart σ H P := q
theorem w_po {te : TE} {P : Option Int → Hp → Prop} (q : te σ H fun x H1 => ∃ i, x = .int i ∧ P (some i) H1) : tPart te σ H P := q
theorem w_exI {i : Int} {P : Int → Prop} (q : P i) : ∃ j, V.int i = .int j ∧ P j := ⟨i, rfl, q⟩
/-- t[1:] -/
theorem v_sl1 {a : Addr} {x : V} {xs : List V} (h : SqT K H a (x :: xs)) (q : ∀ p H', Alloc H p (.tup xs) H' → Q (.ref p) H') : rSlA K (.ref a) (some 1) none H Q := by
  refine ⟨a, x :: xs, rfl, h, fun e => ?_, fun _ p hp => ?_⟩
  · exfalso
    have := e.1
    rw [show (some 1 : Option Int) = some ((1 : Nat) : Int) from rfl, HT.sIx_nat] at this
    simp at this
  · have e : cutV (x :: xs) (some 1) none = xs := by
      unfold cutV
      rw [show (some 1 : Option Int) = some ((1 : Nat) : Int) from rfl, HT.sIx_nat, HT.sIx_none]
      simp
    refine q p _ ⟨hp, ?_⟩
    rw [e]
end
end Rp
namespace Rp
open PySem L2
/-! ### a written dict of 18 to 32 pairs of texts -/
section
variable {prog : Program} {w : World} {K : Type} [DecidableEq K] {knd : KeyKind prog w K} {A : Around} {E : Value → Shared → Prop} {s : Shared}
theorem wpAny_dictPut_pairs {d : Addr} {kvs : List (K × Value)} {k : K} {key v : Value} {Q : Unit → Shared → Prop} (hkey : knd.is k key = true) (hm : s.heap.DictOf knd d kvs)
    (hQ : ∀ h', h'.DictOf knd d (stored kvs k v) → Heap.SameBut d s.heap h' → Q () { s with heap := h' })
    (hsz : kvs.length ≤ sizeLine) :
    wpAny (model prog w) A (dictPut d (knd.hash k) key v) Q E s := by
  obtain ⟨o, es, ep, ho, hc, hd, hk, hp, hn⟩ := hm
  have hes : es.size ≤ sizeLine := by have e1 := hp.length; have e2 : es.toList.length = es.size := by simp
                                      omega
  unfold dictPut
  refine wpAny_bind (wpAny_dictFind_of hkey ho hd hk ?_)
  have hidx : (es.findIdx? fun e => knd.is k e.key) = kvs.findIdx? fun kv => decide (kv.1 = k) := by
    rw [← hp.findIdx k]; obtain ⟨l⟩ := es; simp
  cases hi : es.findIdx? fun e => knd.is k e.key with
  | some i =>
    refine wpAny_updateDict ho hd (hQ _ ⟨_, _, ep, Heap.get?_update_self _ ho (Obj.isFreed_of_dict (Obj.data_mapDict hd _)),
      hc.mapDict _, Obj.data_mapDict hd _, hk.modify _ _, ?_, ?_⟩ (Heap.SameBut.update ..))
    · rw [stored, if_pos (any_of_findIdx_some (hidx ▸ hi))]
      have hl : (es.toList.findIdx? fun e => knd.is k e.key) = some i := by rw [← hi]; obtain ⟨l⟩ := es; simp
      have := hp.modify hn hl v
      obtain ⟨l⟩ := es
      simpa using this
    · rw [stored, if_pos (any_of_findIdx_some (hidx ▸ hi)), keys_map_store]; exact hn
  | none =>
    have hnot : k ∉ kvs.map (·.1) := not_mem_of_findIdx_none (hidx ▸ hi)
    have hany : ¬ (kvs.any fun kv => decide (kv.1 = k)) = true := by
      rw [List.any_eq_true]; rintro ⟨kv, hkv, he⟩
      exact hnot (List.mem_map.mpr ⟨kv, hkv, of_decide_eq_true he⟩)
    refine wpAny_updateDictKeys (hz := hes) ho hd (hQ _ ⟨_, _, ep + 1, Heap.get?_update_self _ ho (Obj.isFreed_of_dict (Obj.data_mapDictKeys hd _)),
      hc.mapDictKeys _, Obj.data_mapDictKeys hd _, hk.push hkey _, ?_, ?_⟩ (Heap.SameBut.update ..))
    · rw [stored, if_neg hany]
      have := hp.append hkey (knd.hash k) v
      obtain ⟨l⟩ := es
      simpa using this
    · rw [stored, if_neg hany, List.map_append, List.nodup_append]
      refine ⟨hn, by simp, ?_⟩
      intro a ha b hb
      simp only [List.map_cons, List.map_nil, List.mem_singleton] at hb
      subst hb
      exact fun e => hnot (e ▸ ha)
theorem sub_dict : isSubtype (.type "dict") (.type "dict") = pure true := by rw [isSubtype_type]; kernel_rfl
theorem iter_dict : typeLookup (.type "dict") "__iter__" = pure (some (.builtin "dict.__iter__")) := by rw [typeLookup_type, builtinLookup_eq_fast]; kernel_rfl
theorem wpAny_mergeMapping_dict {d o : Addr} {kvs more : List (K × Value)} {Q : Unit → Shared → Prop} (hdo : d ≠ o) (hoS : (o == sysModules) = false)
    (hd : s.heap.DictOf knd d kvs) (ho : s.heap.DictOf knd o more) (hne : kvs ≠ [])
    (hQ : ∀ h', h'.DictOf knd d (merged kvs more) → Heap.SameBut d s.heap h' → Q () { s with heap := h' })
    (hsz : kvs.length + more.length ≤ sizeLine) :
    wpAny (model prog w) A (mergeMapping d (.ref o) false) Q E s := by
  obtain ⟨od, esd, epd, hod, hcd, hdd, hkd, hpd, hnd⟩ := id hd
  obtain ⟨oo, eso, epo, hoo, hco, hdo', hko, hpo, hno⟩ := id ho
  have hlen : more.length = eso.size := by rw [← hpo.length]; simp
  have hned : esd.isEmpty = false := by
    have e1 := hpd.length
    cases kvs with
    | nil => exact absurd rfl hne
    | cons a r =>
      cases hx : esd.isEmpty with
      | false => rfl
      | true =>
        have e2 : esd = #[] := Array.isEmpty_iff.mp hx
        rw [e2] at e1
        simp at e1
  unfold mergeMapping
  refine wpAny_bind (wpAny_isInstance (T := "dict") ho.typeIs sub_dict ?_)
  rw [if_pos rfl]
  refine wpAny_bind (wpAny_specialOf (T := "dict") ho.typeIs iter_dict ?_)
  refine wpAny_bind (wpAny_pure ?_)
  have eb : (some (Value.builtin "dict.__iter__") == some (Value.builtin "dict.__iter__")) = true := by decide
  rw [eb]
  dsimp only
  rw [if_neg (by rw [hoS]; exact Bool.false_ne_true)]
  refine wpAny_bind (wpAny_dictEntries hod hdd ?_)
  rw [if_neg (by rw [hned]; exact Bool.false_ne_true)]
  refine wpAny_bind (wpAny_dictEntries hoo hdo' ?_)
  refine wpAny_bind (wpAny_dictEpoch hoo hdo' ?_)
  refine wpAny_bind ?_
  rw [List.range_eq_range']
  refine wpAny_forIn_list _
    (fun rest _ s' => ∃ h' i, s' = { s with heap := h' } ∧ rest = List.range' i (eso.size - i) ∧ i ≤ eso.size ∧ h'.DictOf knd d (merged kvs (more.take i)) ∧ h'.get? o = some oo ∧ Heap.SameBut d s.heap h')
    _ ?_ ?_ _ _ ⟨s.heap, 0, rfl, by simp, Nat.zero_le _, by simpa [merged] using hd, hoo, Heap.SameBut.refl _ _⟩
  · rintro x rest b s' ⟨h', i, rfl, hr, hi, hd', hoo', hs'⟩
    have hlt : i < eso.size := by
      rcases Nat.lt_or_ge i eso.size with h | h
      · exact h
      · rw [Nat.sub_eq_zero_of_le h] at hr; simp at hr
    obtain ⟨rfl, hrest⟩ : x = i ∧ rest = List.range' (i + 1) (eso.size - (i + 1)) := by
      have e : eso.size - i = (eso.size - (i + 1)) + 1 := by omega
      rw [e, List.range'_succ] at hr
      injection hr with h1 h2
      exact ⟨h1, h2⟩
    refine wpAny_bind (wpAny_dictEntries hoo' hdo' ?_)
    rw [Array.getElem?_eq_getElem hlt]
    obtain ⟨kv, hkv⟩ : ∃ kv, more[x]? = some kv := ⟨more[x]'(by rw [hlen]; exact hlt), List.getElem?_eq_getElem _⟩
    obtain ⟨k, v⟩ := kv
    obtain ⟨hkey, hval⟩ := hpo.get? (e := eso[x]) (by simp [hlt]) hkv
    obtain ⟨k', hkey', hhash⟩ := hko eso[x] (Array.getElem_mem hlt)
    obtain rfl : k' = k := knd.inj _ _ _ hkey' hkey
    dsimp only
    rw [if_neg Bool.false_ne_true, hhash, hval]
    have hmx : (merged kvs (more.take x)).length ≤ sizeLine := by
      have e1 := merged_length_le kvs (more.take x)
      have e2 : (more.take x).length ≤ more.length := by rw [List.length_take]; omega
      omega
    refine wpAny_bind (wpAny_holding (wpAny_dictPut_pairs (hsz := hmx) hkey hd' fun h'' hd'' hs'' => ?_))
    have hoo'' : h''.get? o = some oo := (hs''.2 o (Ne.symm hdo)).trans hoo'
    refine wpAny_bind (wpAny_dictEpoch hoo'' hdo' ?_)
    rw [if_neg (by simp)]
    exact wpAny_pure ⟨h'', x + 1, rfl, hrest, hlt, by rw [merged_take_succ kvs more x (k', v) hkv]; exact hd'', hoo'', hs'.trans hs''⟩
  · rintro b s' ⟨h', i, rfl, hr, hi, hd', hoo', hs'⟩
    have hin : i = eso.size := by
      rcases Nat.lt_or_ge i eso.size with h | h
      · have e : eso.size - i = (eso.size - (i + 1)) + 1 := by omega
        rw [e, List.range'_succ] at hr; exact nomatch hr
      · exact Nat.le_antisymm hi h
    refine wpAny_pure (hQ h' ?_ hs')
    rw [hin, ← hlen, List.take_length] at hd'; exact hd'
end
/-! trees that give texts -/
def LitT (P : Program) (w : World) (t : Sem Value) (z : Str) : Prop := ∀ (A : Around) (Q : Value → Shared → Prop) (E : Value → Shared → Prop) (s : Shared), (∀ tk n, Q (.str z tk) { s with toks := n }) → wpAny (model P w) A t Q E s
inductive LitP (P : Program) (w : World) : List (Sem Value × Sem Value) → List (Str × Str) → Prop where
  | nil : LitP P w [] []
  | cons {p : Sem Value × Sem Value} {r : Str × Str} {ps rs} (h1 : LitT P w p.1 r.1) (h2 : LitT P w p.2 r.2) (h : LitP P w ps rs) : LitP P w (p :: ps) (r :: rs)
/-- texts with tokens -/
def Toked (rs : List (Str × Str)) (vs : List (Key × Value)) : Prop := KV (rs.map fun r => ((.inr r.1 : Key), V.str r.2)) vs
section
variable {P : Program} {w : World} {A : Around} {E : Value → Shared → Prop}
theorem Toked.nil : Toked [] [] := by unfold Toked KV; exact .nil
theorem Toked.cons {r : Str × Str} {rs vs} {t : Tok} (h : Toked rs vs) : Toked (r :: rs) ((.inr r.1, .str r.2 t) :: vs) := by unfold Toked KV at *; exact .cons ⟨rfl, t, rfl⟩ h
theorem Toked.keys {rs vs} (h : Toked rs vs) : vs.map (·.1) = rs.map fun r => (.inr r.1 : Key) := by
  induction rs generalizing vs with
  | nil => unfold Toked KV at h; cases h; rfl
  | cons r rs ih =>
    unfold Toked KV at h
    rw [List.map_cons] at h
    cases h with
    | cons h1 h2 =>
      rw [List.map_cons, List.map_cons, ih h2, ← h1.1]
theorem Toked.length {rs vs} (h : Toked rs vs) : vs.length = rs.length := by
  have := congrArg List.length h.keys
  simpa using this
theorem Toked.nodup {rs vs} (h : Toked rs vs) (hn : (rs.map (·.1)).Nodup) : (vs.map (·.1)).Nodup := by
  rw [h.keys]
  have e : (rs.map fun r => (.inr r.1 : Key)) = (rs.map (·.1)).map Sum.inr := by rw [List.map_map]; rfl
  rw [e]
  exact hn.map _ fun a b h1 h2 => h1 (Sum.inr.inj h2)
theorem Toked.append {rs qs vs us} (h : Toked rs vs) (g : Toked qs us) : Toked (rs ++ qs) (vs ++ us) := by
  induction rs generalizing vs with
  | nil => unfold Toked KV at h; cases h; exact g
  | cons r rs ih =>
    unfold Toked KV at h
    rw [List.map_cons] at h
    cases h with
    | cons h1 h2 =>
      have := ih h2
      unfold Toked KV at this ⊢
      exact .cons h1 this
theorem LitP.len {ps rs} (h : LitP P w ps rs) : ps.length = rs.length := by
  induction h with
  | nil => rfl
  | cons _ _ _ ih => simp [ih]
/-- the long display: one pair behind the other -/
theorem lit_long {d : Addr} {ps : List (Sem Value × Sem Value)} {rs : List (Str × Str)} (L : LitP P w ps rs) : ∀ {Q : PUnit → Shared → Prop} {s : Shared} (acc : List (Key × Value)), s.heap.DictOf (mixKind P w) d acc → acc.length + rs.length ≤ sizeLine →
    (∀ h' n vs, Toked rs vs → h'.DictOf (mixKind P w) d (merged acc vs) → Heap.SameBut d s.heap h' → Q ⟨⟩ { s with heap := h', toks := n }) →
    wpAny (model P w) A (forIn ps PUnit.unit fun (x : Sem Value × Sem Value) (_ : PUnit) => (do
      let kv ← x.1
      let vv ← holding [kv] x.2
      holding [kv, vv] (dictSet d kv vv)
      pure (ForInStep.yield PUnit.unit) : Sem (ForInStep PUnit))) Q E s := by
  induction L with
  | nil =>
    intro Q s acc hd hz q
    rw [List.forIn_nil]
    exact wpAny_pure (q s.heap s.toks [] .nil hd (Heap.SameBut.refl _ _))
  | @cons p r ps rs h1 h2 L ih =>
    intro Q s acc hd hz q
    rw [List.forIn_cons]
    refine wpAny_bind (wpAny_bind (h1 _ _ _ _ fun tk n => ?_))
    refine wpAny_bind (wpAny_holding (h2 _ _ _ _ fun tk2 n2 => ?_))
    refine wpAny_bind (wpAny_holding (wpAny_dictSet_pairs (knd := mixKind P w) (k := .inr r.1) (hsz := by simp at hz; omega) (keyIs_str r.1 tk) hd fun h' hd' hs' => wpAny_pure ?_))
    refine ih (stored acc (.inr r.1) (.str r.2 tk2)) hd' (by have := stored_length_le acc (.inr r.1 : Key) (.str r.2 tk2); simp at hz; omega) fun h'' n3 vs tv hd'' hs'' => ?_
    exact q h'' n3 _ (.cons tv) hd'' (hs'.trans hs'')
theorem lit_subLong {ps : List (Sem Value × Sem Value)} {rs : List (Str × Str)} (L : LitP P w ps rs) {Q : Addr → Shared → Prop} {s : Shared} (h15 : ¬ ps.length ≤ 15) (hz : rs.length ≤ 1000)
    (q : ∀ h' n vs, Toked rs vs → h'.DictOf (mixKind P w) s.heap.objs.size (merged [] vs) → (∀ b o, s.heap.get? b = some o → h'.get? b = some o) → Q s.heap.objs.size { s with heap := h', toks := n }) :
    wpAny (model P w) A (subDict ps) Q E s := by
  unfold subDict
  refine wpAny_bind (wpAny_alloc ?_)
  refine wpAny_bind (wpAny_holding ?_)
  rw [if_neg h15]
  refine wpAny_bind (wpAny_rule ?_)
  refine wpAny_bind (lit_long L [] (Heap.DictOf.new s.heap) (by simp; exact Nat.le_trans hz (by decide)) fun h' n vs tv hd hs => ?_)
  refine wpAny_pure (wpAny_pure (q h' n vs tv hd fun b o e => ?_))
  exact (hs.2 b (Nat.ne_of_lt (Heap.lt_size e))).trans (Heap.get?_push_of_some _ e)
theorem lit_pairs {ps : List (Sem Value × Sem Value)} {rs : List (Str × Str)} (L : LitP P w ps rs) : ∀ {Q : List (Value × Value) → Shared → Prop} {s : Shared},
    (∀ n (us : List (Value × Value)) (vs : List (Key × Value)), Toked rs vs → Carries (mixKind P w) us vs → Q us { s with toks := n }) → wpAny (model P w) A (evalPairs ps) Q E s := by
  induction L with
  | nil =>
    intro Q s q
    exact evalPairs_nil (q s.toks [] [] .nil trivial)
  | @cons p r ps rs h1 h2 L ih =>
    intro Q s q
    obtain ⟨p1, p2⟩ := p
    refine evalPairs_cons (h1 _ _ _ _ fun tk n => h2 _ _ _ _ fun tk2 n2 => ih fun n3 us vs tv c => ?_)
    exact q n3 _ ((.inr r.1, .str r.2 tk2) :: vs) (.cons tv) ⟨keyIs_str r.1 tk, rfl, c⟩
theorem lit_subShort {ps : List (Sem Value × Sem Value)} {rs : List (Str × Str)} (L : LitP P w ps rs) {Q : Addr → Shared → Prop} {s : Shared} (h15 : ps.length ≤ 15)
    (q : ∀ h' n vs, Toked rs vs → h'.DictOf (mixKind P w) s.heap.objs.size (merged [] vs) → (∀ b o, s.heap.get? b = some o → h'.get? b = some o) → Q s.heap.objs.size { s with heap := h', toks := n }) :
    wpAny (model P w) A (subDict ps) Q E s := by
  refine wpAny_subDict (knd := mixKind P w) h15 (lit_pairs L fun n us vs tv c => ⟨vs, c, Heap.DictOf.new s.heap, fun h' hd hs => ?_⟩)
  exact q h' _ vs tv hd fun b o e => (hs.2 b (Nat.ne_of_lt (Heap.lt_size e))).trans (Heap.get?_push_of_some _ e)
theorem stored_ne {acc : List (Key × Value)} {k : Key} {v : Value} : stored acc k v ≠ [] := by
  unfold stored
  split
  · rename_i h
    intro e
    have : acc = [] := by simpa using e
    subst this
    simp at h
  · simp
theorem merged_ne {acc : List (Key × Value)} (h : acc ≠ []) : ∀ vs : List (Key × Value), merged acc vs ≠ []
  | [] => h
  | x :: r => merged_ne (acc := stored acc x.1 x.2) stored_ne r
/-- gathering up to sixteen -/
theorem forIn_gather2 (m0 : Option Addr) (f : (Option (Sem Value) × Sem Value) → (Option Addr × List (Sem Value × Sem Value)) → Sem (ForInStep (Option Addr × List (Sem Value × Sem Value))))
    (hf : ∀ (p : Sem Value × Sem Value) (run : List (Sem Value × Sem Value)), run.length + 1 < 17 → f (some p.1, p.2) (m0, run) = pure (.yield (m0, run ++ [p]))) (rest : List (Option (Sem Value) × Sem Value)) :
    ∀ (items run : List (Sem Value × Sem Value)), run.length + items.length < 17 → forIn ((items.map fun p => (some p.1, p.2)) ++ rest) (m0, run) f = forIn rest (m0, run ++ items) f
  | [], run, _ => by simp
  | p :: its, run, h => by
    rw [List.map_cons, List.cons_append, List.forIn_cons, hf p run (by simp at h; omega), pure_bind]
    have := forIn_gather2 m0 f hf rest its (run ++ [p]) (by simp at h ⊢; omega)
    simpa using this
theorem lit_display {p1 p2 : List (Sem Value × Sem Value)} {p : Sem Value × Sem Value} {r1 r2 : List (Str × Str)} (L1 : LitP P w (p1 ++ [p]) r1) (L2 : LitP P w p2 r2) {Q : Value → Shared → Prop} {s : Shared} (hs0 : sysModules < s.heap.objs.size)
    (h1 : p1.length = 16) (h2 : p2.length ≤ 15) (h3 : p2 ≠ []) (hnd : (r2.map (·.1)).Nodup)
    (q : ∀ h' n vs us, Toked r1 vs → Toked r2 us → h'.DictOf (mixKind P w) s.heap.objs.size (merged (merged [] vs) us) → (∀ b o, s.heap.get? b = some o → h'.get? b = some o) → Q (.ref s.heap.objs.size) { s with heap := h', toks := n }) :
    wpAny (model P w) A (dictDisplay ((p1 ++ ([p] ++ p2)).map fun p => (some p.1, p.2))) Q E s := by
  have hl1 : r1.length = 17 := by rw [← L1.len]; simp [h1]
  have hl2 : r2.length ≤ 15 := by rw [← L2.len]; exact h2
  unfold dictDisplay
  dsimp only
  rw [List.map_append]
  rw [forIn_gather2 none _ (fun p run h => by
    have hne : ((run ++ [(p.1, p.2)]).length == 17) = false := by simp; omega
    simp only [hne, Bool.false_eq_true, if_false]) _ p1 [] (by simp; omega)]
  rw [List.map_append, List.map_cons, List.map_nil, List.cons_append, List.nil_append, List.forIn_cons]
  have h17 : (([] ++ p1 ++ [(p.1, p.2)]).length == 17) = true := by simp [h1]
  have hnn : ([] ++ p1 ++ [(p.1, p.2)]).isEmpty = false := by simp
  dsimp only
  rw [if_pos h17, if_neg (by rw [hnn]; exact Bool.false_ne_true)]
  refine wpAny_bind (wpAny_bind (wpAny_bind (wpAny_bind (lit_subLong (ps := [] ++ p1 ++ [(p.1, p.2)]) (by simpa using L1) (by simp [h1]) (by omega) fun h' n vs tv hd hk => ?_))))
  refine wpAny_pure (wpAny_pure ?_)
  dsimp only
  have hsz : s.heap.objs.size < h'.objs.size := by
    obtain ⟨o, _, _, ho, _⟩ := id hd
    exact Heap.lt_size ho
  have e2 := forIn_gather2 (some s.heap.objs.size)
  rw [← List.append_nil (List.map (fun p => (some p.1, p.2)) p2)]
  rw [e2 _ (fun p run h => by
    have hne : ((run ++ [(p.1, p.2)]).length == 17) = false := by simp; omega
    simp only [hne, Bool.false_eq_true, if_false]) _ p2 [] (by simp; omega)]
  rw [List.forIn_nil]
  refine wpAny_pure ?_
  dsimp only
  have hn2 : ([] ++ p2).isEmpty = false := by
    cases p2 with
    | nil => exact absurd rfl h3
    | cons a r => rfl
  rw [if_neg (by rw [hn2]; exact Bool.false_ne_true)]
  refine wpAny_bind (wpAny_bind (wpAny_holding (lit_subShort (ps := [] ++ p2) (by simpa using L2) (by simpa using h2) fun h'' n2 us tu hd2 hk2 => ?_)))
  have hd1 : h''.DictOf (mixKind P w) s.heap.objs.size (merged [] vs) := hd.keep hk2
  have hlv : (merged [] vs).length ≤ 17 := by
    have e1 := merged_length_le ([] : List (Key × Value)) vs
    have e2 := tv.length
    simp at e1 e2
    omega
  have hlu : (merged [] us).length ≤ 15 := by
    have e1 := merged_length_le ([] : List (Key × Value)) us
    have e2 := tu.length
    simp at e1 e2
    omega
  refine wpAny_bind (wpAny_onRaise (wpAny_holding (wpAny_mergeMapping_dict (knd := mixKind P w) (Nat.ne_of_lt hsz) (beq_eq_false_iff_ne.mpr (Nat.ne_of_gt (Nat.lt_trans hs0 hsz))) hd1 hd2 ?_ (fun h3 hd3 hs3 => ?_) ?_)))
  · intro e
    have e2 := tv.length
    cases vs with
    | nil => simp at e2; omega
    | cons x r => exact merged_ne (stored_ne (acc := []) (k := x.1) (v := x.2)) r e
  · refine wpAny_pure (wpAny_pure ?_)
    dsimp only
    rw [merged_nil_of_nodup us (tu.nodup hnd)] at hd3
    exact q h3 n2 vs us tv tu hd3 fun b o e => (hs3.2 b (Nat.ne_of_lt (Heap.lt_size e))).trans (hk2 b o (hk b o e))
  · exact Nat.le_trans (Nat.add_le_add hlv hlu) (by decide)
end
def litS : Expr → Option Str
  | .Constant (.str z) _ _ => some z
  | _ => none
def litRows : List (Option Expr) → List Expr → Option (List (Str × Str))
  | [], [] => some []
  | some k :: ks, v :: vs => match litS k, litS v, litRows ks vs with
    | some a, some b, some r => some ((a, b) :: r)
    | _, _, _ => none
  | _, _ => none
theorem litS_is {e : Expr} {z : Str} (h : litS e = some z) : ∃ k pos, e = .Constant (.str z) k pos := by
  unfold litS at h
  split at h
  · cases h; exact ⟨_, _, rfl⟩
  · cases h
theorem litT_of {P : Program} {w : World} {e : Expr} {z : Str} {env : Env} (h : litS e = some z) : LitT P w (eval e env) z := by
  obtain ⟨k, pos, rfl⟩ := litS_is h
  intro A Q E s q
  exact Calls.Constant_str (q s.toks (s.toks + 1))
theorem litP_of {P : Program} {w : World} {env : Env} {pos : Pos} : ∀ {keys : List (Option Expr)} {values : List Expr} {rows : List (Str × Str)}, litRows keys values = some rows → LitP P w (pairTrees keys values env pos) rows ∧ keys.all (·.isSome) = true ∧ keys.length = values.length
  | [], [], rows, h => by cases h; exact ⟨.nil, rfl, rfl⟩
  | [], _ :: _, _, h => by cases h
  | none :: _, _, _, h => by simp [litRows] at h
  | some k :: ks, [], _, h => by cases h
  | some k :: ks, v :: vs, rows, h => by
    unfold litRows at h
    cases e1 : litS k with
    | none => rw [e1] at h; cases h
    | some a =>
      cases e2 : litS v with
      | none => rw [e1, e2] at h; cases h
      | some b =>
        cases e3 : litRows ks vs with
        | none => rw [e1, e2, e3] at h; cases h
        | some r =>
          rw [e1, e2, e3] at h
          cases h
          obtain ⟨L, g1, g2⟩ := litP_of e3
          refine ⟨.cons (litT_of e1) ?_ L, by simpa using g1, by simpa using g2⟩
          intro A Q E s q
          exact wpAny_bind (litT_of e2 _ _ _ _ fun tk n => wpAny_bind (wpAny_standAt (wpAny_pure (q tk n))))
theorem LitP.split {P : Program} {w : World} : ∀ {a b : List (Sem Value × Sem Value)} {rs : List (Str × Str)}, LitP P w (a ++ b) rs → LitP P w a (rs.take a.length) ∧ LitP P w b (rs.drop a.length)
  | [], b, rs, h => ⟨.nil, h⟩
  | x :: a, b, rs, h => by
    cases h with
    | cons h1 h2 h3 =>
      obtain ⟨g1, g2⟩ := LitP.split h3
      exact ⟨.cons h1 h2 g1, g2⟩
def rowsV (rows : List (Str × Str)) : List (Key × V) := rows.map fun r => ((.inr r.1 : Key), V.str r.2)
def tDispS (rows : List (Str × Str)) : TE := fun σ H Q => ∀ p H', Alloc H p (.dK (rowsV rows)) H' → Q (.ref p) H'
theorem w_dispS {rows : List (Str × Str)} {σ : L2.St} {H : Hp} {Q : VK} (q : ∀ p H', Alloc H p (.dK (rowsV rows)) H' → Q (.ref p) H') : tDispS rows σ H Q := q
theorem valV_rows (w : Str) : ∀ rows : List (Str × Str), valV (rowsV rows) (.inr w : Key) = (rows.lookup w).map V.str
  | [] => rfl
  | r :: rows => by
    have ih := valV_rows w rows
    unfold valV rowsV at ih ⊢
    rw [List.map_cons, List.find?_cons, List.lookup_cons]
    by_cases e : w = r.1
    · subst e
      simp
    · have e2 : ¬ (Sum.inr r.1 : Key) = .inr w := fun h => e (Sum.inr.inj h).symm
      have e3 : (w == r.1) = false := by simpa using e
      rw [decide_eq_false e2, e3]
      exact ih
theorem pe_dispS {X : Cx} {pos : Pos} {keys : List (Option Expr)} {values : List Expr} {rows : List (Str × Str)} (h : litRows keys values = some rows) (hn : (rows.map (·.1)).Nodup) (h1 : 17 < rows.length) (h2 : rows.length ≤ 32) :
    PE X (.Dict keys values pos) (tDispS rows) := by
  refine ⟨fun pins s σ H Q I q => ?_⟩
  obtain ⟨L, hall, hl⟩ := litP_of (P := X.prog) (w := X.w) (env := X.env) (pos := pos) h
  rw [arm_eval_Dict, zip_pairTrees keys values X.env pos hall hl]
  refine wpAny_bind (wpAny_standAt ?_)
  generalize pairTrees keys values X.env pos = ps at L
  have hlen := L.len
  obtain ⟨p1, p, p2, rfl, hp1⟩ : ∃ p1 p p2, ps = p1 ++ ([p] ++ p2) ∧ p1.length = 16 := by
    refine ⟨ps.take 16, ps[16]'(by omega), ps.drop 17, ?_, by simp; omega⟩
    rw [List.singleton_append, ← List.drop_eq_getElem_cons, List.take_append_drop]
  have L' : LitP X.prog X.w ((p1 ++ [p]) ++ p2) rows := by simpa using L
  obtain ⟨La, Lb⟩ := L'.split
  have ha : (p1 ++ [p]).length = 17 := by simp [hp1]
  rw [ha] at La Lb
  have hn' : ((rows.take 17 ++ rows.drop 17).map (·.1)).Nodup := by rw [List.take_append_drop]; exact hn
  have hnd2 : ((rows.drop 17).map (·.1)).Nodup := by
    rw [List.map_append, List.nodup_append] at hn'
    exact hn'.2.1
  have hp2 : p2.length ≤ 15 := by simp [hp1] at hlen; omega
  have hp3 : p2 ≠ [] := by
    intro e
    subst e
    simp [hp1] at hlen
    omega
  refine lit_display La Lb I.big hp1 hp2 hp3 hnd2 fun h' n vs us tv tu hd hk => ?_
  have tr : Toked rows (vs ++ us) := by
    have := Toked.append tv tu
    rw [List.take_append_drop] at this
    exact this
  have em : merged (merged [] vs) us = vs ++ us := by
    have e0 : merged [] vs = vs := merged_nil_of_nodup vs (tv.nodup (by rw [List.map_append, List.nodup_append] at hn'; exact hn'.1))
    rw [e0]
    exact merged_append_of_fresh vs us (tr.nodup hn)
  rw [em] at hd
  have hsz : (rowsV rows).length ≤ sizeLine := by
    unfold rowsV
    rw [List.length_map]
    exact Nat.le_trans h2 (by decide)
  refine ⟨.ref s.heap.objs.size, _, I.laid (t' := n) (o := .dK (rowsV rows)) hk (Nat.le_refl _) (dk_new hsz (beq_eq_false_iff_ne.mpr (Nat.ne_of_gt I.big)) tr hd), rfl, q _ _ ⟨I.hok.fresh (Nat.le_refl _), rfl⟩⟩
end Rp

set_option Elab.async false
set_option linter.all false
set_option maxRecDepth 100000
set_option maxHeartbeats 4000000
namespace Rp
open PySem L2
local macro_rules | `(tactic| walk_at "rd1") => `(tactic| first
  | with_reducible refine w_seq ?_
  | with_reducible refine w_set ?_
  | with_reducible refine w_ret ?_
  | with_reducible refine w_if ?_
  | with_reducible refine w_op ?_
  | with_reducible refine w_c ?_
  | with_reducible refine w_var (by with_unfolding_all rfl) ?_
  | with_reducible refine w_cb ?_
  | with_reducible refine w_cons ?_
  | with_reducible refine w_nil ?_
  | with_reducible refine w_test ?_
  | with_reducible refine w_tb ?_
  | with_reducible refine w_not ?_
  | with_reducible refine w_and ?_
  | with_reducible refine w_or ?_
  | with_reducible refine w_andV ?_
  | with_reducible refine w_orV ?_
  | with_reducible refine w_notV ?_
  | with_reducible refine w_ifx ?_
  | with_reducible refine w_next ?_
  | with_reducible refine w_drop ?_
  | with_reducible refine w_chain ?_
  | with_reducible refine w_call ?_
  | with_reducible refine w_exb ?_
  | with_reducible refine w_T ?_
  | with_reducible refine w_F ?_
  | with_reducible refine w_nT ?_
  | with_reducible refine w_nF ?_
  | with_reducible refine v_addI ?_
  | with_reducible refine v_cmpI ?_
  | with_reducible refine v_isi kd_non ?_
  | with_reducible refine v_isi kd_bl ?_
  | with_reducible refine v_isi kd_int ?_
  | with_reducible refine v_isi kd_str ?_
  | with_reducible refine v_isi (by assumption) ?_
  | with_reducible refine v_isi (kd_dp (by assumption)) ?_
  | with_reducible refine v_isN ?_
  | with_reducible refine v_notN ?_
  | with_reducible refine w_un ?_
  | with_reducible refine v_neg ?_
  | with_reducible refine v_int ?_
  | with_reducible refine v_intB ?_
  | with_reducible refine v_abs ?_
  | with_reducible refine v_strS ?_
  | with_reducible refine w_tlst ?_
  | with_reducible refine w_ttup ?_
  | with_reducible refine w_asgE ?_
  | with_reducible refine w_sub ?_
  | with_reducible refine w_bm ?_
  | with_reducible refine w_lc ?_
  | with_reducible refine v_eq (by with_unfolding_all rfl) ?_
  | with_reducible refine v_ne (by with_unfolding_all rfl) ?_
  | with_reducible refine w_yes ?_
  | with_reducible refine w_name ?_
  | with_reducible refine w_tru ?_
  | with_reducible refine w_notT ?_
  | with_reducible refine t_bl ?_
  | with_reducible refine t_non ?_
  | with_reducible refine t_int ?_
  | with_reducible refine w_for ?_
  | with_reducible refine w_iStr ?_
  | with_reducible refine w_iList ?_
  | with_reducible refine w_iTup ?_
  | with_reducible refine w_iR1 ?_
  | with_reducible refine w_iR2 ?_
  | with_reducible refine w_exS ?_
  | with_reducible refine w_bT (by with_unfolding_all rfl) ?_
  | with_reducible refine w_bF (by with_unfolding_all rfl) ?_
  | with_reducible refine v_inTab ?_
  | with_reducible refine v_niTab ?_
  | with_reducible refine w_aug (by with_unfolding_all rfl) ?_
  | with_reducible refine v_ipI ?_
  | with_reducible refine w_dget ?_
  | with_reducible refine w_dnotin ?_
  | with_reducible refine w_din ?_
  | with_reducible refine w_dispS ?_
  | with_reducible refine w_izip ?_
  | with_reducible refine w_exI ?_
  | with_reducible refine w_gcons ?_
  | with_reducible refine w_gnil ?_
  | with_reducible refine w_sl ?_
  | with_reducible refine w_po ?_
  | with_reducible refine w_ponone ?_)
def top (i : Nat) : Stmt := PySem.Challenge.pw_ripplewell_k03_programs.main.body.getD i (.Pass ⟨0, 0, 0, 0⟩)
abbrev s_is_integer : Stmt := top 5
abbrev N_is_integer : List Str := ["thing"]
theorem sc_is_integer : FnScope N_is_integer ["thing"] (defScope s_is_integer) := ⟨rfl, rfl, rfl, by decide +kernel, rfl, by decide +kernel, by decide +kernel⟩
abbrev s_is_value : Stmt := top 6
abbrev N_is_value : List Str := ["thing"]
theorem sc_is_value : FnScope N_is_value ["thing"] (defScope s_is_value) := ⟨rfl, rfl, rfl, by decide +kernel, rfl, by decide +kernel, by decide +kernel⟩
abbrev s_is_key : Stmt := top 7
abbrev N_is_key : List Str := ["thing", "sign"]
theorem sc_is_key : FnScope N_is_key ["thing"] (defScope s_is_key) := ⟨rfl, rfl, rfl, by decide +kernel, rfl, by decide +kernel, by decide +kernel⟩
abbrev s_has_word : Stmt := top 14
abbrev N_has_word : List Str := ["thing"]
theorem sc_has_word : FnScope N_has_word ["thing"] (defScope s_has_word) := ⟨rfl, rfl, rfl, by decide +kernel, rfl, by decide +kernel, by decide +kernel⟩
abbrev s_expression_kinds : Stmt := top 15
abbrev N_expression_kinds : List Str := ["thing", "kinds"]
theorem sc_expression_kinds : FnScope N_expression_kinds ["thing"] (defScope s_expression_kinds) := ⟨rfl, rfl, rfl, by decide +kernel, rfl, by decide +kernel, by decide +kernel⟩
abbrev s_statement_kinds : Stmt := top 16
abbrev N_statement_kinds : List Str := ["thing", "kinds"]
theorem sc_statement_kinds : FnScope N_statement_kinds ["thing"] (defScope s_statement_kinds) := ⟨rfl, rfl, rfl, by decide +kernel, rfl, by decide +kernel, by decide +kernel⟩
abbrev s_is_expression : Stmt := top 17
abbrev N_is_expression : List Str := ["thing", "depth", "kinds", "kind", "part"]
theorem sc_is_expression : FnScope N_is_expression ["thing", "depth"] (defScope s_is_expression) := ⟨rfl, rfl, rfl, by decide +kernel, rfl, by decide +kernel, by decide +kernel⟩
abbrev s_is_pair : Stmt := top 18
abbrev N_is_pair : List Str := ["thing"]
theorem sc_is_pair : FnScope N_is_pair ["thing"] (defScope s_is_pair) := ⟨rfl, rfl, rfl, by decide +kernel, rfl, by decide +kernel, by decide +kernel⟩
abbrev s_are_pairs : Stmt := top 19
abbrev N_are_pairs : List Str := ["thing", "pair", "names", "name"]
theorem sc_are_pairs : FnScope N_are_pairs ["thing"] (defScope s_are_pairs) := ⟨rfl, rfl, rfl, by decide +kernel, rfl, by decide +kernel, by decide +kernel⟩
abbrev s_part_size : Stmt := top 20
abbrev N_part_size : List Str := ["kind", "part", "depth", "good"]
theorem sc_part_size : FnScope N_part_size ["kind", "part", "depth"] (defScope s_part_size) := ⟨rfl, rfl, rfl, by decide +kernel, rfl, by decide +kernel, by decide +kernel⟩
abbrev s_statement_size : Stmt := top 21
abbrev N_statement_size : List Str := ["thing", "depth", "kinds", "total", "kind", "part", "size"]
theorem sc_statement_size : FnScope N_statement_size ["thing", "depth"] (defScope s_statement_size) := ⟨rfl, rfl, rfl, by decide +kernel, rfl, by decide +kernel, by decide +kernel⟩
abbrev s_block_size : Stmt := top 22
abbrev N_block_size : List Str := ["thing", "depth", "total", "statement", "size"]
theorem sc_block_size : FnScope N_block_size ["thing", "depth"] (defScope s_block_size) := ⟨rfl, rfl, rfl, by decide +kernel, rfl, by decide +kernel, by decide +kernel⟩
abbrev s_is_program : Stmt := top 23
abbrev N_is_program : List Str := ["thing", "size"]
theorem sc_is_program : FnScope N_is_program ["thing"] (defScope s_is_program) := ⟨rfl, rfl, rfl, by decide +kernel, rfl, by decide +kernel, by decide +kernel⟩
abbrev s_l_cell : Stmt := top 25
abbrev N_l_cell : List Str := ["_law_script", "_law_k"]
theorem sc_l_cell : FnScope N_l_cell ["_law_script", "_law_k"] (defScope s_l_cell) := ⟨rfl, rfl, rfl, by decide +kernel, rfl, by decide +kernel, by decide +kernel⟩
abbrev s_l_row : Stmt := top 26
abbrev N_l_row : List Str := ["_law_script", "_law_first", "_law_last", "_law_row_here", "_law_k", "_law_cell_here", "_law_turn"]
theorem sc_l_row : FnScope N_l_row ["_law_script", "_law_first", "_law_last"] (defScope s_l_row) := ⟨rfl, rfl, rfl, by decide +kernel, rfl, by decide +kernel, by decide +kernel⟩
abbrev s_l_draw : Stmt := top 27
abbrev N_l_draw : List Str := ["_law_box", "_law_many", "_law_at"]
theorem sc_l_draw : FnScope N_l_draw ["_law_box", "_law_many"] (defScope s_l_draw) := ⟨rfl, rfl, rfl, by decide +kernel, rfl, by decide +kernel, by decide +kernel⟩
abbrev s_l_value : Stmt := top 28
abbrev N_l_value : List Str := ["_law_box"]
theorem sc_l_value : FnScope N_l_value ["_law_box"] (defScope s_l_value) := ⟨rfl, rfl, rfl, by decide +kernel, rfl, by decide +kernel, by decide +kernel⟩
abbrev s_l_is_bool : Stmt := top 29
abbrev N_l_is_bool : List Str := ["_law_v"]
theorem sc_l_is_bool : FnScope N_l_is_bool ["_law_v"] (defScope s_l_is_bool) := ⟨rfl, rfl, rfl, by decide +kernel, rfl, by decide +kernel, by decide +kernel⟩
abbrev s_l_is_key : Stmt := top 34
abbrev N_l_is_key : List Str := ["_law_v", "_law_sign"]
theorem sc_l_is_key : FnScope N_l_is_key ["_law_v"] (defScope s_l_is_key) := ⟨rfl, rfl, rfl, by decide +kernel, rfl, by decide +kernel, by decide +kernel⟩
abbrev s_l_good_name : Stmt := top 35
abbrev N_l_good_name : List Str := ["_law_x"]
theorem sc_l_good_name : FnScope N_l_good_name ["_law_x"] (defScope s_l_good_name) := ⟨rfl, rfl, rfl, by decide +kernel, rfl, by decide +kernel, by decide +kernel⟩
abbrev s_l_good_value : Stmt := top 36
abbrev N_l_good_value : List Str := ["_law_v"]
theorem sc_l_good_value : FnScope N_l_good_value ["_law_v"] (defScope s_l_good_value) := ⟨rfl, rfl, rfl, by decide +kernel, rfl, by decide +kernel, by decide +kernel⟩
abbrev s_l_good_expr : Stmt := top 37
abbrev N_l_good_expr : List Str := ["_law_e", "_law_depth"]
theorem sc_l_good_expr : FnScope N_l_good_expr ["_law_e", "_law_depth"] (defScope s_l_good_expr) := ⟨rfl, rfl, rfl, by decide +kernel, rfl, by decide +kernel, by decide +kernel⟩
abbrev s_l_good_pairs : Stmt := top 38
abbrev N_l_good_pairs : List Str := ["_law_pairs", "_law_seen", "_law_pair"]
theorem sc_l_good_pairs : FnScope N_l_good_pairs ["_law_pairs"] (defScope s_l_good_pairs) := ⟨rfl, rfl, rfl, by decide +kernel, rfl, by decide +kernel, by decide +kernel⟩
abbrev s_l_forms : Stmt := top 39
abbrev N_l_forms : List Str := []
theorem sc_l_forms : FnScope N_l_forms [] (defScope s_l_forms) := ⟨rfl, rfl, rfl, by decide +kernel, rfl, by decide +kernel, by decide +kernel⟩
abbrev s_l_count : Stmt := top 40
abbrev N_l_count : List Str := ["_law_block", "_law_depth", "_law_many", "_law_st", "_law_form", "_law_k", "_law_part"]
theorem sc_l_count : FnScope N_l_count ["_law_block", "_law_depth"] (defScope s_l_count) := ⟨rfl, rfl, rfl, by decide +kernel, rfl, by decide +kernel, by decide +kernel⟩
abbrev s_l_some_name : Stmt := top 41
abbrev N_l_some_name : List Str := ["_law_box"]
theorem sc_l_some_name : FnScope N_l_some_name ["_law_box"] (defScope s_l_some_name) := ⟨rfl, rfl, rfl, by decide +kernel, rfl, by decide +kernel, by decide +kernel⟩
abbrev s_l_some_expr : Stmt := top 42
abbrev N_l_some_expr : List Str := ["_law_box", "_law_depth", "_law_word"]
theorem sc_l_some_expr : FnScope N_l_some_expr ["_law_box", "_law_depth"] (defScope s_l_some_expr) := ⟨rfl, rfl, rfl, by decide +kernel, rfl, by decide +kernel, by decide +kernel⟩
abbrev s_l_some_part : Stmt := top 43
abbrev N_l_some_part : List Str := ["_law_box", "_law_letter", "_law_depth", "_law_pairs", "_law_k"]
theorem sc_l_some_part : FnScope N_l_some_part ["_law_box", "_law_letter", "_law_depth"] (defScope s_l_some_part) := ⟨rfl, rfl, rfl, by decide +kernel, rfl, by decide +kernel, by decide +kernel⟩
abbrev s_l_some_block : Stmt := top 44
abbrev N_l_some_block : List Str := ["_law_box", "_law_depth", "_law_out", "_law_k", "_law_word", "_law_st", "_law_letter"]
theorem sc_l_some_block : FnScope N_l_some_block ["_law_box", "_law_depth"] (defScope s_l_some_block) := ⟨rfl, rfl, rfl, by decide +kernel, rfl, by decide +kernel, by decide +kernel⟩
abbrev s_law : Stmt := top 45
abbrev N_law : List Str := ["_law_script", "_law_box", "_law_turn", "_law_program", "_law_told", "_law_deep", "_law_k", "_law_many", "_law_long", "_law_pairs", "_law_thing"]
theorem sc_law : FnScope N_law ["_law_script"] (defScope s_law) := ⟨rfl, rfl, rfl, by decide +kernel, rfl, by decide +kernel, by decide +kernel⟩
abbrev dg (x : Str) (st : Stmt) : He.DefD := ⟨(x, none), x, x, defArgs st, defBody st, defScope st, [], []⟩
def fn : List He.DefD := [dg "is_integer" s_is_integer, dg "is_value" s_is_value, dg "is_key" s_is_key, dg "_has_word" s_has_word, dg "_expression_kinds" s_expression_kinds, dg "_statement_kinds" s_statement_kinds, dg "_is_expression" s_is_expression, dg "_is_pair" s_is_pair, dg "_are_pairs" s_are_pairs, dg "_part_size" s_part_size, dg "_statement_size" s_statement_size, dg "_block_size" s_block_size, dg "is_program" s_is_program, dg "_law_cell" s_l_cell, dg "_law_row" s_l_row, dg "_law_draw" s_l_draw, dg "_law_value" s_l_value, dg "_law_is_bool" s_l_is_bool, dg "_law_is_key" s_l_is_key, dg "_law_good_name" s_l_good_name, dg "_law_good_value" s_l_good_value, dg "_law_good_expr" s_l_good_expr, dg "_law_good_pairs" s_l_good_pairs, dg "_law_forms" s_l_forms, dg "_law_count" s_l_count, dg "_law_some_name" s_l_some_name, dg "_law_some_expr" s_l_some_expr, dg "_law_some_part" s_l_some_part, dg "_law_some_block" s_l_some_block, dg "law" s_law]
def fa : List He.Fa := [.free "isinstance", .free "bool", .free "int", .int "MODULUS" 1000, .free "len", .int "LONGEST" 40, .free "str", .int "LONGEST_KEY" 8, .free "all", .str "LETTERS" "abcdefghijklmnopqrstuvwxyz", .free "range", .free "abs", .free "tuple", .free "list", .glo "EXPRESSIONS", .glo "STATEMENTS", .int "DEEPEST" 5, .free "zip", .int "MOST_PAIRS" 8, .int "MOST_STATEMENTS" 200, .glo "is_integer", .glo "is_value", .glo "is_key", .glo "_has_word", .glo "_expression_kinds", .glo "_statement_kinds", .glo "_is_expression", .glo "_is_pair", .glo "_are_pairs", .glo "_part_size", .glo "_statement_size", .glo "_block_size", .glo "is_program", .glo "_law_cell", .glo "_law_row", .glo "_law_draw", .glo "_law_value", .glo "_law_is_bool", .glo "_law_is_key", .glo "_law_good_name", .glo "_law_good_value", .glo "_law_good_expr", .glo "_law_good_pairs", .glo "_law_forms", .glo "_law_count", .glo "_law_some_name", .glo "_law_some_expr", .glo "_law_some_part", .glo "_law_some_block", .glo "law"]
def rows_EXPRESSIONS : List (Str × List Str) := [("value", ["value"]), ("var", ["name"]), ("read", ["name"]), ("peek", ["name"]), ("state", ["name"]), ("get", ["name", "expression"]), ("has", ["name", "expression"]), ("size", ["name"]), ("use", ["name"]), ("add", ["expression", "expression"]), ("join", ["expression", "expression"]), ("equal", ["expression", "expression"]), ("less", ["expression", "expression"]), ("not", ["expression"])]
def rows_STATEMENTS : List (Str × List Str) := [("let", ["name", "expression"]), ("if", ["expression", "block", "block"]), ("each", ["name", "name", "block"]), ("try", ["block", "name", "block"]), ("raise", ["expression"]), ("return", ["expression"]), ("emit", ["expression"]), ("write", ["name", "expression"]), ("put", ["name", "expression", "expression"]), ("remove", ["name", "expression"]), ("reset", ["name"]), ("dispose", ["name"]), ("cleanup", ["expression"]), ("signal", ["name", "expression"]), ("store", ["name", "pairs"]), ("scope", ["name"]), ("boundary", ["name"]), ("computed", ["name", "block"]), ("effect", ["name", "block"]), ("resource", ["name", "block"]), ("keyed", ["name", "name", "name", "block"]), ("atomic", ["block", "name", "block"])]
def ts : List TabX := [("EXPRESSIONS", rows_EXPRESSIONS), ("STATEMENTS", rows_STATEMENTS)]
def mo : List (PySem.W.Frag → Bool) := []
structure Wd (w : World) (K : PySem.W.Frag) (mg : Str → Option Value) : Prop where
  ex : ∃ h : Heap, K.In h ∧ h.Ns mainGlobals mg ∧ SaysX fa fn mo ts w K
section
variable {w : World} {K : PySem.W.Frag} {mg : Str → Option Value}
theorem t_EXPRESSIONS (T : Wd w K mg) : KTab K w (He.ga K "EXPRESSIONS") rows_EXPRESSIONS := by
  obtain ⟨h, X, G, c⟩ := T.ex
  exact c.tab 0
theorem t_STATEMENTS (T : Wd w K mg) : KTab K w (He.ga K "STATEMENTS") rows_STATEMENTS := by
  obtain ⟨h, X, G, c⟩ := T.ex
  exact c.tab 1
theorem m_isinstance (T : Wd w K mg) : mg "isinstance" = none := by
  obtain ⟨h, X, G, c⟩ := T.ex
  exact He.free_ok X G (c.d.fact 0 (f := .free "isinstance") rfl)
theorem m_bool (T : Wd w K mg) : mg "bool" = none := by
  obtain ⟨h, X, G, c⟩ := T.ex
  exact He.free_ok X G (c.d.fact 1 (f := .free "bool") rfl)
theorem m_int (T : Wd w K mg) : mg "int" = none := by
  obtain ⟨h, X, G, c⟩ := T.ex
  exact He.free_ok X G (c.d.fact 2 (f := .free "int") rfl)
theorem m_MODULUS (T : Wd w K mg) : ∃ t, mg "MODULUS" = some (.int 1000 t) := by
  obtain ⟨h, X, G, c⟩ := T.ex
  exact He.int_ok X G (c.d.fact 3 (f := .int "MODULUS" 1000) rfl)
theorem m_len (T : Wd w K mg) : mg "len" = none := by
  obtain ⟨h, X, G, c⟩ := T.ex
  exact He.free_ok X G (c.d.fact 4 (f := .free "len") rfl)
theorem m_LONGEST (T : Wd w K mg) : ∃ t, mg "LONGEST" = some (.int 40 t) := by
  obtain ⟨h, X, G, c⟩ := T.ex
  exact He.int_ok X G (c.d.fact 5 (f := .int "LONGEST" 40) rfl)
theorem m_str (T : Wd w K mg) : mg "str" = none := by
  obtain ⟨h, X, G, c⟩ := T.ex
  exact He.free_ok X G (c.d.fact 6 (f := .free "str") rfl)
theorem m_LONGEST_KEY (T : Wd w K mg) : ∃ t, mg "LONGEST_KEY" = some (.int 8 t) := by
  obtain ⟨h, X, G, c⟩ := T.ex
  exact He.int_ok X G (c.d.fact 7 (f := .int "LONGEST_KEY" 8) rfl)
theorem m_all (T : Wd w K mg) : mg "all" = none := by
  obtain ⟨h, X, G, c⟩ := T.ex
  exact He.free_ok X G (c.d.fact 8 (f := .free "all") rfl)
theorem m_LETTERS (T : Wd w K mg) : ∃ t, mg "LETTERS" = some (.str "abcdefghijklmnopqrstuvwxyz" t) := by
  obtain ⟨h, X, G, c⟩ := T.ex
  exact He.str_ok X G (c.d.fact 9 (f := .str "LETTERS" "abcdefghijklmnopqrstuvwxyz") rfl)
theorem m_range (T : Wd w K mg) : mg "range" = none := by
  obtain ⟨h, X, G, c⟩ := T.ex
  exact He.free_ok X G (c.d.fact 10 (f := .free "range") rfl)
theorem m_abs (T : Wd w K mg) : mg "abs" = none := by
  obtain ⟨h, X, G, c⟩ := T.ex
  exact He.free_ok X G (c.d.fact 11 (f := .free "abs") rfl)
theorem m_tuple (T : Wd w K mg) : mg "tuple" = none := by
  obtain ⟨h, X, G, c⟩ := T.ex
  exact He.free_ok X G (c.d.fact 12 (f := .free "tuple") rfl)
theorem m_list (T : Wd w K mg) : mg "list" = none := by
  obtain ⟨h, X, G, c⟩ := T.ex
  exact He.free_ok X G (c.d.fact 13 (f := .free "list") rfl)
theorem m_EXPRESSIONS (T : Wd w K mg) : mg "EXPRESSIONS" = some (.ref (He.ga K "EXPRESSIONS")) := by
  obtain ⟨h, X, G, c⟩ := T.ex
  exact He.glo_ok X G (c.d.fact 14 (f := .glo "EXPRESSIONS") rfl)
theorem m_STATEMENTS (T : Wd w K mg) : mg "STATEMENTS" = some (.ref (He.ga K "STATEMENTS")) := by
  obtain ⟨h, X, G, c⟩ := T.ex
  exact He.glo_ok X G (c.d.fact 15 (f := .glo "STATEMENTS") rfl)
theorem m_DEEPEST (T : Wd w K mg) : ∃ t, mg "DEEPEST" = some (.int 5 t) := by
  obtain ⟨h, X, G, c⟩ := T.ex
  exact He.int_ok X G (c.d.fact 16 (f := .int "DEEPEST" 5) rfl)
theorem m_zip (T : Wd w K mg) : mg "zip" = none := by
  obtain ⟨h, X, G, c⟩ := T.ex
  exact He.free_ok X G (c.d.fact 17 (f := .free "zip") rfl)
theorem m_MOST_PAIRS (T : Wd w K mg) : ∃ t, mg "MOST_PAIRS" = some (.int 8 t) := by
  obtain ⟨h, X, G, c⟩ := T.ex
  exact He.int_ok X G (c.d.fact 18 (f := .int "MOST_PAIRS" 8) rfl)
theorem m_MOST_STATEMENTS (T : Wd w K mg) : ∃ t, mg "MOST_STATEMENTS" = some (.int 200 t) := by
  obtain ⟨h, X, G, c⟩ := T.ex
  exact He.int_ok X G (c.d.fact 19 (f := .int "MOST_STATEMENTS" 200) rfl)
theorem m_is_integer (T : Wd w K mg) : mg "is_integer" = some (.ref (He.ga K "is_integer")) := by
  obtain ⟨h, X, G, c⟩ := T.ex
  exact He.glo_ok X G (c.d.fact 20 (f := .glo "is_integer") rfl)
theorem m_is_value (T : Wd w K mg) : mg "is_value" = some (.ref (He.ga K "is_value")) := by
  obtain ⟨h, X, G, c⟩ := T.ex
  exact He.glo_ok X G (c.d.fact 21 (f := .glo "is_value") rfl)
theorem m_is_key (T : Wd w K mg) : mg "is_key" = some (.ref (He.ga K "is_key")) := by
  obtain ⟨h, X, G, c⟩ := T.ex
  exact He.glo_ok X G (c.d.fact 22 (f := .glo "is_key") rfl)
theorem m__has_word (T : Wd w K mg) : mg "_has_word" = some (.ref (He.ga K "_has_word")) := by
  obtain ⟨h, X, G, c⟩ := T.ex
  exact He.glo_ok X G (c.d.fact 23 (f := .glo "_has_word") rfl)
theorem m__expression_kinds (T : Wd w K mg) : mg "_expression_kinds" = some (.ref (He.ga K "_expression_kinds")) := by
  obtain ⟨h, X, G, c⟩ := T.ex
  exact He.glo_ok X G (c.d.fact 24 (f := .glo "_expression_kinds") rfl)
theorem m__statement_kinds (T : Wd w K mg) : mg "_statement_kinds" = some (.ref (He.ga K "_statement_kinds")) := by
  obtain ⟨h, X, G, c⟩ := T.ex
  exact He.glo_ok X G (c.d.fact 25 (f := .glo "_statement_kinds") rfl)
theorem m__is_expression (T : Wd w K mg) : mg "_is_expression" = some (.ref (He.ga K "_is_expression")) := by
  obtain ⟨h, X, G, c⟩ := T.ex
  exact He.glo_ok X G (c.d.fact 26 (f := .glo "_is_expression") rfl)
theorem m__is_pair (T : Wd w K mg) : mg "_is_pair" = some (.ref (He.ga K "_is_pair")) := by
  obtain ⟨h, X, G, c⟩ := T.ex
  exact He.glo_ok X G (c.d.fact 27 (f := .glo "_is_pair") rfl)
theorem m__are_pairs (T : Wd w K mg) : mg "_are_pairs" = some (.ref (He.ga K "_are_pairs")) := by
  obtain ⟨h, X, G, c⟩ := T.ex
  exact He.glo_ok X G (c.d.fact 28 (f := .glo "_are_pairs") rfl)
theorem m__part_size (T : Wd w K mg) : mg "_part_size" = some (.ref (He.ga K "_part_size")) := by
  obtain ⟨h, X, G, c⟩ := T.ex
  exact He.glo_ok X G (c.d.fact 29 (f := .glo "_part_size") rfl)
theorem m__statement_size (T : Wd w K mg) : mg "_statement_size" = some (.ref (He.ga K "_statement_size")) := by
  obtain ⟨h, X, G, c⟩ := T.ex
  exact He.glo_ok X G (c.d.fact 30 (f := .glo "_statement_size") rfl)
theorem m__block_size (T : Wd w K mg) : mg "_block_size" = some (.ref (He.ga K "_block_size")) := by
  obtain ⟨h, X, G, c⟩ := T.ex
  exact He.glo_ok X G (c.d.fact 31 (f := .glo "_block_size") rfl)
theorem m_is_program (T : Wd w K mg) : mg "is_program" = some (.ref (He.ga K "is_program")) := by
  obtain ⟨h, X, G, c⟩ := T.ex
  exact He.glo_ok X G (c.d.fact 32 (f := .glo "is_program") rfl)
theorem m__law_cell (T : Wd w K mg) : mg "_law_cell" = some (.ref (He.ga K "_law_cell")) := by
  obtain ⟨h, X, G, c⟩ := T.ex
  exact He.glo_ok X G (c.d.fact 33 (f := .glo "_law_cell") rfl)
theorem m__law_row (T : Wd w K mg) : mg "_law_row" = some (.ref (He.ga K "_law_row")) := by
  obtain ⟨h, X, G, c⟩ := T.ex
  exact He.glo_ok X G (c.d.fact 34 (f := .glo "_law_row") rfl)
theorem m__law_draw (T : Wd w K mg) : mg "_law_draw" = some (.ref (He.ga K "_law_draw")) := by
  obtain ⟨h, X, G, c⟩ := T.ex
  exact He.glo_ok X G (c.d.fact 35 (f := .glo "_law_draw") rfl)
theorem m__law_value (T : Wd w K mg) : mg "_law_value" = some (.ref (He.ga K "_law_value")) := by
  obtain ⟨h, X, G, c⟩ := T.ex
  exact He.glo_ok X G (c.d.fact 36 (f := .glo "_law_value") rfl)
theorem m__law_is_bool (T : Wd w K mg) : mg "_law_is_bool" = some (.ref (He.ga K "_law_is_bool")) := by
  obtain ⟨h, X, G, c⟩ := T.ex
  exact He.glo_ok X G (c.d.fact 37 (f := .glo "_law_is_bool") rfl)
theorem m__law_is_key (T : Wd w K mg) : mg "_law_is_key" = some (.ref (He.ga K "_law_is_key")) := by
  obtain ⟨h, X, G, c⟩ := T.ex
  exact He.glo_ok X G (c.d.fact 38 (f := .glo "_law_is_key") rfl)
theorem m__law_good_name (T : Wd w K mg) : mg "_law_good_name" = some (.ref (He.ga K "_law_good_name")) := by
  obtain ⟨h, X, G, c⟩ := T.ex
  exact He.glo_ok X G (c.d.fact 39 (f := .glo "_law_good_name") rfl)
theorem m__law_good_value (T : Wd w K mg) : mg "_law_good_value" = some (.ref (He.ga K "_law_good_value")) := by
  obtain ⟨h, X, G, c⟩ := T.ex
  exact He.glo_ok X G (c.d.fact 40 (f := .glo "_law_good_value") rfl)
theorem m__law_good_expr (T : Wd w K mg) : mg "_law_good_expr" = some (.ref (He.ga K "_law_good_expr")) := by
  obtain ⟨h, X, G, c⟩ := T.ex
  exact He.glo_ok X G (c.d.fact 41 (f := .glo "_law_good_expr") rfl)
theorem m__law_good_pairs (T : Wd w K mg) : mg "_law_good_pairs" = some (.ref (He.ga K "_law_good_pairs")) := by
  obtain ⟨h, X, G, c⟩ := T.ex
  exact He.glo_ok X G (c.d.fact 42 (f := .glo "_law_good_pairs") rfl)
theorem m__law_forms (T : Wd w K mg) : mg "_law_forms" = some (.ref (He.ga K "_law_forms")) := by
  obtain ⟨h, X, G, c⟩ := T.ex
  exact He.glo_ok X G (c.d.fact 43 (f := .glo "_law_forms") rfl)
theorem m__law_count (T : Wd w K mg) : mg "_law_count" = some (.ref (He.ga K "_law_count")) := by
  obtain ⟨h, X, G, c⟩ := T.ex
  exact He.glo_ok X G (c.d.fact 44 (f := .glo "_law_count") rfl)
theorem m__law_some_name (T : Wd w K mg) : mg "_law_some_name" = some (.ref (He.ga K "_law_some_name")) := by
  obtain ⟨h, X, G, c⟩ := T.ex
  exact He.glo_ok X G (c.d.fact 45 (f := .glo "_law_some_name") rfl)
theorem m__law_some_expr (T : Wd w K mg) : mg "_law_some_expr" = some (.ref (He.ga K "_law_some_expr")) := by
  obtain ⟨h, X, G, c⟩ := T.ex
  exact He.glo_ok X G (c.d.fact 46 (f := .glo "_law_some_expr") rfl)
theorem m__law_some_part (T : Wd w K mg) : mg "_law_some_part" = some (.ref (He.ga K "_law_some_part")) := by
  obtain ⟨h, X, G, c⟩ := T.ex
  exact He.glo_ok X G (c.d.fact 47 (f := .glo "_law_some_part") rfl)
theorem m__law_some_block (T : Wd w K mg) : mg "_law_some_block" = some (.ref (He.ga K "_law_some_block")) := by
  obtain ⟨h, X, G, c⟩ := T.ex
  exact He.glo_ok X G (c.d.fact 48 (f := .glo "_law_some_block") rfl)
theorem m_law (T : Wd w K mg) : mg "law" = some (.ref (He.ga K "law")) := by
  obtain ⟨h, X, G, c⟩ := T.ex
  exact He.glo_ok X G (c.d.fact 49 (f := .glo "law") rfl)
theorem mk_cal {P : Program} {base : Heap} {x : Str} {st : Stmt} {N ps : List Str} {k : Nat} {sp : Sp} (T : Wd w K mg) (i : Nat) (h : fn[i]? = some (dg x st)) (S : FnScope N ps (defScope st)) (hg : mg x = some (.ref (He.ga K x)))
    (b : ∀ (kV doc pm : Value) (an : Option Addr) (cdv ct : Value) (us : List Value), us.length = ps.length → bindArgs (PySem.W.fnOf x x (defArgs st) (defBody st) (defScope st) .none kV doc pm an cdv ct) ⟨us, []⟩ = pure (ps.zip us))
    (len : ∀ vs H Q E, sp vs H Q E → vs.length = ps.length)
    (hbody : ∀ (fa : Addr) (cdv : Value) (A : Around) (outer : List Env) (s : Shared) (H : Hp) (vs : List V) (Q : VK) (E : XK), Room k (A.deeper (PyProof.Rows.envOfC x (defScope st) s.heap.objs.size fa cdv)) → sp vs H Q E →
      ∃ t, PSs (cxOf CX0 P w K mg base N x (defScope st) fa cdv A outer s H E).nox (defBody st) t ∧ t { nx := fun _ H' => Q .non H', rt := Q } (L2.start N vs) H) : Cal P w K mg base x CX0 (k + 1) sp := by
  obtain ⟨h', X, G, c⟩ := T.ex
  obtain ⟨fd, F⟩ := c.d.def_ i h
  refine ⟨He.ga K x, fd, ps, FunD.ok F S len (fun cdv A outer s H vs Q E hr hs => ?_), hg, F.kp, FunD.bindsN F b⟩
  obtain ⟨t, ht, q⟩ := hbody _ cdv A outer s H vs Q E hr hs
  exact ⟨t, ht.nox, q⟩
theorem mk_fn {P : Program} {w : World} {base : Heap} {x : Str} {st : Stmt} {N ps : List Str} {k : Nat} {sp : Sp} {f : Addr} {fd : FuncData} (F : FunD K x x (defArgs st) (defBody st) (defScope st) [] [] f fd) (S : FnScope N ps (defScope st))
    (len : ∀ vs H Q E, sp vs H Q E → vs.length = ps.length)
    (hbody : ∀ (fa : Addr) (cdv : Value) (A : Around) (outer : List Env) (s : Shared) (H : Hp) (vs : List V) (Q : VK) (E : XK), Room k (A.deeper (PyProof.Rows.envOfC x (defScope st) s.heap.objs.size fa cdv)) → sp vs H Q E →
      ∃ t, PSs (cxOf CX0 P w K mg base N x (defScope st) fa cdv A outer s H E).nox (defBody st) t ∧ t { nx := fun _ H' => Q .non H', rt := Q } (L2.start N vs) H) : FnOk P w K mg base CX0 (k + 1) f fd ps sp := by
  refine FunD.ok F S len (fun cdv A outer s H vs Q E hr hs => ?_)
  obtain ⟨t, ht, q⟩ := hbody _ cdv A outer s H vs Q E hr hs
  exact ⟨t, ht.nox, q⟩
end

/-! ### values.py -/
def sp_is_integer (K : PySem.W.Frag) : Sp := fun vs H Q _ => ∃ v k, vs = [v] ∧ Kn K H v k ∧ Q (.bl (isIntV v)) H
theorem ok_is_integer {P : Program} {w : World} {K : PySem.W.Frag} {mg : Str → Option Value} {base : Heap} (T : Wd w K mg) : Cal P w K mg base "is_integer" CX0 1 (sp_is_integer K) := by
  refine mk_cal T 0 rfl sc_is_integer (m_is_integer T) (fun _ _ _ _ _ _ us hl => match us, hl with | [_], _ => rfl) (fun vs H Q E h => ?_) (fun f cdv A outer s H vs Q E hr h => ?_)
  · obtain ⟨v, k, rfl, _⟩ := h; rfl
  obtain ⟨v, k, rfl, hk, q⟩ := h
  refine ⟨_, (pss_one (ps_ret (pe_and (pe_callB (call_isiK (K := K) .int) (by rfl) (m_isinstance T) (by decide +kernel) (pa_cons (pv 0) (pa_cons (pe_tyB (n := Kd.nm .int) (by rfl) (m_int T) (by decide +kernel)) pa_nil))) (pe_one (pe_not (pe_callB (call_isiK (K := K) .bl) (by rfl) (m_isinstance T) (by decide +kernel) (pa_cons (pv 0) (pa_cons (pe_tyB (n := Kd.nm .bl) (by rfl) (m_bool T) (by decide +kernel)) pa_nil)))))))), ?_⟩
  cases hk
  all_goals (repeat walk_at "rd1")
  all_goals exact q
def sp_is_value (K : PySem.W.Frag) : Sp := fun vs H Q _ => ∃ v k, vs = [v] ∧ Kn K H v k ∧ Q (.bl (isValV v)) H
theorem ok_is_value {P : Program} {w : World} {K : PySem.W.Frag} {mg : Str → Option Value} {base : Heap} (T : Wd w K mg) : Cal P w K mg base "is_value" CX0 2 (sp_is_value K) := by
  have c_is_integer := ok_is_integer (P := P) (w := w) (base := base) T
  refine mk_cal T 1 rfl sc_is_value (m_is_value T) (fun _ _ _ _ _ _ us hl => match us, hl with | [_], _ => rfl) (fun vs H Q E h => ?_) (fun f cdv A outer s H vs Q E hr h => ?_)
  · obtain ⟨v, k, rfl, _⟩ := h; rfl
  obtain ⟨v, k, rfl, hk, q⟩ := h
  refine ⟨_, (pss_cons (ps_if (pw_or (pt_cmpR opIsN (pv 0) pe_non (nomark _)) (pw_or1 (pt_val (pe_callB (call_isiK (K := K) .bl) (by rfl) (m_isinstance T) (by decide +kernel) (pa_cons (pv 0) (pa_cons (pe_tyB (n := Kd.nm .bl) (by rfl) (m_bool T) (by decide +kernel)) pa_nil)))))).pt (pss_one (ps_ret pe_bl)) pss_nil)
  (pss_cons (ps_if (pt_val (pe_cal c_is_integer (hr.mono (by decide)) pass0 (pa_cons (pv 0) pa_nil))) (pss_one (ps_ret (pe_chain op_le op_lt pe_int (pv 0) (pe_gint (by rfl) (m_MODULUS T))))) pss_nil)
  (pss_one (ps_ret (pe_and (pe_callB (call_isiK (K := K) .str) (by rfl) (m_isinstance T) (by decide +kernel) (pa_cons (pv 0) (pa_cons (pe_tyB (n := Kd.nm .str) (by rfl) (m_str T) (by decide +kernel)) pa_nil))) (pe_one (pe_cmpR op_le (pe_callB (callLen (K := K)) (by rfl) (m_len T) (by decide +kernel) (pa_cons (pv 0) pa_nil)) (pe_gint (by rfl) (m_LONGEST T)) (nomark _)))))))), ?_⟩
  cases hk
  all_goals (repeat walk_at "rd1")
  · exact q
  · exact q
  · refine ⟨_, _, rfl, .int _, ?_⟩
    repeat walk_at "rd1"
    refine w_b (fun h1 => ?_) (fun h1 => ?_)
    all_goals (repeat walk_at "rd1")
    all_goals exact qb q (by simp [isValV] at h1 ⊢; omega)
  all_goals (refine ⟨_, _, rfl, by first | exact .str _ (by assumption) | exact .lst _ (by assumption) | exact .tup _ (by assumption) | exact .dic _ (by assumption), ?_⟩)
  all_goals (repeat walk_at "rd1")
  · refine v_lenS (line1000 (by omega)) ?_
    repeat walk_at "rd1"
    exact qb q (by simp [isValV]; omega)
  all_goals exact q
def sp_is_key (K : PySem.W.Frag) : Sp := fun vs H Q _ => ∃ v k, vs = [v] ∧ Kn K H v k ∧ ∀ H', Same H H' → Q (.bl (isKeyV v)) H'
theorem ok_is_key {P : Program} {w : World} {K : PySem.W.Frag} {mg : Str → Option Value} {base : Heap} (T : Wd w K mg) : Cal P w K mg base "is_key" CX0 1 (sp_is_key K) := by
  refine mk_cal T 2 rfl sc_is_key (m_is_key T) (fun _ _ _ _ _ _ us hl => match us, hl with | [_], _ => rfl) (fun vs H Q E h => ?_) (fun f cdv A outer s H vs Q E hr h => ?_)
  · obtain ⟨v, k, rfl, _⟩ := h; rfl
  obtain ⟨v, k, rfl, hk, q⟩ := h
  refine ⟨_, (pss_cons (ps_if (pw_or (pt_not (pt_val (pe_callB (call_isiK (K := K) .str) (by rfl) (m_isinstance T) (by decide +kernel) (pa_cons (pv 0) (pa_cons (pe_tyB (n := Kd.nm .str) (by rfl) (m_str T) (by decide +kernel)) pa_nil))))) (pw_or1 (pt_not (pt_chain op_le op_le pe_int (pe_callB (callLen (K := K)) (by rfl) (m_len T) (by decide +kernel) (pa_cons (pv 0) pa_nil)) (pe_gint (by rfl) (m_LONGEST_KEY T)))))).pt (pss_one (ps_ret pe_bl)) pss_nil)
  (pss_one (ps_ret (pe_callB (cr_all rfl) (by rfl) (m_all T) (by decide +kernel) (pa_cons (pe_lc (own := [("sign", 1)]) (g := gName 1) rfl sc_is_key.nd (pi_str (pv 0)) (blkOk_by (own := [("sign", 1)]) (N := N_is_key) (sc := defScope s_is_key) (by decide +kernel)) (fun _ _ _ _ _ => pg_name (i := 1) sc_is_key.nd rfl (Or.inl rfl)) (fun _ _ _ _ _ => pts_nil) (fun _ _ _ _ _ => (pe_cmpR (opIn (K := K)) (pv 1) (pe_gstr (by rfl) (m_LETTERS T)) (by with_unfolding_all rfl)))) pa_nil))))), ?_⟩
  cases hk
  all_goals (repeat walk_at "rd1")
  all_goals first | exact q H (Same.refl H) | skip
  rename_i z hz
  refine v_lenS (line1000 (by omega)) ?_
  repeat walk_at "rd1"
  refine w_b (fun h1 => ?_) (fun h1 => ?_)
  all_goals (repeat walk_at "rd1")
  · refine w_b (fun h2 => ?_) (fun h2 => ?_)
    all_goals (repeat walk_at "rd1")
    · exact qb (q _ (Same.refl _)) (by simp [isKeyV] at h1 h2 ⊢; omega)
    · refine lcp (it_str (z := z)) ?_ (fun _ _ => trivial) (fun _ => true) signKeyV ?_ (fun _ _ _ _ _ => ansS_yes) ?_ ?_
      · simp [signsV, Str.length] at hz ⊢; omega
      · intro x; rfl
      · intro i x H' hx _ _ Q' k
        simp [signsV] at hx
        obtain ⟨c, hc, rfl⟩ := hx
        repeat walk_at "rd1"
        exact .inl ⟨c, _, rfl, rfl, k _ (Same.refl _)⟩
      · intro Dl H' hD s hl
        rw [signKey_all] at hl
        repeat walk_at "rd1"
        refine v_all (SqL.of hl) ?_
        exact qb (q _ s) (by simp [isKeyV, signKey_is] at h1 h2 ⊢; omega)
  · exact qb (q _ (Same.refl _)) (by simp [isKeyV] at h1 ⊢; omega)
/-! ### the law's own draws -/
def sp_l_cell (K : PySem.W.Frag) : Sp := fun vs H Q _ => ∃ (a : Addr) (ns : List Int) (k : Int), vs = [.ref a, .int k] ∧ SqL K H a (ns.map V.int) ∧ 0 ≤ k ∧ ∀ n : Int, n = ns.getD k.toNat 0 → Q (.int n) H
theorem ok_l_cell {P : Program} {w : World} {K : PySem.W.Frag} {mg : Str → Option Value} {base : Heap} (T : Wd w K mg) : Cal P w K mg base "_law_cell" CX0 1 (sp_l_cell K) := by
  refine mk_cal T 13 rfl sc_l_cell (m__law_cell T) (fun _ _ _ _ _ _ us hl => match us, hl with | [_, _], _ => rfl) (fun vs H Q E h => ?_) (fun f cdv A outer s H vs Q E hr h => ?_)
  · obtain ⟨a, ns, k, rfl, _⟩ := h; rfl
  obtain ⟨a, ns, k, rfl, hS, hk, q⟩ := h
  refine ⟨_, (pss_cons (ps_if (pt_cmpR op_lt (pv 1) (pe_callB (callLen (K := K)) (by rfl) (m_len T) (by decide +kernel) (pa_cons (pv 0) pa_nil)) (nomark _)) (pss_one (ps_ret (pe_ix (ixS (K := K)) (pv 0) (pv 1) (fun _ _ => rfl)))) pss_nil)
  (pss_one (ps_ret pe_int))), ?_⟩
  repeat walk_at "rd1"
  refine v_lenL hS ?_
  repeat walk_at "rd1"
  refine w_b (fun h1 => ?_) (fun h1 => ?_)
  all_goals (repeat walk_at "rd1")
  · simp at h1
    have hi : k.toNat < ns.length := by omega
    refine v_ixL hS (v := .int (ns.getD k.toNat 0)) ?_ (q _ rfl)
    have e : k = ((k.toNat : Nat) : Int) := by omega
    rw [e]
    refine atI_nat ?_
    rw [List.getElem?_map, List.getElem?_eq_getElem hi, List.getD_eq_getElem?_getD, Int.toNat_natCast, List.getElem?_eq_getElem hi]
    rfl
  · simp at h1
    refine q 0 ?_
    have hi : ns.length ≤ k.toNat := by omega
    simp [List.getElem?_eq_none hi, List.getD_eq_getElem?_getD]
def sp_l_row (K : PySem.W.Frag) : Sp := fun vs H Q _ => ∃ (a : Addr) (ns : List Int) (x y : Int), vs = [.ref a, .int x, .int y] ∧ SqL K H a (ns.map V.int) ∧ 0 ≤ x ∧ x ≤ y ∧ y ≤ 100 ∧
  ∀ (p : Addr) (H' : Hp) (row : List Int), H p = none → Same H H' → H' p = some (.lst (row.map V.int)) → row.length ≤ 60 * (y - x).toNat → Q (.ref p) H'
theorem ok_l_row {P : Program} {w : World} {K : PySem.W.Frag} {mg : Str → Option Value} {base : Heap} (T : Wd w K mg) : Cal P w K mg base "_law_row" CX0 2 (sp_l_row K) := by
  have c_l_cell := ok_l_cell (P := P) (w := w) (base := base) T
  refine mk_cal T 14 rfl sc_l_row (m__law_row T) (fun _ _ _ _ _ _ us hl => match us, hl with | [_, _, _], _ => rfl) (fun vs H Q E h => ?_) (fun f cdv A outer s H vs Q E hr h => ?_)
  · obtain ⟨a, ns, x, y, rfl, _⟩ := h; rfl
  obtain ⟨a, ns, x, y, rfl, hS, h0, h1, h2, q⟩ := h
  refine ⟨_, (pss_cons (ps_set (i := 3) sc_l_row.nd rfl (Or.inl rfl) (pe_lst pa_nil))
  (pss_cons (ps_for PassesOwn.never rfl (pi_range2 (by rfl) (m_range T) (pa_cons (pv 1) (pa_cons (pv 2) pa_nil))) (pg_name (i := 4) sc_l_row.nd rfl (Or.inl rfl))
   (pss_cons (ps_set (i := 5) sc_l_row.nd rfl (Or.inl rfl) (pe_cal c_l_cell (hr.mono (by decide)) pass0 (pa_cons (pv 0) (pa_cons (pv 4) pa_nil))))
  (pss_cons (ps_set (i := 5) sc_l_row.nd rfl (Or.inl rfl) (pe_op (opAdd (K := K)) (pe_callB callAbs (by rfl) (m_abs T) (by decide +kernel) (pa_cons (pe_op opMul pe_int (pv 5)) pa_nil)) (pe_callTy callInt (by rfl) (m_int T) (by decide +kernel) (pa_cons (pe_cmpR op_lt (pv 5) pe_int (nomark _)) pa_nil))))
  (pss_one (ps_if (pt_cmpR op_gt (pv 5) (pe_op op_pow pe_int pe_int) (nomark _)) (pss_one (ps_for PassesOwn.never rfl (pi_range1 (by rfl) (m_range T) (pa_cons pe_int pa_nil)) (pg_name (i := 6) sc_l_row.nd rfl (Or.inl rfl))
   (pss_one (ps_if (pt_cmpR op_gt (pv 5) pe_int (nomark _)) (pss_cons (ps_expr (pe_bm PySem.F.plainAttrs_list PySem.F.slot_list_append PySem.F.type_list_append mt_append (pv 3) (pa_cons (pe_op op_mod (pe_callTy callInt (by rfl) (m_int T) (by decide +kernel) (pa_cons (pv 5) pa_nil)) pe_int) pa_nil)))
  (pss_one (ps_set (i := 5) sc_l_row.nd rfl (Or.inl rfl) (pe_op op_fdiv (pv 5) pe_int)))) pss_nil)))) (pss_one (ps_for PassesOwn.never rfl (pi_range1 (by rfl) (m_range T) (pa_cons pe_int pa_nil)) (pg_name (i := 6) sc_l_row.nd rfl (Or.inl rfl))
   (pss_cons (ps_set (i := 5) sc_l_row.nd rfl (Or.inl rfl) (pe_op op_mod (pe_callTy callInt (by rfl) (m_int T) (by decide +kernel) (pa_cons (pe_op (opAdd (K := K)) (pe_op (opAdd (K := K)) (pe_op opMul (pv 5) pe_int) (pe_op opMul pe_int (pe_op (opAdd (K := K)) (pv 4) (pv 6)))) pe_int) pa_nil)) pe_int))
  (pss_one (ps_expr (pe_bm PySem.F.plainAttrs_list PySem.F.slot_list_append PySem.F.type_list_append mt_append (pv 3) (pa_cons (pe_op op_mod (pe_callTy callInt (by rfl) (m_int T) (by decide +kernel) (pa_cons (pe_op op_fdiv (pv 5) pe_int) pa_nil)) pe_int) pa_nil))))))))))))
  (pss_one (ps_ret (pv 3))))), ?_⟩
  repeat walk_at "rd1"
  refine ⟨by decide, fun p HA AA => ?_⟩
  obtain ⟨hp, rfl⟩ := AA
  repeat walk_at "rd1"
  refine ⟨x, y, rfl, ⟨by omega, by omega, by omega, by omega⟩, ?_⟩
  refine for_it (it_range (lo := x) (n := (y - x).toNat)) (fun i σ H' => ∃ (row : List Int) (v1 v2 v3 : Option V), σ = [some (.ref a), some (.int x), some (.int y), some (.ref p), v1, v2, v3] ∧ Same H H' ∧ H' p = some (.lst (row.map V.int)) ∧ row.length ≤ 60 * i)
    ⟨[], none, none, none, rfl, same_upd hp, upd_same, Nat.le_refl _⟩ (fun _ _ _ _ _ => trivial) ?_ ?_
  · rintro i v σ H' hv ⟨row, v1, v2, v3, rfl, s1, e1, l1⟩
    obtain ⟨k, hk, rfl⟩ : ∃ k : Int, 0 ≤ k ∧ v = .int k := by
      simp [rangeV] at hv
      obtain ⟨_, _, rfl⟩ := hv
      exact ⟨_, by omega, rfl⟩
    repeat walk_at "rd1"
    refine ⟨a, ns, k, rfl, Same.seq s1 hS, hk, fun n _ => ?_⟩
    repeat walk_at "rd1"
    refine v_mulI (.inl ⟨by decide, by decide⟩) ?_
    repeat walk_at "rd1"
    refine v_pow ⟨by decide, by decide, by decide⟩ ?_
    repeat walk_at "rd1"
    refine w_b (fun hc => ?_) (fun hc => ?_)
    · repeat walk_at "rd1"
      refine ⟨60, rfl, by decide, by decide, ?_⟩
      refine for_it (it_range (lo := 0) (n := 60)) (fun j σ H2 => ∃ (row2 : List Int) (c : Int) (v4 : Option V), σ = [some (.ref a), some (.int x), some (.int y), some (.ref p), some (.int k), some (.int c), v4] ∧ Same H H2 ∧ H2 p = some (.lst (row2.map V.int)) ∧ row2.length ≤ 60 * i + j)
        ⟨row, _, v3, rfl, s1, e1, l1⟩ (fun _ _ _ _ _ => trivial) ?_ ?_
      · rintro j v σ H2 hv2 ⟨row2, c, v4, rfl, s2, e2, l2⟩
        have hj : j < 60 := by simpa [rangeV] using (List.getElem?_eq_some_iff.mp hv2).1
        have hi : i < 100 := by have := (List.getElem?_eq_some_iff.mp hv).1; simp [rangeV] at this; omega
        repeat walk_at "rd1"
        refine w_b (fun hd => ?_) (fun hd => ?_)
        all_goals (repeat walk_at "rd1")
        · refine ⟨ty_lst (SqL.of e2), ?_⟩
          repeat walk_at "rd1"
          refine v_mod (by decide) ?_
          repeat walk_at "rd1"
          refine v_app e2 (line1000' (by rw [List.length_map]; omega)) ?_
          repeat walk_at "rd1"
          refine v_fdiv ⟨by decide, by decide⟩ ?_
          repeat walk_at "rd1"
          refine ⟨row2 ++ [c % 840], c / 840, _, rfl, ?_, ?_, ?_⟩
          · intro b o hb; rw [upd_ne (ne_of_none hb hp)]; exact s2 _ _ hb
          · rw [upd_same, List.map_append]; rfl
          · rw [List.length_append, List.length_singleton]; omega
        · exact ⟨row2, c, _, rfl, s2, e2, by omega⟩
      · rintro σ H2 ⟨row2, c, v4, rfl, s2, e2, l2⟩
        exact ⟨row2, _, _, _, rfl, s2, e2, by simp [rangeV] at l2; omega⟩
    · repeat walk_at "rd1"
      refine ⟨10, rfl, by decide, by decide, ?_⟩
      refine for_it (it_range (lo := 0) (n := 10)) (fun j σ H2 => ∃ (row2 : List Int) (c : Int) (v4 : Option V), σ = [some (.ref a), some (.int x), some (.int y), some (.ref p), some (.int k), some (.int c), v4] ∧ Same H H2 ∧ H2 p = some (.lst (row2.map V.int)) ∧ row2.length ≤ 60 * i + j)
        ⟨row, _, v3, rfl, s1, e1, l1⟩ (fun _ _ _ _ _ => trivial) ?_ ?_
      · rintro j v σ H2 hv2 ⟨row2, c, v4, rfl, s2, e2, l2⟩
        have hj : j < 10 := by simpa [rangeV] using (List.getElem?_eq_some_iff.mp hv2).1
        have hi : i < 100 := by have := (List.getElem?_eq_some_iff.mp hv).1; simp [rangeV] at this; omega
        obtain ⟨kt, rfl⟩ : ∃ kt : Int, v = .int kt := by
          simp [rangeV] at hv2
          obtain ⟨_, _, rfl⟩ := hv2
          exact ⟨_, rfl⟩
        repeat walk_at "rd1"
        refine v_mulI (.inr ⟨by decide, by decide⟩) ?_
        repeat walk_at "rd1"
        refine v_mulI (.inl ⟨by decide, by decide⟩) ?_
        repeat walk_at "rd1"
        refine v_mod (by decide) ?_
        repeat walk_at "rd1"
        refine ⟨ty_lst (SqL.of e2), ?_⟩
        repeat walk_at "rd1"
        refine v_fdiv ⟨by decide, by decide⟩ ?_
        repeat walk_at "rd1"
        refine v_mod (by decide) ?_
        repeat walk_at "rd1"
        refine v_app e2 (line1000' (by rw [List.length_map]; omega)) ?_
        repeat walk_at "rd1"
        refine ⟨row2 ++ [?z], _, _, rfl, ?a, ?e, ?l⟩
        case e => rw [upd_same, List.map_append]; rfl
        case a => intro b o hb; rw [upd_ne (ne_of_none hb hp)]; exact s2 _ _ hb
        case l => rw [List.length_append, List.length_singleton]; omega
      · rintro σ H2 ⟨row2, c, v4, rfl, s2, e2, l2⟩
        exact ⟨row2, _, _, _, rfl, s2, e2, by simp [rangeV] at l2; omega⟩
  · rintro σ H' ⟨row, v1, v2, v3, rfl, s1, e1, l1⟩
    repeat walk_at "rd1"
    refine q p H' row hp s1 e1 ?_
    simpa [rangeV] using l1
/-- the law's box: a row of ints that nobody changes, and the place -/
structure BoxAt (K : PySem.W.Frag) (H : Hp) (b r : Addr) (ns : List Int) (at_ : Int) : Prop where
  bx : H b = some (.lst [.ref r, .int at_])
  rw : SqL K H r (ns.map V.int)
  ne : r ≠ b
  nn : 0 ≤ at_
theorem BoxAt.same {K : PySem.W.Frag} {H H' : Hp} {b r : Addr} {ns : List Int} {at_ : Int} (h : BoxAt K H b r ns at_) (s : Same H H') : BoxAt K H' b r ns at_ := ⟨s _ _ h.bx, s.seq h.rw, h.ne, h.nn⟩
def sp_l_draw (K : PySem.W.Frag) : Sp := fun vs H Q _ => ∃ (b r : Addr) (ns : List Int) (at_ many : Int), vs = [.ref b, .int many] ∧ BoxAt K H b r ns at_ ∧ 0 < many ∧
  ∀ v : Int, 0 ≤ v → v < many → BoxAt K (upd H b (.lst [.ref r, .int (at_ + 1)])) b r ns (at_ + 1) → Q (.int v) (upd H b (.lst [.ref r, .int (at_ + 1)]))
theorem ok_l_draw {P : Program} {w : World} {K : PySem.W.Frag} {mg : Str → Option Value} {base : Heap} (T : Wd w K mg) : Cal P w K mg base "_law_draw" CX0 1 (sp_l_draw K) := by
  refine mk_cal T 15 rfl sc_l_draw (m__law_draw T) (fun _ _ _ _ _ _ us hl => match us, hl with | [_, _], _ => rfl) (fun vs H Q E h => ?_) (fun f cdv A outer s H vs Q E hr h => ?_)
  · obtain ⟨b, r, ns, at_, many, rfl, _⟩ := h; rfl
  obtain ⟨b, r, ns, at_, many, rfl, ⟨hb, hr', hne, hn⟩, hm, q⟩ := h
  refine ⟨_, (pss_cons (ps_set (i := 2) sc_l_draw.nd rfl (Or.inl rfl) (pe_ix (ixS (K := K)) (pv 0) pe_int (fun _ _ => rfl)))
  (pss_cons (ps_asg (pe_op (opAdd (K := K)) (pv 2) pe_int) (pg_sub (pv 0) pe_int set_list))
  (pss_cons (ps_if (pt_cmpR op_lt (pv 2) (pe_callB (callLen (K := K)) (by rfl) (m_len T) (by decide +kernel) (pa_cons (pe_ix (ixS (K := K)) (pv 0) pe_int (fun _ _ => rfl)) pa_nil)) (nomark _)) (pss_one (ps_ret (pe_op op_mod (pe_callTy callInt (by rfl) (m_int T) (by decide +kernel) (pa_cons (pe_ix (ixS (K := K)) (pe_ix (ixS (K := K)) (pv 0) pe_int (fun _ _ => rfl)) (pv 2) (fun _ _ => rfl)) pa_nil)) (pv 1)))) pss_nil)
  (pss_one (ps_ret (pe_op op_mod (pe_callTy callInt (by rfl) (m_int T) (by decide +kernel) (pa_cons (pe_op (opAdd (K := K)) (pe_op opMul (pv 2) pe_int) pe_int) pa_nil)) (pv 1))))))), ?_⟩
  repeat walk_at "rd1"
  refine v_ixL (SqL.of hb) rfl ?_
  repeat walk_at "rd1"
  refine v_setL hb rfl ?_
  have hb2 : upd H b (.lst [.ref r, .int (at_ + 1)]) b = some (.lst [.ref r, .int (at_ + 1)]) := upd_same
  have hr2 : SqL K (upd H b (.lst [.ref r, .int (at_ + 1)])) r (ns.map V.int) := by
    rcases hr' with (h | ⟨o, h⟩) | h
    · exact .inl (.inl (by rw [upd_ne hne]; exact h))
    · exact .inl (.inr ⟨o, by rw [upd_ne hne]; exact h⟩)
    · exact .inr h
  have hB : BoxAt K (upd H b (.lst [.ref r, .int (at_ + 1)])) b r ns (at_ + 1) := ⟨hb2, hr2, hne, by omega⟩
  show tSeq _ _ _ _ (upd H b (.lst [.ref r, .int (at_ + 1)]))
  repeat walk_at "rd1"
  refine v_ixL (SqL.of hb2) rfl ?_
  repeat walk_at "rd1"
  refine v_lenL hr2 ?_
  repeat walk_at "rd1"
  refine w_b (fun h1 => ?_) (fun h1 => ?_)
  all_goals (repeat walk_at "rd1")
  · simp at h1
    have hi : at_.toNat < ns.length := by omega
    refine v_ixL (SqL.of hb2) rfl ?_
    repeat walk_at "rd1"
    refine v_ixL hr2 (v := .int ns[at_.toNat]) ?_ ?_
    · refine at_of (j := at_.toNat) (by omega) ?_
      rw [List.getElem?_map, List.getElem?_eq_getElem hi]
      rfl
    · repeat walk_at "rd1"
      refine v_mod hm ?_
      exact q _ (Int.emod_nonneg _ (by omega)) (Int.emod_lt_of_pos _ hm) hB
  · refine v_mulI (.inr ⟨by decide, by decide⟩) ?_
    repeat walk_at "rd1"
    refine v_mod hm ?_
    exact q _ (Int.emod_nonneg _ (by omega)) (Int.emod_lt_of_pos _ hm) hB
/-- a value of the menus -/
def GoodV (v : V) : Prop := flatV v = true ∧ isValV v = true ∧ (datV v).canLay0 = true
def menu16 : List V := [.non, .bl false, .bl true, .int 0, .int 1, .int 2, .int 3, .int 7, .int 999, .str "", .str "a", .str "b", .str "ab", .str "1", .str (Txt.mul "x" 39), .str (Txt.mul "y" 40)]
theorem menu_good : ∀ v ∈ menu16, GoodV v := by
  intro v hv
  simp only [menu16, List.mem_cons, List.not_mem_nil, or_false] at hv
  rcases hv with rfl | rfl | rfl | rfl | rfl | rfl | rfl | rfl | rfl | rfl | rfl | rfl | rfl | rfl | rfl | rfl
  all_goals exact ⟨rfl, by decide +kernel, by decide +kernel⟩
def sp_l_value (K : PySem.W.Frag) : Sp := fun vs H Q _ => ∃ (b r : Addr) (ns : List Int) (at_ : Int), vs = [.ref b] ∧ BoxAt K H b r ns at_ ∧
  ∀ (v : V) (H' : Hp), GoodV v → BoxAt K H' b r ns (at_ + 1) → (∀ x o, H x = some o → x ≠ b → H' x = some o) → Q v H'
theorem ok_l_value {P : Program} {w : World} {K : PySem.W.Frag} {mg : Str → Option Value} {base : Heap} (T : Wd w K mg) : Cal P w K mg base "_law_value" CX0 2 (sp_l_value K) := by
  have c_l_draw := ok_l_draw (P := P) (w := w) (base := base) T
  refine mk_cal T 16 rfl sc_l_value (m__law_value T) (fun _ _ _ _ _ _ us hl => match us, hl with | [_], _ => rfl) (fun vs H Q E h => ?_) (fun f cdv A outer s H vs Q E hr h => ?_)
  · obtain ⟨b, r, ns, at_, rfl, _⟩ := h; rfl
  obtain ⟨b, r, ns, at_, rfl, hB, q⟩ := h
  refine ⟨_, (pss_one (ps_ret (pe_ix (ixS (K := K)) (pe_lst (pa_cons pe_non (pa_cons pe_bl (pa_cons pe_bl (pa_cons pe_int (pa_cons pe_int (pa_cons pe_int (pa_cons pe_int (pa_cons pe_int (pa_cons pe_int (pa_cons pe_str (pa_cons pe_str (pa_cons pe_str (pa_cons pe_str (pa_cons pe_str (pa_cons (pe_op opMul pe_str pe_int) (pa_cons (pe_op opMul pe_str pe_int) pa_nil))))))))))))))))) (pe_cal c_l_draw (hr.mono (by decide)) pass0 (pa_cons (pv 0) (pa_cons pe_int pa_nil))) (fun _ _ => rfl)))), ?_⟩
  repeat walk_at "rd1"
  refine v_mulS (by decide) (by decide) (by decide) ?_
  repeat walk_at "rd1"
  refine v_mulS (by decide) (by decide) (by decide) ?_
  repeat walk_at "rd1"
  refine ⟨by show 16 ≤ sizeLine; decide, fun p HA AA => ?_⟩
  obtain ⟨hp, rfl⟩ := AA
  repeat walk_at "rd1"
  have s1 : Same H (upd H p (.lst menu16)) := same_upd hp
  have hB1 := hB.same s1
  refine ⟨b, r, ns, at_, 16, rfl, hB1, by decide, fun v h0 h1 hB2 => ?_⟩
  have npb : p ≠ b := (ne_of_none hB.bx hp).symm
  obtain ⟨j, rfl⟩ : ∃ j : Nat, v = (j : Int) := ⟨v.toNat, by omega⟩
  have hj : j < menu16.length := by show j < 16; omega
  refine v_ixL (xs := menu16) (SqL.of (by rw [upd_ne npb]; exact upd_same)) (at_of rfl (List.getElem?_eq_getElem hj)) ?_
  refine q _ _ (menu_good _ (List.getElem_mem hj)) hB2 (fun x o hx hxb => ?_)
  rw [upd_ne hxb]
  exact s1 _ _ hx
/-! ### the law's own readings of values -/
def sp_l_is_bool : Sp := fun vs H Q _ => ∃ v, vs = [v] ∧ (flatV v = true ∨ ∃ a, v = .ref a) ∧ Q (.bl (isBlV v)) H
theorem ok_l_is_bool {P : Program} {w : World} {K : PySem.W.Frag} {mg : Str → Option Value} {base : Heap} (T : Wd w K mg) : Cal P w K mg base "_law_is_bool" CX0 1 sp_l_is_bool := by
  refine mk_cal T 17 rfl sc_l_is_bool (m__law_is_bool T) (fun _ _ _ _ _ _ us hl => match us, hl with | [_], _ => rfl) (fun vs H Q E h => ?_) (fun f cdv A outer s H vs Q E hr h => ?_)
  · obtain ⟨v, rfl, _⟩ := h; rfl
  obtain ⟨v, rfl, hf, q⟩ := h
  refine ⟨_, (pss_one (ps_ret (pe_or (pe_cmpR op_isB (pv 0) pe_bl (nomark _)) (pe_one (pe_cmpR op_isB (pv 0) pe_bl (nomark _)))))), ?_⟩
  rcases hf with hf | ⟨a, rfl⟩
  case inr =>
    repeat walk_at "rd1"
    refine v_isBr ?_
    repeat walk_at "rd1"
    exact v_isBr q
  repeat walk_at "rd1"
  refine v_isB hf ?_
  cases v
  all_goals (first | (cases hf; done) | skip)
  all_goals (repeat walk_at "rd1")
  · exact v_isB rfl q
  · rename_i b
    cases b
    all_goals (repeat walk_at "rd1")
    · exact v_isB rfl q
    · exact q
  · exact v_isB rfl q
  · exact v_isB rfl q

/-! ### programs: what is asked of data -/
def strB : PyData → Bool
  | .str z => decide (z.length ≤ 1000)
  | .list xs => strBs xs
  | .tuple xs => strBs xs
  | _ => true
where strBs : List PyData → Bool
  | [] => true
  | x :: xs => strB x && strBs xs
theorem strBs_get : ∀ {xs : List PyData} {i : Nat} {x : PyData}, strB.strBs xs = true → xs[i]? = some x → strB x = true
  | [], _, _, _, h => by simp at h
  | a :: xs, 0, x, h, e => by
    simp only [strB.strBs, Bool.and_eq_true] at h
    simp at e; subst e; exact h.1
  | a :: xs, i + 1, x, h, e => by
    simp only [strB.strBs, Bool.and_eq_true] at h
    exact strBs_get (i := i) h.2 (by simpa using e)
def keyD : PyData → Bool
  | .str z => isKeyV (.str z)
  | _ => false
def valD : PyData → Bool
  | .none => true
  | .bool _ => true
  | .int i => isValV (.int i)
  | .str z => isValV (.str z)
  | _ => false
theorem kn_dp {K : PySem.W.Frag} {H : Hp} {v : V} {d : PyData} (h : Dp K H v d) (sb : strB d = true) : Kn K H v (kdD d) ∧ isKeyV v = keyD d ∧ isValV v = valD d := by
  cases h with
  | non => exact ⟨.non, rfl, rfl⟩
  | bl b => exact ⟨.bl b, rfl, rfl⟩
  | int i => exact ⟨.int i, rfl, rfl⟩
  | str x => exact ⟨.str x (by simpa [strB] using sb), rfl, rfl⟩
  | lst a b => exact ⟨.lst _ (kd_seqL a), rfl, rfl⟩
  | tup a b => exact ⟨.tup _ (kd_seqT a), rfl, rfl⟩
def exprRows : List (Str × List Str) := [("value", ["value"]), ("var", ["name"]), ("read", ["name"]), ("peek", ["name"]), ("state", ["name"]), ("get", ["name", "expression"]), ("has", ["name", "expression"]), ("size", ["name"]), ("use", ["name"]), ("add", ["expression", "expression"]), ("join", ["expression", "expression"]), ("equal", ["expression", "expression"]), ("less", ["expression", "expression"]), ("not", ["expression"])]
def stmtRows : List (Str × List Str) := [("let", ["name", "expression"]), ("if", ["expression", "block", "block"]), ("each", ["name", "name", "block"]), ("try", ["block", "name", "block"]), ("raise", ["expression"]), ("return", ["expression"]), ("emit", ["expression"]), ("write", ["name", "expression"]), ("put", ["name", "expression", "expression"]), ("remove", ["name", "expression"]), ("reset", ["name"]), ("dispose", ["name"]), ("cleanup", ["expression"]), ("signal", ["name", "expression"]), ("store", ["name", "pairs"]), ("scope", ["name"]), ("boundary", ["name"]), ("computed", ["name", "block"]), ("effect", ["name", "block"]), ("resource", ["name", "block"]), ("keyed", ["name", "name", "name", "block"]), ("atomic", ["block", "name", "block"])]
/-- the kinds of the parts of a thing by these rows -/
def kindsD (rows : List (Str × List Str)) : PyData → Option (List Str)
  | .tuple (.str w :: ps) => match rows.lookup w with
    | some ks => if ks.length = ps.length then some ks else none
    | none => none
  | _ => none
def partsD : PyData → List PyData
  | .tuple (_ :: ps) => ps
  | _ => []
/-- one part of an expression -/
def exprP (g : PyData → Bool) (k : Str) (p : PyData) : Bool :=
  if k = "name" then keyD p else if k = "value" then valD p else if k = "expression" then g p else true
def allP (f : Str → PyData → Bool) : List Str → List PyData → Bool
  | k :: ks, p :: ps => f k p && allP f ks ps
  | _, _ => true
/-- an expression, n levels left -/
def gE : Nat → PyData → Bool
  | 0, _ => false
  | n + 1, d => match kindsD exprRows d with
    | some ks => allP (exprP (gE n)) ks (partsD d)
    | none => false
theorem allP_get {f : Str → PyData → Bool} : ∀ {ks : List Str} {ps : List PyData}, allP f ks ps = true → ∀ {i : Nat} {k : Str} {p : PyData}, ks[i]? = some k → ps[i]? = some p → f k p = true
  | [], _, _, _, _, _, h, _ => by simp at h
  | _ :: _, [], _, _, _, _, _, h => by simp at h
  | k :: ks, p :: ps, h, 0, _, _, h1, h2 => by
    simp only [allP, Bool.and_eq_true] at h
    simp at h1 h2; subst h1 h2; exact h.1
  | k :: ks, p :: ps, h, i + 1, _, _, h1, h2 => by
    simp only [allP, Bool.and_eq_true] at h
    exact allP_get h.2 (i := i) (by simpa using h1) (by simpa using h2)
theorem allP_of {f : Str → PyData → Bool} : ∀ {ks : List Str} {ps : List PyData}, (∀ (i : Nat) (k : Str) (p : PyData), ks[i]? = some k → ps[i]? = some p → f k p = true) → allP f ks ps = true
  | [], _, _ => rfl
  | _ :: _, [], _ => rfl
  | k :: ks, p :: ps, h => by
    simp only [allP, Bool.and_eq_true]
    exact ⟨h 0 k p rfl rfl, allP_of fun i k p h1 h2 => h (i + 1) k p (by simpa using h1) (by simpa using h2)⟩
theorem allP_false {f : Str → PyData → Bool} {ks : List Str} {ps : List PyData} {i : Nat} {k : Str} {p : PyData} (h1 : ks[i]? = some k) (h2 : ps[i]? = some p) (h : f k p = false) : allP f ks ps = false := by
  cases q : allP f ks ps with
  | false => rfl
  | true => rw [allP_get q h1 h2] at h; cases h
/-- a pair: a name and an expression -/
def pairD : PyData → Bool
  | .tuple [a, e] => keyD a && gE 5 e
  | _ => false
def firstD : PyData → Str
  | .tuple (.str z :: _) => z
  | _ => ""
def pairsD : PyData → Bool
  | .list ps => decide (ps.length ≤ 8) && (ps.all pairD && (ps.map firstD).all fun z => (ps.map firstD).count z == 1)
  | _ => false
def addO : Option Nat → Option Nat → Option Nat
  | some a, some b => some (a + b)
  | _, _ => none
def sumO : List (Option Nat) → Option Nat
  | [] => some 0
  | x :: xs => addO x (sumO xs)
theorem sumO_snoc : ∀ (l : List (Option Nat)) (x : Option Nat), sumO (l ++ [x]) = addO (sumO l) x
  | [], x => by cases x <;> simp [sumO, addO]
  | y :: l, x => by
    rw [List.cons_append, sumO, sumO, sumO_snoc l x]
    cases y <;> cases sumO l <;> cases x <;> simp [addO]; omega
theorem sumO_none {l : List (Option Nat)} {i : Nat} (h : l[i]? = some none) : sumO l = none := by
  induction l generalizing i with
  | nil => simp at h
  | cons y l ih =>
    cases i with
    | zero => simp at h; subst h; simp [sumO, addO]
    | succ i =>
      rw [sumO, ih (i := i) (by simpa using h)]
      cases y <;> rfl
theorem sumO_take {l : List (Option Nat)} {i : Nat} {x : Option Nat} (h : l[i]? = some x) : sumO (l.take (i + 1)) = addO (sumO (l.take i)) x := by
  rw [List.take_add_one, h, Option.toList_some, sumO_snoc]
def okO (b : Bool) : Option Nat := if b then some 0 else none
/-- the size of a part -/
def sizP (g : PyData → Option Nat) (k : Str) (p : PyData) : Option Nat :=
  if k = "block" then g p else if k = "name" then okO (keyD p) else if k = "pairs" then okO (pairsD p) else okO (gE 5 p)
def sizB (f : PyData → Option Nat) : PyData → Option Nat
  | .list ds => sumO (ds.map f)
  | _ => none
/-- the size of a statement, n levels left -/
def sizS : Nat → PyData → Option Nat
  | 0, _ => none
  | n + 1, d => match kindsD stmtRows d with
    | some ks => addO (some 1) (sumO (List.zipWith (sizP (sizB (sizS n))) ks (partsD d)))
    | none => none
def progD (d : PyData) : Bool := match sizB (sizS 5) d with
  | some n => decide (n ≤ 200)
  | none => false
theorem kindsD_len {rows : List (Str × List Str)} {d : PyData} {ks : List Str} (h : kindsD rows d = some ks) : ∃ w ps, d = .tuple (.str w :: ps) ∧ rows.lookup w = some ks ∧ ks.length = ps.length ∧ partsD d = ps := by
  unfold kindsD at h
  split at h
  · rename_i w ps
    split at h
    · rename_i ks' e
      split at h
      · rename_i e2
        cases h
        exact ⟨w, ps, rfl, e, e2, rfl⟩
      · cases h
    · cases h
  · cases h
def wordD : PyData → Bool
  | .tuple (.str _ :: _) => true
  | _ => false
theorem kindsD_word {rows : List (Str × List Str)} {d : PyData} (h : wordD d = false) : kindsD rows d = none := by
  unfold kindsD
  split
  · cases h
  · rfl
theorem wordD_is {d : PyData} (h : wordD d = true) : ∃ w ps, d = .tuple (.str w :: ps) := by
  unfold wordD at h
  split at h
  · exact ⟨_, _, rfl⟩
  · cases h
/-- what stands at a thing with a word -/
theorem dp_word {K : PySem.W.Frag} {H : Hp} {v : V} {w : Str} {ps : List PyData} (h : Dp K H v (.tuple (.str w :: ps))) : ∃ a xs, v = .ref a ∧ SqT K H a (.str w :: xs) ∧ DpAll K H xs ps := by
  cases h with
  | tup hs hx =>
    cases hx with
    | cons h1 h2 =>
      cases h1
      exact ⟨_, _, rfl, hs, h2⟩
theorem kindsD_some {rows : List (Str × List Str)} {w : Str} {ps : List PyData} {ks : List Str} (h : rows.lookup w = some ks) : kindsD rows (.tuple (.str w :: ps)) = if ks.length = ps.length then some ks else none := by
  simp only [kindsD, h]
theorem kindsD_none {rows : List (Str × List Str)} {w : Str} {ps : List PyData} (h : rows.lookup w = none) : kindsD rows (.tuple (.str w :: ps)) = none := by
  simp only [kindsD, h]
/-- the kinds, as told -/
def KindsV (K : PySem.W.Frag) (r : V) : Option (List Str) → Prop
  | none => r = .non
  | some ks => ∃ t, r = .ref t ∧ ∀ H, SqT K H t (ks.map V.str)
theorem gE_none {n : Nat} {d : PyData} (h : kindsD exprRows d = none) : gE n d = false := by
  cases n with
  | zero => rfl
  | succ n => simp only [gE, h]
theorem gE_some {n : Nat} {d : PyData} {ks : List Str} (h : kindsD exprRows d = some ks) : gE (n + 1) d = allP (exprP (gE n)) ks (partsD d) := by
  simp only [gE, h]
theorem strB_parts {w : Str} {ps : List PyData} (h : strB (.tuple (.str w :: ps)) = true) : strB.strBs ps = true := by
  simp only [strB, strB.strBs, Bool.and_eq_true] at h
  exact h.2
def optV : Option Nat → V
  | some n => .int n
  | none => .non
theorem sizS_none {n : Nat} {d : PyData} (h : kindsD stmtRows d = none) : sizS n d = none := by
  cases n with
  | zero => rfl
  | succ n => simp only [sizS, h]
theorem sizS_some {n : Nat} {d : PyData} {ks : List Str} (h : kindsD stmtRows d = some ks) : sizS (n + 1) d = addO (some 1) (sumO (List.zipWith (sizP (sizB (sizS n))) ks (partsD d))) := by
  simp only [sizS, h]
theorem firstD_key {d : PyData} (h : pairD d = true) : ∃ z e, d = .tuple [.str z, e] ∧ firstD d = z := by
  unfold pairD at h
  split at h
  · rename_i a e
    simp only [Bool.and_eq_true] at h
    cases a with
    | str z => exact ⟨z, e, rfl, rfl⟩
    | _ => cases h.1
  · cases h
theorem inV_strs (w : Str) : ∀ ks : List Str, inV (.str w) (ks.map .str) = decide (w ∈ ks)
  | [] => rfl
  | k :: ks => by
    have ih := inV_strs w ks
    unfold inV at ih ⊢
    rw [List.map_cons, List.any_cons, ih]
    have e : eqV (.str k) (.str w) = decide (k = w) := by
      show (k == w) = decide (k = w)
      by_cases h : k = w
      · subst h; simp
      · simp [h]
    rw [e]
    by_cases h : w = k
    · subst h; simp
    · have h2 : ¬ k = w := fun e => h e.symm
      simp [h, h2]
theorem v_inS {K : PySem.W.Frag} {H : Hp} {Q : VK} {p : Addr} {w : Str} {ks : List Str} (h : SqT K H p (ks.map .str)) (q : Q (.bl (decide (w ∈ ks))) H) : rInX K (.str w) (.ref p) H Q := by
  refine .inr ⟨p, ks.map .str, rfl, .inr h, rfl, ?_, ?_⟩
  · simp [flatV]
  · rw [if_neg Bool.false_ne_true, inV_strs]; exact q
theorem gE1 {m : Nat} {w k : Str} {ps : List PyData} (h : exprRows.lookup w = some [k]) : gE (m + 1) (.tuple (.str w :: ps)) = match ps with | [p] => exprP (gE m) k p | _ => false := by
  by_cases hl : [k].length = ps.length
  · rw [gE_some (by rw [kindsD_some h, if_pos hl])]
    match ps, hl with
    | [p], _ => simp [partsD, allP]
  · rw [gE_none (by rw [kindsD_some h, if_neg hl])]
    match ps, hl with
    | [], _ => rfl
    | [p], hl => exact absurd rfl hl
    | _ :: _ :: _, _ => rfl
theorem gE2 {m : Nat} {w k1 k2 : Str} {ps : List PyData} (h : exprRows.lookup w = some [k1, k2]) : gE (m + 1) (.tuple (.str w :: ps)) = match ps with | [p1, p2] => exprP (gE m) k1 p1 && exprP (gE m) k2 p2 | _ => false := by
  by_cases hl : [k1, k2].length = ps.length
  · rw [gE_some (by rw [kindsD_some h, if_pos hl])]
    match ps, hl with
    | [p1, p2], _ => simp [partsD, allP]
  · rw [gE_none (by rw [kindsD_some h, if_neg hl])]
    match ps, hl with
    | [], _ => rfl
    | [_], _ => rfl
    | [p1, p2], hl => exact absurd rfl hl
    | _ :: _ :: _ :: _, _ => rfl
theorem gE_word {m : Nat} {d : PyData} (h : wordD d = false) : gE m d = false := gE_none (kindsD_word h)
theorem look_name {w : Str} (h : w ∈ (["var", "read", "peek", "state", "size", "use"] : List Str)) : exprRows.lookup w = some (["name"] : List Str) := by
  simp only [List.mem_cons, List.not_mem_nil, or_false] at h
  rcases h with rfl | rfl | rfl | rfl | rfl | rfl <;> decide +kernel
theorem look_get {w : Str} (h : w ∈ (["get", "has"] : List Str)) : exprRows.lookup w = some (["name", "expression"] : List Str) := by
  simp only [List.mem_cons, List.not_mem_nil, or_false] at h
  rcases h with rfl | rfl <;> decide +kernel
theorem look_two {w : Str} (h : w ∈ (["add", "join", "equal", "less"] : List Str)) : exprRows.lookup w = some (["expression", "expression"] : List Str) := by
  simp only [List.mem_cons, List.not_mem_nil, or_false] at h
  rcases h with rfl | rfl | rfl | rfl <;> decide +kernel
theorem look_out {w : Str} (h0 : w ≠ "value") (h1 : w ∉ (["var", "read", "peek", "state", "size", "use"] : List Str)) (h2 : w ∉ (["get", "has"] : List Str)) (h3 : w ∉ (["add", "join", "equal", "less"] : List Str)) (h4 : w ≠ "not") : exprRows.lookup w = none := by
  simp only [List.mem_cons, List.not_mem_nil, or_false, not_or] at h1 h2 h3
  have bf : ∀ {a b : Str}, a ≠ b → (a == b) = false := fun h => by simpa using h
  obtain ⟨a1, a2, a3, a4, a5, a6⟩ := h1
  obtain ⟨b1, b2⟩ := h2
  obtain ⟨c1, c2, c3, c4⟩ := h3
  simp [exprRows, List.lookup_cons, bf h0, bf h4, bf a1, bf a2, bf a3, bf a4, bf a5, bf a6, bf b1, bf b2, bf c1, bf c2, bf c3, bf c4]
theorem one_part {K : PySem.W.Frag} {H : Hp} {y : V} {xs : List V} {ps : List PyData} (hx : DpAll K H xs ps) (h : decide (V.int ((y :: xs).length : Nat) = V.int 2) = true) : ∃ x p, xs = [x] ∧ ps = [p] ∧ Dp K H x p := by
  have hl := dpAll_len hx
  have h1 : xs.length = 1 := by simp at h; omega
  cases hx with
  | nil => simp at h1
  | cons a b =>
    cases b with
    | nil => exact ⟨_, _, rfl, rfl, a⟩
    | cons c d => simp at h1
theorem two_parts {K : PySem.W.Frag} {H : Hp} {y : V} {xs : List V} {ps : List PyData} (hx : DpAll K H xs ps) (h : decide (V.int ((y :: xs).length : Nat) = V.int 3) = true) : ∃ x p x2 p2, xs = [x, x2] ∧ ps = [p, p2] ∧ Dp K H x p ∧ Dp K H x2 p2 := by
  have hl := dpAll_len hx
  have h1 : xs.length = 2 := by simp at h; omega
  cases hx with
  | nil => simp at h1
  | cons a b =>
    cases b with
    | nil => simp at h1
    | cons c d =>
      cases d with
      | nil => exact ⟨_, _, _, _, rfl, rfl, a, c⟩
      | cons e f => simp at h1
theorem gE1_not {K : PySem.W.Frag} {H : Hp} {y : V} {xs : List V} {m : Nat} {w k : Str} {ps : List PyData} (e : exprRows.lookup w = some [k]) (hx : DpAll K H xs ps) (h : decide (V.int ((y :: xs).length : Nat) = V.int 2) = false) : gE (m + 1) (.tuple (.str w :: ps)) = false := by
  have hl := dpAll_len hx
  have h1 : xs.length ≠ 1 := by simp at h; omega
  rw [gE1 e]
  split
  · simp at hl; omega
  · rfl
theorem gE2_not {K : PySem.W.Frag} {H : Hp} {y : V} {xs : List V} {m : Nat} {w k k2 : Str} {ps : List PyData} (e : exprRows.lookup w = some [k, k2]) (hx : DpAll K H xs ps) (h : decide (V.int ((y :: xs).length : Nat) = V.int 3) = false) : gE (m + 1) (.tuple (.str w :: ps)) = false := by
  have hl := dpAll_len hx
  have h1 : xs.length ≠ 2 := by simp at h; omega
  rw [gE2 e]
  split
  · simp at hl; omega
  · rfl
/-! ### the law's own count -/
def formRows : List (Str × Str) := [("let", "ne"), ("if", "ebb"), ("each", "nnb"), ("try", "bnb"), ("raise", "e"), ("return", "e"), ("emit", "e"), ("write", "ne"), ("put", "nee"), ("remove", "ne"), ("reset", "n"), ("dispose", "n"), ("cleanup", "e"), ("signal", "ne"), ("store", "np"), ("scope", "n"), ("boundary", "n"), ("computed", "nb"), ("effect", "nb"), ("resource", "nb"), ("keyed", "nnnb"), ("atomic", "bnb")]
def kindOf (c : Nat) : Str := if c = 110 then "name" else if c = 101 then "expression" else if c = 112 then "pairs" else "block"
def kindsOf (f : Str) : List Str := f.cps.toList.map kindOf
theorem forms_stmts : stmtRows = formRows.map fun r => (r.1, kindsOf r.2) := by decide +kernel
theorem lookup_map2 {f : Str → List Str} (w : Str) : ∀ rows : List (Str × Str), (rows.map fun r => (r.1, f r.2)).lookup w = (rows.lookup w).map f
  | [] => rfl
  | r :: rows => by
    rw [List.map_cons, List.lookup_cons, List.lookup_cons, lookup_map2 w rows]
    cases w == r.1 <;> rfl
theorem look_forms (w : Str) : stmtRows.lookup w = (formRows.lookup w).map kindsOf := by rw [forms_stmts]; exact lookup_map2 w formRows
theorem lookup_memS {w f : Str} : ∀ {rows : List (Str × Str)}, rows.lookup w = some f → (w, f) ∈ rows
  | [], h => by cases h
  | r :: rows, h => by
    rw [List.lookup_cons] at h
    split at h
    · rename_i hb
      have e : w = r.1 := by simpa using hb
      cases h; subst e; exact List.mem_cons_self
    · exact List.mem_cons_of_mem _ (lookup_memS h)
theorem form_letters {w f : Str} (h : formRows.lookup w = some f) : f.length ≤ 4 ∧ ∀ c ∈ f.cps.toList, c = 110 ∨ c = 101 ∨ c = 112 ∨ c = 98 := by
  have hm := lookup_memS h
  have key : ∀ r ∈ formRows, r.2.length ≤ 4 ∧ ∀ c ∈ r.2.cps.toList, c = 110 ∨ c = 101 ∨ c = 112 ∨ c = 98 := by decide +kernel
  exact key _ hm
/-- what the law's own count tells of a size -/
def CntR : Option Nat → Int → Prop
  | some k, c => c = k
  | none, c => 1000 ≤ c
theorem CntR.nn {x : Option Nat} {c : Int} (h : CntR x c) : 0 ≤ c := by
  cases x with
  | none => have : (1000 : Int) ≤ c := h; omega
  | some k => have : c = k := h; omega
theorem CntR.add {x y : Option Nat} {a b : Int} (h : CntR x a) (g : CntR y b) : CntR (addO x y) (a + b) := by
  have h0 := h.nn
  have g0 := g.nn
  cases x with
  | none =>
    have h1 : (1000 : Int) ≤ a := h
    show (1000 : Int) ≤ a + b
    omega
  | some k =>
    have h1 : a = k := h
    cases y with
    | none =>
      have g1 : (1000 : Int) ≤ b := g
      show (1000 : Int) ≤ a + b
      omega
    | some j =>
      have g1 : b = j := g
      show a + b = ((k + j : Nat) : Int)
      omega
theorem nodup_counts : ∀ {ns : List Str}, ns.Nodup → (ns.all fun z => ns.count z == 1) = true := by
  intro ns h
  rw [List.all_eq_true]
  intro z hz
  have := List.Nodup.count (a := z) h
  simp [this, hz]
theorem dup_counts {a b : List Str} {z : Str} (h1 : z ∈ a) : ((a ++ z :: b).all fun y => (a ++ z :: b).count y == 1) = false := by
  rw [List.all_eq_false]
  refine ⟨z, by simp, ?_⟩
  have : 0 < a.count z := List.count_pos_iff.mpr h1
  simp
  omega
theorem v_inL {K : PySem.W.Frag} {H : Hp} {Q : VK} {p : Addr} {w : Str} {ks : List Str} (h : SqL K H p (ks.map .str)) (q : Q (.bl (decide (w ∈ ks))) H) : rInX K (.str w) (.ref p) H Q := by
  refine .inr ⟨p, ks.map .str, rfl, .inl h, rfl, ?_, ?_⟩
  · simp [flatV]
  · rw [if_neg Bool.false_ne_true, inV_strs]; exact q
theorem pairD_len {ds : List PyData} (h : ds.length ≠ 2) : pairD (.tuple ds) = false := by
  unfold pairD
  split
  · rename_i e
    cases e
    exact absurd rfl h
  · rfl


/-! ### the law's own readings of programs -/
def sp_l_is_key (K : PySem.W.Frag) : Sp := fun vs H Q _ => ∃ v k, vs = [v] ∧ Kn K H v k ∧ ∀ H', Same H H' → Q (.bl (isKeyV v)) H'
theorem ok_l_is_key {P : Program} {w : World} {K : PySem.W.Frag} {mg : Str → Option Value} {base : Heap} (T : Wd w K mg) : Cal P w K mg base "_law_is_key" CX0 1 (sp_l_is_key K) := by
  refine mk_cal T 18 rfl sc_l_is_key (m__law_is_key T) (fun _ _ _ _ _ _ us hl => match us, hl with | [_], _ => rfl) (fun vs H Q E h => ?_) (fun f cdv A outer s H vs Q E hr h => ?_)
  · obtain ⟨v, k, rfl, _⟩ := h; rfl
  obtain ⟨v, k, rfl, hk, q⟩ := h
  refine ⟨_, (pss_cons (ps_if (pw_or (pt_not (pt_val (pe_callB (call_isiK (K := K) .str) (by rfl) (m_isinstance T) (by decide +kernel) (pa_cons (pv 0) (pa_cons (pe_tyB (n := Kd.nm .str) (by rfl) (m_str T) (by decide +kernel)) pa_nil))))) (pw_or (pt_cmpR op_lt (pe_callB (callLen (K := K)) (by rfl) (m_len T) (by decide +kernel) (pa_cons (pv 0) pa_nil)) pe_int (nomark _)) (pw_or1 (pt_cmpR op_gt (pe_callB (callLen (K := K)) (by rfl) (m_len T) (by decide +kernel) (pa_cons (pv 0) pa_nil)) pe_int (nomark _))))).pt (pss_one (ps_ret pe_bl)) pss_nil)
  (pss_cons (ps_for PassesOwn.never rfl (pi_str (pv 0)) (pg_name (i := 1) sc_l_is_key.nd rfl (Or.inl rfl))
   (pss_one (ps_if (pt_cmpR (opNotIn (K := K)) (pv 1) pe_str (by with_unfolding_all rfl)) (pss_one (ps_ret pe_bl)) pss_nil)))
  (pss_one (ps_ret pe_bl)))), ?_⟩
  cases hk
  all_goals (repeat walk_at "rd1")
  all_goals first | exact q H (Same.refl H) | skip
  rename_i z hz
  refine v_lenS (line1000 (by omega)) ?_
  repeat walk_at "rd1"
  refine w_b (fun h1 => ?_) (fun h1 => ?_)
  all_goals (repeat walk_at "rd1")
  · exact qb (q _ (Same.refl _)) (by simp [isKeyV] at h1 ⊢; omega)
  refine v_lenS (line1000 (by omega)) ?_
  repeat walk_at "rd1"
  refine w_b (fun h2 => ?_) (fun h2 => ?_)
  all_goals (repeat walk_at "rd1")
  · exact qb (q _ (Same.refl _)) (by simp [isKeyV] at h1 h2 ⊢; omega)
  refine for_it (it_str (z := z)) (fun i σ H' => (∃ v1, σ = [some (.str z), v1]) ∧ Same H H' ∧ (z.cps.toList.take i).all (fun c => decide (c ∈ LETTERS.cps.toList)) = true) ⟨⟨_, rfl⟩, Same.refl _, rfl⟩ (fun _ _ _ _ _ => trivial) ?_ ?_
  · rintro i x σ H' hx ⟨⟨v1, rfl⟩, s1, ha⟩
    simp [signsV] at hx
    obtain ⟨c, hc, rfl⟩ := hx
    repeat walk_at "rd1"
    refine .inl ⟨c, _, rfl, rfl, ?_⟩
    repeat walk_at "rd1"
    have hc' : z.cps.toList[i]? = some c := by simpa using hc
    refine w_b (fun h3 => ?_) (fun h3 => ?_)
    all_goals (repeat walk_at "rd1")
    · refine qb (q _ s1) ?_
      obtain ⟨hi, he⟩ := Array.getElem?_eq_some_iff.mp hc
      simp [isKeyV] at h3 ⊢
      intro _ _
      exact ⟨i, hi, by rw [he]; exact h3⟩
    · refine ⟨⟨_, rfl⟩, s1, ?_⟩
      rw [List.take_add_one, hc', List.all_append, ha]
      simp at h3 ⊢
      exact h3
  · rintro σ H' ⟨⟨v1, rfl⟩, s1, ha⟩
    repeat walk_at "rd1"
    refine qb (q _ s1) ?_
    have e : (signsV z).length = z.cps.toList.length := by simp [signsV]
    rw [e, List.take_length] at ha
    simp [isKeyV] at h1 h2 ha ⊢
    exact ⟨by omega, ha⟩
def sp_l_good_name (K : PySem.W.Frag) : Sp := fun vs H Q _ => ∃ v d, vs = [v] ∧ Dp K H v d ∧ strB d = true ∧ ∀ H', Same H H' → Q (.bl (keyD d)) H'
theorem ok_l_good_name {P : Program} {w : World} {K : PySem.W.Frag} {mg : Str → Option Value} {base : Heap} (T : Wd w K mg) : Cal P w K mg base "_law_good_name" CX0 2 (sp_l_good_name K) := by
  have c_l_is_key := ok_l_is_key (P := P) (w := w) (base := base) T
  refine mk_cal T 19 rfl sc_l_good_name (m__law_good_name T) (fun _ _ _ _ _ _ us hl => match us, hl with | [_], _ => rfl) (fun vs H Q E h => ?_) (fun f cdv A outer s H vs Q E hr h => ?_)
  · obtain ⟨v, d, rfl, _⟩ := h; rfl
  obtain ⟨v, d, rfl, hd, sb, q⟩ := h
  obtain ⟨kn, ek, _⟩ := kn_dp hd sb
  refine ⟨_, (pss_one (ps_ret (pe_cal c_l_is_key (hr.mono (by decide)) pass0 (pa_cons (pv 0) pa_nil)))), ?_⟩
  repeat walk_at "rd1"
  refine ⟨v, _, rfl, kn, fun H1 s1 => ?_⟩
  exact qb (q _ s1) ek.symm
def sp_l_good_value (K : PySem.W.Frag) : Sp := fun vs H Q _ => ∃ v d, vs = [v] ∧ Dp K H v d ∧ strB d = true ∧ Q (.bl (valD d)) H
theorem ok_l_good_value {P : Program} {w : World} {K : PySem.W.Frag} {mg : Str → Option Value} {base : Heap} (T : Wd w K mg) : Cal P w K mg base "_law_good_value" CX0 2 (sp_l_good_value K) := by
  have c_l_is_bool := ok_l_is_bool (P := P) (w := w) (base := base) T
  refine mk_cal T 20 rfl sc_l_good_value (m__law_good_value T) (fun _ _ _ _ _ _ us hl => match us, hl with | [_], _ => rfl) (fun vs H Q E h => ?_) (fun f cdv A outer s H vs Q E hr h => ?_)
  · obtain ⟨v, d, rfl, _⟩ := h; rfl
  obtain ⟨v, d, rfl, hd, sb, q⟩ := h
  have hk := kd_dp hd
  refine ⟨_, (pss_cons (ps_if (pw_or (pt_cmpR opIsN (pv 0) pe_non (nomark _)) (pw_or1 (pt_val (pe_cal c_l_is_bool (hr.mono (by decide)) pass0 (pa_cons (pv 0) pa_nil))))).pt (pss_one (ps_ret pe_bl)) pss_nil)
  (pss_cons (ps_if (pt_val (pe_callB (call_isiK (K := K) .int) (by rfl) (m_isinstance T) (by decide +kernel) (pa_cons (pv 0) (pa_cons (pe_tyB (n := Kd.nm .int) (by rfl) (m_int T) (by decide +kernel)) pa_nil)))) (pss_one (ps_ret (pe_chain op_le op_le pe_int (pv 0) pe_int))) pss_nil)
  (pss_one (ps_ret (pe_and (pe_callB (call_isiK (K := K) .str) (by rfl) (m_isinstance T) (by decide +kernel) (pa_cons (pv 0) (pa_cons (pe_tyB (n := Kd.nm .str) (by rfl) (m_str T) (by decide +kernel)) pa_nil))) (pe_one (pe_cmpR op_le (pe_callB (callLen (K := K)) (by rfl) (m_len T) (by decide +kernel) (pa_cons (pv 0) pa_nil)) pe_int (nomark _)))))))), ?_⟩
  cases hd with
  | non =>
    repeat walk_at "rd1"
    exact q
  | bl b =>
    repeat walk_at "rd1"
    refine ⟨_, rfl, .inl rfl, ?_⟩
    repeat walk_at "rd1"
    exact q
  | int i =>
    repeat walk_at "rd1"
    refine ⟨_, rfl, .inl rfl, ?_⟩
    repeat walk_at "rd1"
    refine w_b (fun h1 => ?_) (fun h1 => ?_)
    all_goals (repeat walk_at "rd1")
    · refine qb q ?_
      have h2 : 0 ≤ i := by simpa using h1
      show (decide (0 ≤ i) && decide (i < 1000)) = decide (i ≤ 999)
      rw [decide_eq_true h2, Bool.true_and]
      exact decide_eq_decide.mpr (by omega)
    · refine qb q ?_
      have h2 : ¬ 0 ≤ i := by simpa using h1
      show (decide (0 ≤ i) && decide (i < 1000)) = false
      rw [decide_eq_false h2, Bool.false_and]
  | str z =>
    repeat walk_at "rd1"
    refine ⟨_, rfl, .inl rfl, ?_⟩
    repeat walk_at "rd1"
    refine v_lenS (line1000 (by simp [strB] at sb; omega)) ?_
    repeat walk_at "rd1"
    exact qb q (by simp [valD, isValV]; omega)
  | lst hs hx =>
    repeat walk_at "rd1"
    refine ⟨_, rfl, .inr ⟨_, rfl⟩, ?_⟩
    repeat walk_at "rd1"
    exact q
  | tup hs hx =>
    repeat walk_at "rd1"
    refine ⟨_, rfl, .inr ⟨_, rfl⟩, ?_⟩
    repeat walk_at "rd1"
    exact q
def sp_l_good_expr (K : PySem.W.Frag) (n : Nat) : Sp := fun vs H Q _ => ∃ (v : V) (d : PyData) (m : Nat) (dep : Int), vs = [v, .int dep] ∧ Dp K H v d ∧ strB d = true ∧ m < n ∧ dep = 6 - (m : Int) ∧ ∀ H', Same H H' → Q (.bl (gE m d)) H'
theorem l_good_expr_next {P : Program} {w : World} {K : PySem.W.Frag} {mg : Str → Option Value} {base : Heap} (T : Wd w K mg) (n : Nat) (c_l_good_expr : Cal P w K mg base "_law_good_expr" CX0 (n + 3) (sp_l_good_expr K n)) : Cal P w K mg base "_law_good_expr" CX0 (n + 1 + 3) (sp_l_good_expr K (n + 1)) := by
  have c_l_good_name := ok_l_good_name (P := P) (w := w) (base := base) T
  have c_l_good_value := ok_l_good_value (P := P) (w := w) (base := base) T
  refine mk_cal T 21 rfl sc_l_good_expr (m__law_good_expr T) (fun _ _ _ _ _ _ us hl => match us, hl with | [_, _], _ => rfl) (fun vs H Q E h => ?_) (fun f cdv A outer s H vs Q E hr h => ?_)
  · obtain ⟨v, d, m, dep, rfl, _⟩ := h; rfl
  obtain ⟨v, d, m, dep, rfl, hd, sb, hm, ed, q⟩ := h
  have hr0 := hr
  replace hr := hr.mono (show 3 ≤ n + 3 by omega)
  have hk := kd_dp hd
  refine ⟨_, (pss_cons (ps_if (pw_or (pt_not (pt_val (pe_callB (call_isiK (K := K) .tup) (by rfl) (m_isinstance T) (by decide +kernel) (pa_cons (pv 0) (pa_cons (pe_tyB (n := Kd.nm .tup) (by rfl) (m_tuple T) (by decide +kernel)) pa_nil))))) (pw_or (pt_cmpR (opEq (K := K) (hu64 hr)) (pe_callB (callLen (K := K)) (by rfl) (m_len T) (by decide +kernel) (pa_cons (pv 0) pa_nil)) pe_int (nomark _)) (pw_or (pt_cmpR op_gt (pv 1) pe_int (nomark _)) (pw_or1 (pt_not (pt_val (pe_callB (call_isiK (K := K) .str) (by rfl) (m_isinstance T) (by decide +kernel) (pa_cons (pe_ix (ixS (K := K)) (pv 0) pe_int (fun _ _ => rfl)) (pa_cons (pe_tyB (n := Kd.nm .str) (by rfl) (m_str T) (by decide +kernel)) pa_nil))))))))).pt (pss_one (ps_ret pe_bl)) pss_nil)
  (pss_cons (ps_if (pt_cmpR (opEq (K := K) (hu64 hr)) (pe_ix (ixS (K := K)) (pv 0) pe_int (fun _ _ => rfl)) pe_str (nomark _)) (pss_one (ps_ret (pe_and (pe_cmpR (opEq (K := K) (hu64 hr)) (pe_callB (callLen (K := K)) (by rfl) (m_len T) (by decide +kernel) (pa_cons (pv 0) pa_nil)) pe_int (nomark _)) (pe_one (pe_cal c_l_good_value (hr.mono (by decide)) pass0 (pa_cons (pe_ix (ixS (K := K)) (pv 0) pe_int (fun _ _ => rfl)) pa_nil)))))) pss_nil)
  (pss_cons (ps_if (pt_cmpR (opIn (K := K)) (pe_ix (ixS (K := K)) (pv 0) pe_int (fun _ _ => rfl)) (pe_tup (pa_cons pe_str (pa_cons pe_str (pa_cons pe_str (pa_cons pe_str (pa_cons pe_str (pa_cons pe_str pa_nil))))))) (by with_unfolding_all rfl)) (pss_one (ps_ret (pe_and (pe_cmpR (opEq (K := K) (hu64 hr)) (pe_callB (callLen (K := K)) (by rfl) (m_len T) (by decide +kernel) (pa_cons (pv 0) pa_nil)) pe_int (nomark _)) (pe_one (pe_cal c_l_good_name (hr.mono (by decide)) pass0 (pa_cons (pe_ix (ixS (K := K)) (pv 0) pe_int (fun _ _ => rfl)) pa_nil)))))) pss_nil)
  (pss_cons (ps_if (pt_cmpR (opIn (K := K)) (pe_ix (ixS (K := K)) (pv 0) pe_int (fun _ _ => rfl)) (pe_tup (pa_cons pe_str (pa_cons pe_str pa_nil))) (by with_unfolding_all rfl)) (pss_one (ps_ret (pe_and (pe_cmpR (opEq (K := K) (hu64 hr)) (pe_callB (callLen (K := K)) (by rfl) (m_len T) (by decide +kernel) (pa_cons (pv 0) pa_nil)) pe_int (nomark _)) (pe_and (pe_cal c_l_good_name (hr.mono (by decide)) pass0 (pa_cons (pe_ix (ixS (K := K)) (pv 0) pe_int (fun _ _ => rfl)) pa_nil)) (pe_one (pe_cal c_l_good_expr hr0 pass0 (pa_cons (pe_ix (ixS (K := K)) (pv 0) pe_int (fun _ _ => rfl)) (pa_cons (pe_op (opAdd (K := K)) (pv 1) pe_int) pa_nil)))))))) pss_nil)
  (pss_cons (ps_if (pt_cmpR (opIn (K := K)) (pe_ix (ixS (K := K)) (pv 0) pe_int (fun _ _ => rfl)) (pe_tup (pa_cons pe_str (pa_cons pe_str (pa_cons pe_str (pa_cons pe_str pa_nil))))) (by with_unfolding_all rfl)) (pss_one (ps_ret (pe_and (pe_cmpR (opEq (K := K) (hu64 hr)) (pe_callB (callLen (K := K)) (by rfl) (m_len T) (by decide +kernel) (pa_cons (pv 0) pa_nil)) pe_int (nomark _)) (pe_and (pe_cal c_l_good_expr hr0 pass0 (pa_cons (pe_ix (ixS (K := K)) (pv 0) pe_int (fun _ _ => rfl)) (pa_cons (pe_op (opAdd (K := K)) (pv 1) pe_int) pa_nil))) (pe_one (pe_cal c_l_good_expr hr0 pass0 (pa_cons (pe_ix (ixS (K := K)) (pv 0) pe_int (fun _ _ => rfl)) (pa_cons (pe_op (opAdd (K := K)) (pv 1) pe_int) pa_nil)))))))) pss_nil)
  (pss_one (ps_ret (pe_and (pe_cmpR (opEq (K := K) (hu64 hr)) (pe_ix (ixS (K := K)) (pv 0) pe_int (fun _ _ => rfl)) pe_str (nomark _)) (pe_and (pe_cmpR (opEq (K := K) (hu64 hr)) (pe_callB (callLen (K := K)) (by rfl) (m_len T) (by decide +kernel) (pa_cons (pv 0) pa_nil)) pe_int (nomark _)) (pe_one (pe_cal c_l_good_expr hr0 pass0 (pa_cons (pe_ix (ixS (K := K)) (pv 0) pe_int (fun _ _ => rfl)) (pa_cons (pe_op (opAdd (K := K)) (pv 1) pe_int) pa_nil))))))))))))), ?_⟩
  by_cases ew : wordD d = true
  · obtain ⟨wd, ps, rfl⟩ := wordD_is ew
    obtain ⟨a, xs, rfl, hs, hx⟩ := dp_word hd
    have hl := dpAll_len hx
    have sbp := strB_parts sb
    repeat walk_at "rd1"
    refine v_lenT hs ?_
    repeat walk_at "rd1"
    refine w_b (fun h1 => ?_) (fun h1 => ?_)
    · have : m = 0 := by simp at h1; omega
      subst this
      repeat walk_at "rd1"
      exact q _ (Same.refl _)
    · obtain ⟨m, rfl⟩ : ∃ j, m = j + 1 := ⟨m - 1, by simp at h1; omega⟩
      repeat walk_at "rd1"
      refine v_ixT hs (at_of (j := 0) rfl rfl) ?_
      repeat walk_at "rd1"
      refine v_ixT hs (at_of (j := 0) rfl rfl) ?_
      repeat walk_at "rd1"
      refine w_s (fun k1 => ?_) (fun k1 => ?_)
      · subst k1
        have el : exprRows.lookup ("value" : Str) = some (["value"] : List Str) := by decide +kernel
        repeat walk_at "rd1"
        refine v_lenT hs ?_
        repeat walk_at "rd1"
        refine w_b (fun h2 => ?_) (fun h2 => ?_)
        · obtain ⟨x1, p1, rfl, rfl, d1⟩ := one_part hx h2
          repeat walk_at "rd1"
          refine v_ixT hs (at_of (j := 1) rfl rfl) ?_
          repeat walk_at "rd1"
          simp only [strB.strBs, Bool.and_true] at sbp
          exact ⟨x1, p1, rfl, d1, sbp, qb (q _ (Same.refl _)) (by rw [gE1 el]; rfl)⟩
        · repeat walk_at "rd1"
          exact qb (q _ (Same.refl _)) (gE1_not el hx h2)
      repeat walk_at "rd1"
      refine v_ixT hs (at_of (j := 0) rfl rfl) ?_
      repeat walk_at "rd1"
      refine al (by simp) fun t1 H1 A1 => ?_
      have s1 := A1.same
      have hs1 := Same.seqT s1 hs
      refine v_inS (ks := ["var", "read", "peek", "state", "size", "use"]) (SqT.of A1.at_) ?_
      repeat walk_at "rd1"
      refine w_b (fun h2 => ?_) (fun h2 => ?_)
      · have el := look_name (of_decide_eq_true h2)
        repeat walk_at "rd1"
        refine v_lenT hs1 ?_
        repeat walk_at "rd1"
        refine w_b (fun h2 => ?_) (fun h2 => ?_)
        · obtain ⟨x1, p1, rfl, rfl, d1⟩ := one_part hx h2
          repeat walk_at "rd1"
          refine v_ixT hs1 (at_of (j := 1) rfl rfl) ?_
          repeat walk_at "rd1"
          simp only [strB.strBs, Bool.and_true] at sbp
          exact ⟨x1, p1, rfl, dp_same s1 _ _ d1, sbp, fun H2 s2 => qb (q _ (s1.trans s2)) (by rw [gE1 el]; rfl)⟩
        · repeat walk_at "rd1"
          exact qb (q _ s1) (gE1_not el hx h2)
      have n1 := of_decide_eq_false h2
      repeat walk_at "rd1"
      refine v_ixT hs1 (at_of (j := 0) rfl rfl) ?_
      repeat walk_at "rd1"
      refine al (by simp) fun t2 H2 A2 => ?_
      have s2 := s1.trans A2.same
      have hs2 := Same.seqT s2 hs
      refine v_inS (ks := ["get", "has"]) (SqT.of A2.at_) ?_
      repeat walk_at "rd1"
      refine w_b (fun h2 => ?_) (fun h2 => ?_)
      · have el := look_get (of_decide_eq_true h2)
        repeat walk_at "rd1"
        refine v_lenT hs2 ?_
        repeat walk_at "rd1"
        refine w_b (fun h2 => ?_) (fun h2 => ?_)
        · obtain ⟨x1, p1, x2, p2, rfl, rfl, d1, d2⟩ := two_parts hx h2
          repeat walk_at "rd1"
          refine v_ixT hs2 (at_of (j := 1) rfl rfl) ?_
          repeat walk_at "rd1"
          simp only [strB.strBs, Bool.and_true, Bool.and_eq_true] at sbp
          refine ⟨x1, p1, rfl, dp_same s2 _ _ d1, sbp.1, fun H3 s3 => ?_⟩
          have s3 := s2.trans s3
          have ee : gE (m + 1) (.tuple [.str wd, p1, p2]) = (keyD p1 && gE m p2) := by rw [gE2 el]; rfl
          repeat walk_at "rd1"
          cases ez : keyD p1 with
          | false =>
            repeat walk_at "rd1"
            exact qb (q _ s3) (by rw [ee, ez]; rfl)
          | true =>
            repeat walk_at "rd1"
            refine v_ixT (Same.seqT s3 hs) (at_of (j := 2) rfl rfl) ?_
            repeat walk_at "rd1"
            exact ⟨x2, p2, m, dep + 1, rfl, dp_same s3 _ _ d2, sbp.2, by omega, by omega, fun H4 s4 => qb (q _ (s3.trans s4)) (by rw [ee, ez]; rfl)⟩
        · repeat walk_at "rd1"
          exact qb (q _ s2) (gE2_not el hx h2)
      have n2 := of_decide_eq_false h2
      repeat walk_at "rd1"
      refine v_ixT hs2 (at_of (j := 0) rfl rfl) ?_
      repeat walk_at "rd1"
      refine al (by simp) fun t3 H3 A3 => ?_
      have s3 := s2.trans A3.same
      have hs3 := Same.seqT s3 hs
      refine v_inS (ks := ["add", "join", "equal", "less"]) (SqT.of A3.at_) ?_
      repeat walk_at "rd1"
      refine w_b (fun h2 => ?_) (fun h2 => ?_)
      · have el := look_two (of_decide_eq_true h2)
        repeat walk_at "rd1"
        refine v_lenT hs3 ?_
        repeat walk_at "rd1"
        refine w_b (fun h2 => ?_) (fun h2 => ?_)
        · obtain ⟨x1, p1, x2, p2, rfl, rfl, d1, d2⟩ := two_parts hx h2
          repeat walk_at "rd1"
          refine v_ixT hs3 (at_of (j := 1) rfl rfl) ?_
          repeat walk_at "rd1"
          simp only [strB.strBs, Bool.and_true, Bool.and_eq_true] at sbp
          refine ⟨x1, p1, m, dep + 1, rfl, dp_same s3 _ _ d1, sbp.1, by omega, by omega, fun H4 s4 => ?_⟩
          have s4 := s3.trans s4
          have ee : gE (m + 1) (.tuple [.str wd, p1, p2]) = (gE m p1 && gE m p2) := by rw [gE2 el]; rfl
          repeat walk_at "rd1"
          cases ez : gE m p1 with
          | false =>
            repeat walk_at "rd1"
            exact qb (q _ s4) (by rw [ee, ez]; rfl)
          | true =>
            repeat walk_at "rd1"
            refine v_ixT (Same.seqT s4 hs) (at_of (j := 2) rfl rfl) ?_
            repeat walk_at "rd1"
            exact ⟨x2, p2, m, dep + 1, rfl, dp_same s4 _ _ d2, sbp.2, by omega, by omega, fun H5 s5 => qb (q _ (s4.trans s5)) (by rw [ee, ez]; rfl)⟩
        · repeat walk_at "rd1"
          exact qb (q _ s3) (gE2_not el hx h2)
      have n3 := of_decide_eq_false h2
      repeat walk_at "rd1"
      refine v_ixT hs3 (at_of (j := 0) rfl rfl) ?_
      repeat walk_at "rd1"
      refine w_s (fun k2 => ?_) (fun k2 => ?_)
      · subst k2
        have el : exprRows.lookup ("not" : Str) = some (["expression"] : List Str) := by decide +kernel
        repeat walk_at "rd1"
        refine v_lenT hs3 ?_
        repeat walk_at "rd1"
        refine w_b (fun h2 => ?_) (fun h2 => ?_)
        · obtain ⟨x1, p1, rfl, rfl, d1⟩ := one_part hx h2
          repeat walk_at "rd1"
          refine v_ixT hs3 (at_of (j := 1) rfl rfl) ?_
          repeat walk_at "rd1"
          simp only [strB.strBs, Bool.and_true] at sbp
          exact ⟨x1, p1, m, dep + 1, rfl, dp_same s3 _ _ d1, sbp, by omega, by omega, fun H4 s4 => qb (q _ (s3.trans s4)) (by rw [gE1 el]; rfl)⟩
        · repeat walk_at "rd1"
          exact qb (q _ s3) (gE1_not el hx h2)
      · repeat walk_at "rd1"
        exact qb (q _ s3) (gE_none (kindsD_none (look_out k1 n1 n2 n3 k2)))
  · have ew : wordD d = false := by simpa using ew
    have q0 : Q (.bl false) H := qb (q _ (Same.refl _)) (gE_word ew)
    cases hd with
    | tup hs hx =>
      repeat walk_at "rd1"
      refine v_lenT hs ?_
      cases hx with
      | nil =>
        repeat walk_at "rd1"
        exact q0
      | cons h1 h2 =>
        repeat walk_at "rd1"
        refine w_b (fun h1 => ?_) (fun h1 => ?_)
        · repeat walk_at "rd1"
          exact q0
        · repeat walk_at "rd1"
          refine v_ixT hs (at_of (j := 0) rfl rfl) ?_
          repeat walk_at "rd1"
          rename_i x1 d1 _ _ _
          have nk : (kdD d1).isa .str = false := by
            cases d1 <;> first | rfl | (simp [wordD] at ew)
          rw [nk]
          repeat walk_at "rd1"
          exact q0
    | _ =>
      repeat walk_at "rd1"
      exact q0
theorem ok_l_good_expr {P : Program} {w : World} {K : PySem.W.Frag} {mg : Str → Option Value} {base : Heap} (T : Wd w K mg) : ∀ n : Nat, Cal P w K mg base "_law_good_expr" CX0 (n + 3) (sp_l_good_expr K n)
  | 0 => by
    refine mk_cal T 21 rfl sc_l_good_expr (m__law_good_expr T) (fun _ _ _ _ _ _ us hl => match us, hl with | [_, _], _ => rfl) (fun vs H Q E h => ?_) (fun f cdv A outer s H vs Q E hr h => ?_)
    · obtain ⟨v, d, m, dep, rfl, _⟩ := h; rfl
    · obtain ⟨v, d, m, dep, rfl, hd, sb, hm, _⟩ := h
      exact absurd hm (Nat.not_lt_zero _)
  | n + 1 => l_good_expr_next T n (ok_l_good_expr T n)

def sp_l_good_pairs (K : PySem.W.Frag) : Sp := fun vs H Q _ => ∃ v d, vs = [v] ∧ Dp K H v d ∧ strB d = true ∧ ∀ H', Same H H' → Q (.bl (pairsD d)) H'
theorem ok_l_good_pairs {P : Program} {w : World} {K : PySem.W.Frag} {mg : Str → Option Value} {base : Heap} (T : Wd w K mg) : Cal P w K mg base "_law_good_pairs" CX0 10 (sp_l_good_pairs K) := by
  have c_l_good_name := ok_l_good_name (P := P) (w := w) (base := base) T
  refine mk_cal T 22 rfl sc_l_good_pairs (m__law_good_pairs T) (fun _ _ _ _ _ _ us hl => match us, hl with | [_], _ => rfl) (fun vs H Q E h => ?_) (fun f cdv A outer s H vs Q E hr h => ?_)
  · obtain ⟨v, d, rfl, _⟩ := h; rfl
  have c_l_good_expr := ok_l_good_expr (P := P) (w := w) (base := base) T 6
  obtain ⟨v, d, rfl, hd, sb, q⟩ := h
  have hk := kd_dp hd
  refine ⟨_, (pss_cons (ps_if (pw_or (pt_not (pt_val (pe_callB (call_isiK (K := K) .lst) (by rfl) (m_isinstance T) (by decide +kernel) (pa_cons (pv 0) (pa_cons (pe_tyB (n := Kd.nm .lst) (by rfl) (m_list T) (by decide +kernel)) pa_nil))))) (pw_or1 (pt_cmpR op_gt (pe_callB (callLen (K := K)) (by rfl) (m_len T) (by decide +kernel) (pa_cons (pv 0) pa_nil)) pe_int (nomark _)))).pt (pss_one (ps_ret pe_bl)) pss_nil)
  (pss_cons (ps_set (i := 1) sc_l_good_pairs.nd rfl (Or.inl rfl) (pe_lst pa_nil))
  (pss_cons (ps_for PassesOwn.never rfl (pi_list (pv 0)) (pg_name (i := 2) sc_l_good_pairs.nd rfl (Or.inl rfl))
   (pss_cons (ps_if (pw_or (pt_not (pt_val (pe_callB (call_isiK (K := K) .tup) (by rfl) (m_isinstance T) (by decide +kernel) (pa_cons (pv 2) (pa_cons (pe_tyB (n := Kd.nm .tup) (by rfl) (m_tuple T) (by decide +kernel)) pa_nil))))) (pw_or (pt_cmpR (opNe (K := K) (hu64 hr)) (pe_callB (callLen (K := K)) (by rfl) (m_len T) (by decide +kernel) (pa_cons (pv 2) pa_nil)) pe_int (nomark _)) (pw_or (pt_not (pt_val (pe_cal c_l_good_name (hr.mono (by decide)) pass0 (pa_cons (pe_ix (ixS (K := K)) (pv 2) pe_int (fun _ _ => rfl)) pa_nil)))) (pw_or1 (pt_cmpR (opIn (K := K)) (pe_ix (ixS (K := K)) (pv 2) pe_int (fun _ _ => rfl)) (pv 1) (by with_unfolding_all rfl)))))).pt (pss_one (ps_ret pe_bl)) pss_nil)
  (pss_cons (ps_if (pt_not (pt_val (pe_cal c_l_good_expr (hr.mono (by decide)) pass0 (pa_cons (pe_ix (ixS (K := K)) (pv 2) pe_int (fun _ _ => rfl)) (pa_cons pe_int pa_nil))))) (pss_one (ps_ret pe_bl)) pss_nil)
  (pss_one (ps_expr (pe_bm PySem.F.plainAttrs_list PySem.F.slot_list_append PySem.F.type_list_append mt_append (pv 1) (pa_cons (pe_ix (ixS (K := K)) (pv 2) pe_int (fun _ _ => rfl)) pa_nil)))))))
  (pss_one (ps_ret pe_bl))))), ?_⟩
  cases hd with
  | lst hs hx =>
    rename_i a xs ds
    have hl := dpAll_len hx
    repeat walk_at "rd1"
    refine v_lenL hs ?_
    repeat walk_at "rd1"
    refine w_b (fun h1 => ?_) (fun h1 => ?_)
    · repeat walk_at "rd1"
      refine qb (q _ (Same.refl _)) ?_
      simp [pairsD] at h1 ⊢
      intro; omega
    · have h8 : ds.length ≤ 8 := by simp at h1; omega
      have h8' : decide (ds.length ≤ 8) = true := by simpa using h8
      repeat walk_at "rd1"
      refine al (by simp) fun p H1 A1 => ?_
      have hp := A1.nw
      repeat walk_at "rd1"
      refine w_exR (A1.same.seq hs) ?_
      have bad : (ds.all pairD && (ds.map firstD).all fun z => (ds.map firstD).count z == 1) = false → pairsD (.list ds) = false := by
        intro e
        simp only [pairsD, e, Bool.and_false]
      refine for_it (it_list (a := a)) (fun i σ H' => (∃ v2 : Option V, σ = [some (.ref a), some (.ref p), v2]) ∧ Same H H' ∧ H' p = some (.lst (((ds.take i).map firstD).map V.str)) ∧ (∀ j pd, j < i → ds[j]? = some pd → pairD pd = true) ∧ ((ds.take i).map firstD).Nodup)
        ⟨⟨none, rfl⟩, A1.same, A1.at_, fun _ _ h => absurd h (Nat.not_lt_zero _), by simp⟩ (fun i σ H' _ h => h.2.1.seq hs) ?_ ?_
      · rintro i x σ H2 hx' ⟨⟨v2, rfl⟩, s2, e2, good, nd⟩
        have hi : i < ds.length := by have := (List.getElem?_eq_some_iff.mp hx').1; omega
        obtain ⟨x2, pd, h2, hpd, dpx⟩ := dpAll_get hx hi
        rw [hx'] at h2; cases h2
        have sbp := strBs_get (by simpa [strB] using sb) hpd
        have dpx2 := dp_same s2 _ _ dpx
        have hk2 := kd_dp dpx2
        have badp : pairD pd = false → Q (.bl false) H2 := by
          intro e
          refine qb (q _ s2) (bad ?_)
          have : ds.all pairD = false := List.all_eq_false.mpr ⟨pd, List.mem_of_getElem? hpd, by simp [e]⟩
          rw [this]; rfl
        repeat walk_at "rd1"
        cases dpx2 with
        | tup hs2 hx2 =>
          repeat walk_at "rd1"
          refine v_lenT hs2 ?_
          repeat walk_at "rd1"
          refine w_nb (fun h2 => ?_) (fun h2 => ?_)
          · repeat walk_at "rd1"
            exact badp (pairD_len (by have := dpAll_len hx2; simp at h2; omega))
          cases hx2 with
          | nil => simp at h2
          | cons d1 r1 =>
            cases r1 with
            | nil => simp at h2
            | cons d2 r2 =>
              cases r2 with
              | cons d3 r3 => simp at h2; omega
              | nil =>
                rename_i pa x1 p1 x2 p2
                simp only [strB, strB.strBs, Bool.and_true, Bool.and_eq_true] at sbp
                repeat walk_at "rd1"
                refine v_ixT hs2 (at_of (j := 0) rfl rfl) ?_
                repeat walk_at "rd1"
                refine ⟨x1, p1, rfl, d1, sbp.1, fun H3 s3 => ?_⟩
                repeat walk_at "rd1"
                have badq : ∀ H4, Same H H4 → pairD (.tuple [p1, p2]) = false → Q (.bl false) H4 := by
                  intro H4 s4 e
                  refine qb (q _ s4) (bad ?_)
                  have : ds.all pairD = false := List.all_eq_false.mpr ⟨_, List.mem_of_getElem? hpd, by simp [e]⟩
                  rw [this]; rfl
                cases ez : keyD p1 with
                | false =>
                  repeat walk_at "rd1"
                  exact badq _ (s2.trans s3) (by simp [pairD, ez])
                | true =>
                  obtain ⟨z, rfl⟩ : ∃ z, p1 = .str z := by
                    cases p1 with
                    | str z => exact ⟨z, rfl⟩
                    | _ => simp [keyD] at ez
                  cases d1
                  repeat walk_at "rd1"
                  refine v_ixT (Same.seqT s3 hs2) (at_of (j := 0) rfl rfl) ?_
                  repeat walk_at "rd1"
                  have e3 := s3 _ _ e2
                  refine v_inL (SqL.of e3) ?_
                  repeat walk_at "rd1"
                  have spl : ds.map firstD = (ds.take i).map firstD ++ z :: (ds.drop (i + 1)).map firstD := by
                    have h5 : ds = ds.take i ++ (ds[i] :: ds.drop (i + 1)) := by rw [← List.drop_eq_getElem_cons, List.take_append_drop]
                    have h6 : ds[i] = .tuple [.str z, p2] := Option.some.inj ((List.getElem?_eq_getElem hi).symm.trans hpd)
                    rw [h6] at h5
                    conv => lhs; rw [h5]
                    rw [List.map_append, List.map_cons]
                    rfl
                  refine w_b (fun h3 => ?_) (fun h3 => ?_)
                  · repeat walk_at "rd1"
                    refine qb (q _ (s2.trans s3)) (bad ?_)
                    rw [spl, dup_counts (of_decide_eq_true h3), Bool.and_false]
                  · repeat walk_at "rd1"
                    refine v_ixT (Same.seqT s3 hs2) (at_of (j := 1) rfl rfl) ?_
                    repeat walk_at "rd1"
                    refine ⟨x2, p2, 5, 1, rfl, dp_same s3 _ _ d2, sbp.2, by omega, by omega, fun H4 s4 => ?_⟩
                    repeat walk_at "rd1"
                    have e4 := s4 _ _ e3
                    cases ey : gE 5 p2 with
                    | false =>
                      repeat walk_at "rd1"
                      exact badq _ ((s2.trans s3).trans s4) (by simp [pairD, ey])
                    | true =>
                      repeat walk_at "rd1"
                      refine ⟨ty_lst (SqL.of e4), ?_⟩
                      repeat walk_at "rd1"
                      refine v_ixT (Same.seqT (s3.trans s4) hs2) (at_of (j := 0) rfl rfl) ?_
                      repeat walk_at "rd1"
                      refine v_app e4 (line1000' (by simp; omega)) ?_
                      repeat walk_at "rd1"
                      have ext : (ds.take (i + 1)).map firstD = (ds.take i).map firstD ++ [z] := by
                        rw [List.take_add_one, hpd, List.map_append]
                        rfl
                      refine ⟨⟨_, rfl⟩, ?_, ?_, ?_, ?_⟩
                      · intro b o hb
                        rw [upd_ne (ne_of_none hb hp)]
                        exact s4 _ _ (s3 _ _ (s2 _ _ hb))
                      · rw [upd_same, ext, List.map_append]; rfl
                      · intro j pd hj hjd
                        by_cases ej : j = i
                        · subst ej
                          rw [hpd] at hjd; cases hjd
                          simp [pairD, ez, ey]
                        · exact good j pd (by omega) hjd
                      · rw [ext, List.nodup_append]
                        refine ⟨nd, by simp, ?_⟩
                        intro u hu v hv e
                        simp at hv
                        subst hv; subst e
                        exact of_decide_eq_false h3 hu
        | _ =>
          repeat walk_at "rd1"
          exact badp rfl
      · rintro σ H2 ⟨⟨v2, rfl⟩, s2, e2, good, nd⟩
        repeat walk_at "rd1"
        refine qb (q _ s2) ?_
        rw [show xs.length = ds.length from hl, List.take_length] at nd
        have g : ds.all pairD = true := List.all_eq_true.mpr fun pd hm => by
          obtain ⟨j, hj⟩ := List.getElem?_of_mem hm
          exact good j pd (by have := (List.getElem?_eq_some_iff.mp hj).1; omega) hj
        simp only [pairsD, h8', g, nodup_counts nd, Bool.and_true]
  | _ =>
    repeat walk_at "rd1"
    exact q _ (Same.refl _)

def sp_l_forms : Sp := fun vs H Q _ => vs = [] ∧ ∀ p H', Alloc H p (.dK (rowsV formRows)) H' → Q (.ref p) H'
theorem ok_l_forms {P : Program} {w : World} {K : PySem.W.Frag} {mg : Str → Option Value} {base : Heap} (T : Wd w K mg) : Cal P w K mg base "_law_forms" CX0 1 sp_l_forms := by
  refine mk_cal T 23 rfl sc_l_forms (m__law_forms T) (fun _ _ _ _ _ _ us hl => match us, hl with | [], _ => rfl) (fun vs H Q E h => ?_) (fun f cdv A outer s H vs Q E hr h => ?_)
  · obtain ⟨rfl, _⟩ := h; rfl
  obtain ⟨rfl, q⟩ := h
  refine ⟨_, (pss_one (ps_ret (pe_dispS (rows := [("let", "ne"), ("if", "ebb"), ("each", "nnb"), ("try", "bnb"), ("raise", "e"), ("return", "e"), ("emit", "e"), ("write", "ne"), ("put", "nee"), ("remove", "ne"), ("reset", "n"), ("dispose", "n"), ("cleanup", "e"), ("signal", "ne"), ("store", "np"), ("scope", "n"), ("boundary", "n"), ("computed", "nb"), ("effect", "nb"), ("resource", "nb"), ("keyed", "nnnb"), ("atomic", "bnb")]) (by with_unfolding_all rfl) (by decide +kernel) (by decide) (by decide)))), ?_⟩
  repeat walk_at "rd1"
  exact q
theorem valV_forms (w : Str) : valV (rowsV formRows) (.inr w : Key) = (formRows.lookup w).map V.str := valV_rows w formRows
def sp_l_count (K : PySem.W.Frag) (n : Nat) : Sp := fun vs H Q _ => ∃ (v : V) (m : Nat) (dep : Int), vs = [v, .int dep] ∧ m < n ∧ dep = 6 - (m : Int) ∧
  ((∃ kk, KdOf K H v kk ∧ kk ≠ .lst ∧ Q (.int 1000) H) ∨ ∃ d, Dp K H v d ∧ strB d = true ∧ ∀ H' c, Same H H' → CntR (sizB (sizS m) d) c → Q (.int c) H')
theorem l_count_next {P : Program} {w : World} {K : PySem.W.Frag} {mg : Str → Option Value} {base : Heap} (T : Wd w K mg) (n : Nat) (c_l_count : Cal P w K mg base "_law_count" CX0 (n + 12) (sp_l_count K n)) : Cal P w K mg base "_law_count" CX0 (n + 1 + 12) (sp_l_count K (n + 1)) := by
  have c_l_good_name := ok_l_good_name (P := P) (w := w) (base := base) T
  have c_l_good_expr := ok_l_good_expr (P := P) (w := w) (base := base) T 6
  have c_l_good_pairs := ok_l_good_pairs (P := P) (w := w) (base := base) T
  have c_l_forms := ok_l_forms (P := P) (w := w) (base := base) T
  refine mk_cal T 24 rfl sc_l_count (m__law_count T) (fun _ _ _ _ _ _ us hl => match us, hl with | [_, _], _ => rfl) (fun vs H Q E h => ?_) (fun f cdv A outer s H vs Q E hr h => ?_)
  · obtain ⟨v, m, dep, rfl, _⟩ := h; rfl
  obtain ⟨v, m, dep, rfl, hm, ed, h⟩ := h
  have hr0 := hr
  replace hr := hr.mono (show 12 ≤ n + 12 by omega)
  refine ⟨_, (pss_cons (ps_if (pw_or (pt_not (pt_val (pe_callB (call_isiK (K := K) .lst) (by rfl) (m_isinstance T) (by decide +kernel) (pa_cons (pv 0) (pa_cons (pe_tyB (n := Kd.nm .lst) (by rfl) (m_list T) (by decide +kernel)) pa_nil))))) (pw_or1 (pw_and (pt_cmpR op_gt (pe_callB (callLen (K := K)) (by rfl) (m_len T) (by decide +kernel) (pa_cons (pv 0) pa_nil)) pe_int (nomark _)) (pw_and1 (pt_cmpR op_gt (pv 1) pe_int (nomark _)))).pt)).pt (pss_one (ps_ret pe_int)) pss_nil)
  (pss_cons (ps_set (i := 2) sc_l_count.nd rfl (Or.inl rfl) pe_int)
  (pss_cons (ps_for PassesOwn.never rfl (pi_list (pv 0)) (pg_name (i := 3) sc_l_count.nd rfl (Or.inl rfl))
   (pss_cons (ps_set (i := 2) sc_l_count.nd rfl (Or.inl rfl) (pe_op (opAdd (K := K)) (pv 2) pe_int))
  (pss_cons (ps_if (pw_or (pt_not (pt_val (pe_callB (call_isiK (K := K) .tup) (by rfl) (m_isinstance T) (by decide +kernel) (pa_cons (pv 3) (pa_cons (pe_tyB (n := Kd.nm .tup) (by rfl) (m_tuple T) (by decide +kernel)) pa_nil))))) (pw_or (pt_cmpR (opEq (K := K) (hu64 hr)) (pe_callB (callLen (K := K)) (by rfl) (m_len T) (by decide +kernel) (pa_cons (pv 3) pa_nil)) pe_int (nomark _)) (pw_or (pt_not (pt_val (pe_callB (call_isiK (K := K) .str) (by rfl) (m_isinstance T) (by decide +kernel) (pa_cons (pe_ix (ixS (K := K)) (pv 3) pe_int (fun _ _ => rfl)) (pa_cons (pe_tyB (n := Kd.nm .str) (by rfl) (m_str T) (by decide +kernel)) pa_nil))))) (pw_or1 (pt_cmp (pc_dnotin (hu1 hr) (pe_ix (ixS (K := K)) (pv 3) pe_int (fun _ _ => rfl)) (pe_cal0 c_l_forms (hr.mono (by decide)) pass0))))))).pt (pss_one (ps_ret pe_int)) pss_nil)
  (pss_cons (ps_set (i := 4) sc_l_count.nd rfl (Or.inl rfl) (pe_dget (hu1 hr) (pe_cal0 c_l_forms (hr.mono (by decide)) pass0) (pe_ix (ixS (K := K)) (pv 3) pe_int (fun _ _ => rfl)) (fun _ _ => rfl)))
  (pss_cons (ps_if (pt_cmpR (opNe (K := K) (hu64 hr)) (pe_callB (callLen (K := K)) (by rfl) (m_len T) (by decide +kernel) (pa_cons (pv 3) pa_nil)) (pe_op (opAdd (K := K)) pe_int (pe_callB (callLen (K := K)) (by rfl) (m_len T) (by decide +kernel) (pa_cons (pv 4) pa_nil))) (nomark _)) (pss_one (ps_ret pe_int)) pss_nil)
  (pss_one (ps_for PassesOwn.never rfl (pi_range1 (by rfl) (m_range T) (pa_cons (pe_callB (callLen (K := K)) (by rfl) (m_len T) (by decide +kernel) (pa_cons (pv 4) pa_nil)) pa_nil)) (pg_name (i := 5) sc_l_count.nd rfl (Or.inl rfl))
   (pss_cons (ps_set (i := 6) sc_l_count.nd rfl (Or.inl rfl) (pe_ix (ixS (K := K)) (pv 3) (pe_op (opAdd (K := K)) pe_int (pv 5)) (fun _ _ => rfl)))
  (pss_cons (ps_if (pw_or (pw_and (pt_cmpR (opEq (K := K) (hu64 hr)) (pe_ix (ixS (K := K)) (pv 4) (pv 5) (fun _ _ => rfl)) pe_str (nomark _)) (pw_and1 (pt_not (pt_val (pe_cal c_l_good_name (hr.mono (by decide)) pass0 (pa_cons (pv 6) pa_nil)))))).pt (pw_or1 (pw_and (pt_cmpR (opEq (K := K) (hu64 hr)) (pe_ix (ixS (K := K)) (pv 4) (pv 5) (fun _ _ => rfl)) pe_str (nomark _)) (pw_and1 (pt_not (pt_val (pe_cal c_l_good_expr (hr.mono (by decide)) pass0 (pa_cons (pv 6) (pa_cons pe_int pa_nil))))))).pt)).pt (pss_one (ps_ret pe_int)) pss_nil)
  (pss_cons (ps_if (pw_and (pt_cmpR (opEq (K := K) (hu64 hr)) (pe_ix (ixS (K := K)) (pv 4) (pv 5) (fun _ _ => rfl)) pe_str (nomark _)) (pw_and1 (pt_not (pt_val (pe_cal c_l_good_pairs (hr.mono (by decide)) pass0 (pa_cons (pv 6) pa_nil)))))).pt (pss_one (ps_ret pe_int)) pss_nil)
  (pss_one (ps_if (pt_cmpR (opEq (K := K) (hu64 hr)) (pe_ix (ixS (K := K)) (pv 4) (pv 5) (fun _ _ => rfl)) pe_str (nomark _)) (pss_one (ps_set (i := 2) sc_l_count.nd rfl (Or.inl rfl) (pe_op (opAdd (K := K)) (pv 2) (pe_cal c_l_count hr0 pass0 (pa_cons (pv 6) (pa_cons (pe_op (opAdd (K := K)) (pv 1) pe_int) pa_nil)))))) pss_nil))))))))))))
  (pss_one (ps_ret (pv 2)))))), ?_⟩
  rcases h with ⟨kk, hk, nk, q⟩ | ⟨d, hd, sb, q⟩
  · repeat walk_at "rd1"
    have e : kk.isa .lst = false := by cases kk <;> first | rfl | exact absurd rfl nk
    rw [e]
    repeat walk_at "rd1"
    exact q
  have hk := kd_dp hd
  cases hd with
  | lst hs hx =>
    rename_i a xs ds
    have hl := dpAll_len hx
    have sbs : strB.strBs ds = true := by simpa [strB] using sb
    repeat walk_at "rd1"
    refine v_lenL hs ?_
    repeat walk_at "rd1"
    have body : (ds = [] ∨ m ≠ 0) → True := fun _ => trivial
    refine w_b (fun h1 => ?_) (fun h1 => ?_)
    · repeat walk_at "rd1"
      refine w_b (fun h2 => ?_) (fun h2 => ?_)
      · repeat walk_at "rd1"
        have : m = 0 := by simp at h2; omega
        subst this
        refine q _ _ (Same.refl _) ?_
        cases ds with
        | nil => simp at hl; subst hl; simp at h1
        | cons d1 ds => exact Int.le_refl _
      · obtain ⟨m, rfl⟩ : ∃ j, m = j + 1 := ⟨m - 1, by simp at h2; omega⟩
        repeat walk_at "rd1"
        refine w_exR hs ?_
        refine for_it (it_list (a := a)) (fun i σ H' => (∃ (c : Int) (v3 v4 v5 v6 : Option V), σ = [some (.ref a), some (.int dep), some (.int c), v3, v4, v5, v6] ∧ CntR (sumO ((ds.map (sizS (m + 1))).take i)) c) ∧ Same H H')
          ⟨⟨0, none, none, none, none, rfl, rfl⟩, Same.refl _⟩ (fun i σ H' _ h => h.2.seq hs) ?_ ?_
        · rintro i x σ H2 hx' ⟨⟨c, v3, v4, v5, v6, rfl, hc⟩, s2⟩
          have hi : i < ds.length := by have := (List.getElem?_eq_some_iff.mp hx').1; omega
          obtain ⟨x2, pd, h2', hpd, dpx⟩ := dpAll_get hx hi
          rw [hx'] at h2'; cases h2'
          have sbp := strBs_get sbs hpd
          have dpx2 := dp_same s2 _ _ dpx
          have hk2 := kd_dp dpx2
          have ez : (ds.map (sizS (m + 1)))[i]? = some (sizS (m + 1) pd) := by rw [List.getElem?_map, hpd]; rfl
          have badp : ∀ H4, Same H H4 → sizS (m + 1) pd = none → Q (.int 1000) H4 := by
            intro H4 s4 e
            rw [e] at ez
            refine q _ _ s4 ?_
            simp only [sizB]
            rw [sumO_none ez]
            exact Int.le_refl _
          repeat walk_at "rd1"
          by_cases ew : wordD pd = true
          · obtain ⟨wd, ps, rfl⟩ := wordD_is ew
            obtain ⟨ap, xp, rfl, hs2, hx2⟩ := dp_word dpx2
            have hl2 := dpAll_len hx2
            have sbq := strB_parts sbp
            repeat walk_at "rd1"
            refine v_lenT hs2 ?_
            repeat walk_at "rd1"
            refine v_ixT hs2 (at_of (j := 0) rfl rfl) ?_
            repeat walk_at "rd1"
            refine v_ixT hs2 (at_of (j := 0) rfl rfl) ?_
            repeat walk_at "rd1"
            refine ⟨rfl, fun p3 H3 A3 => ?_⟩
            have s3 := A3.same
            have hs3 := Same.seqT s3 hs2
            refine ⟨p3, _, rfl, DGet.k (k := .inr wd) A3.at_, ?_⟩
            repeat walk_at "rd1"
            rw [valV_forms]
            cases el : formRows.lookup wd with
            | none =>
              repeat walk_at "rd1"
              exact badp _ (s2.trans s3) (sizS_none (kindsD_none (by rw [look_forms, el]; rfl)))
            | some fm =>
              have el2 : stmtRows.lookup wd = some (kindsOf fm) := by rw [look_forms, el]; rfl
              obtain ⟨fl, fc⟩ := form_letters el
              repeat walk_at "rd1"
              refine ⟨rfl, fun p4 H4 A4 => ?_⟩
              have s4 := s3.trans A4.same
              have hs4 := Same.seqT s4 hs2
              repeat walk_at "rd1"
              refine v_ixT hs4 (at_of (j := 0) rfl rfl) ?_
              have g4 : DGet H4 p4 (.str wd) (some (.str fm)) := by
                have := DGet.k (k := .inr wd) A4.at_
                rw [valV_forms, el] at this
                exact this
              refine ⟨p4, .str fm, rfl, g4, ?_⟩
              repeat walk_at "rd1"
              refine v_lenT hs4 ?_
              repeat walk_at "rd1"
              refine v_lenS (line1000 (by omega)) ?_
              repeat walk_at "rd1"
              refine w_nb (fun h3 => ?_) (fun h3 => ?_)
              · repeat walk_at "rd1"
                refine badp _ (s2.trans s4) (sizS_none ?_)
                rw [kindsD_some el2, if_neg]
                simp [kindsOf] at h3 ⊢
                intro e
                apply h3
                have : fm.length = fm.cps.toList.length := by simp [Str.length]
                simp at this
                omega
              · have hlen : (kindsOf fm).length = ps.length := by
                  have e1 : fm.length = fm.cps.toList.length := by simp [Str.length]
                  simp [kindsOf] at h3 ⊢
                  simp at e1
                  omega
                have hfl : fm.cps.toList.length = ps.length := by rw [← hlen]; simp [kindsOf]
                have e5 : sizS (m + 1) (.tuple (.str wd :: ps)) = addO (some 1) (sumO (List.zipWith (sizP (sizB (sizS m))) (kindsOf fm) ps)) := by
                  rw [sizS_some (by rw [kindsD_some el2, if_pos hlen])]; rfl
                repeat walk_at "rd1"
                refine v_lenS (line1000 (by omega)) ?_
                repeat walk_at "rd1"
                refine ⟨_, rfl, by omega, by omega, ?_⟩
                refine for_it (it_range (lo := 0)) (fun j σ H' => (∃ (t : Int) (v5 v6 : Option V), σ = [some (.ref a), some (.int dep), some (.int (c + 1 + t)), some (.ref ap), some (.str fm), v5, v6] ∧ CntR (sumO ((List.zipWith (sizP (sizB (sizS m))) (kindsOf fm) ps).take j)) t) ∧ Same H4 H')
                  ⟨⟨0, v5, v6, by rw [Int.add_zero]; rfl, rfl⟩, Same.refl _⟩ (fun _ _ _ _ _ => trivial) ?_ ?_
                · rintro j y σ H5 hy ⟨⟨t, v7, v8, rfl, ht⟩, s5⟩
                  obtain ⟨hj, rfl⟩ := rangeV_get hy
                  have hj2 : j < ps.length := by
                    have : fm.length = fm.cps.toList.length := by simp [Str.length]
                    omega
                  obtain ⟨xj, pj, hxj, hpj, dpj⟩ := dpAll_get hx2 hj2
                  have sbj := strBs_get sbq hpj
                  have s45 := s4.trans s5
                  have hs5 := Same.seqT s45 hs2
                  obtain ⟨ch, hch⟩ : ∃ ch, fm.cps.toList[j]? = some ch := ⟨fm.cps.toList[j]'(by omega), List.getElem?_eq_getElem _⟩
                  have hkj : (kindsOf fm)[j]? = some (kindOf ch) := by unfold kindsOf; rw [List.getElem?_map, hch]; rfl
                  have hzj : (List.zipWith (sizP (sizB (sizS m))) (kindsOf fm) ps)[j]? = some (sizP (sizB (sizS m)) (kindOf ch) pj) := by rw [List.getElem?_zipWith, hkj, hpj]
                  have badj : ∀ H6, Same H2 H6 → sizP (sizB (sizS m)) (kindOf ch) pj = none → Q (.int 1000) H6 := by
                    intro H6 s6 e
                    rw [e] at hzj
                    exact badp _ (s2.trans s6) (by rw [e5, sumO_none hzj]; rfl)
                  have nxt : ∀ (cc : Int) (H6 : Hp), Same H5 H6 → CntR (sizP (sizB (sizS m)) (kindOf ch) pj) cc → CntR (sumO ((List.zipWith (sizP (sizB (sizS m))) (kindsOf fm) ps).take (j + 1))) (t + cc) := by
                    intro cc H6 s6 hcc
                    rw [sumO_take hzj]
                    exact ht.add hcc
                  have atc : atI fm.cps.toList (0 + (j : Int)) = some ch := by rw [Int.zero_add]; exact atI_nat hch
                  have atx : atI (V.str wd :: xp) (1 + (0 + (j : Int))) = some xj := at_of (j := j + 1) (by rw [Int.zero_add, Int.add_comm]; rfl) (by simpa using hxj)
                  have fl2 : fm.length ≤ sizeLine := line1000 (by omega)
                  repeat walk_at "rd1"
                  refine v_ixT hs5 atx ?_
                  repeat walk_at "rd1"
                  refine v_ixS fl2 atc ?_
                  repeat walk_at "rd1"
                  rcases fc ch (List.mem_of_getElem? hch) with rfl | rfl | rfl | rfl
                  · repeat walk_at "rd1"
                    refine ⟨xj, pj, rfl, dp_same s45 _ _ dpj, sbj, fun H6 s6 => ?_⟩
                    repeat walk_at "rd1"
                    have ek : sizP (sizB (sizS m)) (kindOf 110) pj = okO (keyD pj) := rfl
                    cases ez : keyD pj with
                    | false =>
                      repeat walk_at "rd1"
                      exact badj _ (s45.trans s6) (by rw [ek, ez]; rfl)
                    | true =>
                      have n0 := nxt 0 H6 s6 (by rw [ek, ez]; rfl)
                      rw [Int.add_zero] at n0
                      repeat walk_at "rd1"
                      refine v_ixS fl2 atc ?_
                      repeat walk_at "rd1"
                      refine v_ixS fl2 atc ?_
                      repeat walk_at "rd1"
                      refine v_ixS fl2 atc ?_
                      repeat walk_at "rd1"
                      exact ⟨⟨t, _, _, rfl, n0⟩, s5.trans s6⟩
                  · repeat walk_at "rd1"
                    refine v_ixS fl2 atc ?_
                    repeat walk_at "rd1"
                    refine ⟨xj, pj, 5, 1, rfl, dp_same s45 _ _ dpj, sbj, by omega, by omega, fun H6 s6 => ?_⟩
                    repeat walk_at "rd1"
                    have ek : sizP (sizB (sizS m)) (kindOf 101) pj = okO (gE 5 pj) := rfl
                    cases ez : gE 5 pj with
                    | false =>
                      repeat walk_at "rd1"
                      exact badj _ (s45.trans s6) (by rw [ek, ez]; rfl)
                    | true =>
                      have n0 := nxt 0 H6 s6 (by rw [ek, ez]; rfl)
                      rw [Int.add_zero] at n0
                      repeat walk_at "rd1"
                      refine v_ixS fl2 atc ?_
                      repeat walk_at "rd1"
                      refine v_ixS fl2 atc ?_
                      repeat walk_at "rd1"
                      exact ⟨⟨t, _, _, rfl, n0⟩, s5.trans s6⟩
                  · repeat walk_at "rd1"
                    refine v_ixS fl2 atc ?_
                    repeat walk_at "rd1"
                    refine v_ixS fl2 atc ?_
                    repeat walk_at "rd1"
                    refine ⟨xj, pj, rfl, dp_same s45 _ _ dpj, sbj, fun H6 s6 => ?_⟩
                    repeat walk_at "rd1"
                    have ek : sizP (sizB (sizS m)) (kindOf 112) pj = okO (pairsD pj) := rfl
                    cases ez : pairsD pj with
                    | false =>
                      repeat walk_at "rd1"
                      exact badj _ (s45.trans s6) (by rw [ek, ez]; rfl)
                    | true =>
                      have n0 := nxt 0 H6 s6 (by rw [ek, ez]; rfl)
                      rw [Int.add_zero] at n0
                      repeat walk_at "rd1"
                      refine v_ixS fl2 atc ?_
                      repeat walk_at "rd1"
                      exact ⟨⟨t, _, _, rfl, n0⟩, s5.trans s6⟩
                  · repeat walk_at "rd1"
                    refine v_ixS fl2 atc ?_
                    repeat walk_at "rd1"
                    refine v_ixS fl2 atc ?_
                    repeat walk_at "rd1"
                    refine v_ixS fl2 atc ?_
                    repeat walk_at "rd1"
                    refine ⟨xj, m, dep + 1, rfl, by omega, by omega, .inr ⟨pj, dp_same s45 _ _ dpj, sbj, fun H6 cc s6 hcc => ?_⟩⟩
                    repeat walk_at "rd1"
                    exact ⟨⟨t + cc, _, _, by rw [← Int.add_assoc (c + 1) t cc]; rfl, nxt cc H6 s6 hcc⟩, s5.trans s6⟩
                · rintro σ H5 ⟨⟨t, v7, v8, rfl, ht⟩, s5⟩
                  repeat walk_at "rd1"
                  refine ⟨⟨c + 1 + t, _, _, _, _, rfl, ?_⟩, (s2.trans s4).trans s5⟩
                  rw [sumO_take ez, e5]
                  rw [Int.add_assoc]
                  refine hc.add ?_
                  have h1 : CntR (some 1) 1 := rfl
                  refine h1.add ?_
                  rw [List.take_of_length_le] at ht
                  · exact ht
                  · have : fm.length = fm.cps.toList.length := by simp [Str.length]
                    rw [List.length_zipWith]
                    simp [rangeV]
                    omega
          · have ew : wordD pd = false := by simpa using ew
            have b0 := badp _ s2 (sizS_none (kindsD_word ew))
            cases dpx2 with
            | tup hs2 hx2 =>
              repeat walk_at "rd1"
              refine v_lenT hs2 ?_
              cases hx2 with
              | nil =>
                repeat walk_at "rd1"
                exact b0
              | cons h1 h2 =>
                repeat walk_at "rd1"
                refine v_ixT hs2 (at_of (j := 0) rfl rfl) ?_
                repeat walk_at "rd1"
                rename_i d1 _ _
                have nk : (kdD d1).isa .str = false := by
                  cases d1 <;> first | rfl | (simp [wordD] at ew)
                rw [nk]
                repeat walk_at "rd1"
                exact b0
            | _ =>
              repeat walk_at "rd1"
              exact b0
        · rintro σ H2 ⟨⟨c, v3, v4, v5, v6, rfl, hc⟩, s2⟩
          repeat walk_at "rd1"
          refine q _ _ s2 ?_
          rw [List.take_of_length_le (by rw [List.length_map]; omega)] at hc
          exact hc
    · have : ds = [] := by
        cases ds with
        | nil => rfl
        | cons d1 ds => simp at h1 hl; subst h1; simp at hl
      subst this
      have : xs = [] := by simpa using hl
      subst this
      repeat walk_at "rd1"
      refine w_exR hs ?_
      refine for_it (it_list (a := a)) (fun i σ H' => (∃ v3 v4 v5 v6 : Option V, σ = [some (.ref a), some (.int dep), some (.int 0), v3, v4, v5, v6]) ∧ Same H H') ⟨⟨none, none, none, none, rfl⟩, Same.refl _⟩ (fun i σ H' _ h => h.2.seq hs) (fun i x σ H' hx' _ => by simp at hx') ?_
      rintro σ H2 ⟨⟨v3, v4, v5, v6, rfl⟩, s2⟩
      repeat walk_at "rd1"
      exact q _ _ s2 rfl
  | _ =>
    repeat walk_at "rd1"
    exact q _ _ (Same.refl _) (Int.le_refl _)
theorem ok_l_count {P : Program} {w : World} {K : PySem.W.Frag} {mg : Str → Option Value} {base : Heap} (T : Wd w K mg) : ∀ n : Nat, Cal P w K mg base "_law_count" CX0 (n + 12) (sp_l_count K n)
  | 0 => by
    refine mk_cal T 24 rfl sc_l_count (m__law_count T) (fun _ _ _ _ _ _ us hl => match us, hl with | [_, _], _ => rfl) (fun vs H Q E h => ?_) (fun f cdv A outer s H vs Q E hr h => ?_)
    · obtain ⟨v, m, dep, rfl, _⟩ := h; rfl
    · obtain ⟨v, m, dep, rfl, hm, _⟩ := h
      exact absurd hm (Nat.not_lt_zero _)
  | n + 1 => l_count_next T n (ok_l_count T n)


/-! ### programs.py -/
def sp_has_word (K : PySem.W.Frag) : Sp := fun vs H Q _ => ∃ v d, vs = [v] ∧ Dp K H v d ∧ Q (.bl (wordD d)) H
theorem ok_has_word {P : Program} {w : World} {K : PySem.W.Frag} {mg : Str → Option Value} {base : Heap} (T : Wd w K mg) : Cal P w K mg base "_has_word" CX0 1 (sp_has_word K) := by
  refine mk_cal T 3 rfl sc_has_word (m__has_word T) (fun _ _ _ _ _ _ us hl => match us, hl with | [_], _ => rfl) (fun vs H Q E h => ?_) (fun f cdv A outer s H vs Q E hr h => ?_)
  · obtain ⟨v, d, rfl, _⟩ := h; rfl
  obtain ⟨v, d, rfl, hd, q⟩ := h
  refine ⟨_, (pss_one (ps_ret (pe_and (pe_callB (call_isiK (K := K) .tup) (by rfl) (m_isinstance T) (by decide +kernel) (pa_cons (pv 0) (pa_cons (pe_tyB (n := Kd.nm .tup) (by rfl) (m_tuple T) (by decide +kernel)) pa_nil))) (pe_and (pe_cmpR op_gt (pe_callB (callLen (K := K)) (by rfl) (m_len T) (by decide +kernel) (pa_cons (pv 0) pa_nil)) pe_int (nomark _)) (pe_one (pe_callB (call_isiK (K := K) .str) (by rfl) (m_isinstance T) (by decide +kernel) (pa_cons (pe_ix (ixS (K := K)) (pv 0) pe_int (fun _ _ => rfl)) (pa_cons (pe_tyB (n := Kd.nm .str) (by rfl) (m_str T) (by decide +kernel)) pa_nil)))))))), ?_⟩
  have hk := kd_dp hd
  cases hd with
  | tup hs hx =>
    repeat walk_at "rd1"
    refine v_lenT hs ?_
    cases hx with
    | nil =>
      repeat walk_at "rd1"
      exact q
    | cons h1 h2 =>
      repeat walk_at "rd1"
      refine w_bT (by simp) ?_
      repeat walk_at "rd1"
      refine v_ixT hs (at_of (j := 0) rfl rfl) ?_
      repeat walk_at "rd1"
      cases h1
      all_goals exact q
  | _ =>
    repeat walk_at "rd1"
    exact q
theorem rows_EXPRESSIONS_eq : rows_EXPRESSIONS = exprRows := rfl
def sp_expression_kinds (K : PySem.W.Frag) : Sp := fun vs H Q _ => ∃ v d, vs = [v] ∧ Dp K H v d ∧ ∀ r, KindsV K r (kindsD exprRows d) → Q r H
theorem ok_expression_kinds {P : Program} {w : World} {K : PySem.W.Frag} {mg : Str → Option Value} {base : Heap} (T : Wd w K mg) : Cal P w K mg base "_expression_kinds" CX0 2 (sp_expression_kinds K) := by
  have c_has_word := ok_has_word (P := P) (w := w) (base := base) T
  refine mk_cal T 4 rfl sc_expression_kinds (m__expression_kinds T) (fun _ _ _ _ _ _ us hl => match us, hl with | [_], _ => rfl) (fun vs H Q E h => ?_) (fun f cdv A outer s H vs Q E hr h => ?_)
  · obtain ⟨v, d, rfl, _⟩ := h; rfl
  obtain ⟨v, d, rfl, hd, q⟩ := h
  refine ⟨_, (pss_cons (ps_if (pw_or (pt_not (pt_val (pe_cal c_has_word (hr.mono (by decide)) pass0 (pa_cons (pv 0) pa_nil)))) (pw_or1 (pt_cmpR (opNiTab (t_EXPRESSIONS T)) (pe_ix (ixS (K := K)) (pv 0) pe_int (fun _ _ => rfl)) (pe_gref (by rfl) (m_EXPRESSIONS T)) (by with_unfolding_all rfl)))).pt (pss_one (ps_ret pe_non)) pss_nil)
  (pss_cons (ps_set (i := 1) sc_expression_kinds.nd rfl (Or.inl rfl) (pe_ix (ixTab (t_EXPRESSIONS T)) (pe_gref (by rfl) (m_EXPRESSIONS T)) (pe_ix (ixS (K := K)) (pv 0) pe_int (fun _ _ => rfl)) (fun _ _ => rfl)))
  (pss_one (ps_ret (pe_ifExp (pt_cmpR (opEq (K := K) (hu64 hr)) (pe_callB (callLen (K := K)) (by rfl) (m_len T) (by decide +kernel) (pa_cons (pv 1) pa_nil)) (pe_op op_sub (pe_callB (callLen (K := K)) (by rfl) (m_len T) (by decide +kernel) (pa_cons (pv 0) pa_nil)) pe_int) (nomark _)) (pv 1) pe_non))))), ?_⟩
  repeat walk_at "rd1"
  refine ⟨v, d, rfl, hd, ?_⟩
  repeat walk_at "rd1"
  cases e : wordD d with
  | false =>
    repeat walk_at "rd1"
    exact q _ (by rw [kindsD_word e]; rfl)
  | true =>
    obtain ⟨wd, ps, rfl⟩ := wordD_is e
    obtain ⟨a, xs, rfl, hs, hx⟩ := dp_word hd
    have hl := dpAll_len hx
    repeat walk_at "rd1"
    refine v_ixT hs (at_of (j := 0) rfl rfl) ?_
    repeat walk_at "rd1"
    rw [rows_EXPRESSIONS_eq]
    cases el : (exprRows).lookup wd with
    | none =>
      repeat walk_at "rd1"
      exact q _ (by rw [kindsD_none el]; rfl)
    | some ks =>
      repeat walk_at "rd1"
      refine v_ixT hs (at_of (j := 0) rfl rfl) ?_
      repeat walk_at "rd1"
      refine v_ixTab el fun t ht => ?_
      repeat walk_at "rd1"
      refine v_lenT (ht H) ?_
      repeat walk_at "rd1"
      refine v_lenT hs ?_
      repeat walk_at "rd1"
      refine w_b (fun h1 => ?_) (fun h1 => ?_)
      all_goals (repeat walk_at "rd1")
      · have h2 : ks.length = ps.length := by simp at h1; omega
        refine q _ ?_
        rw [kindsD_some el, if_pos h2]
        exact ⟨t, rfl, ht⟩
      · have h2 : ¬ ks.length = ps.length := by simp at h1; omega
        refine q _ ?_
        rw [kindsD_some el, if_neg h2]
        rfl
theorem rows_STATEMENTS_eq : rows_STATEMENTS = stmtRows := rfl
def sp_statement_kinds (K : PySem.W.Frag) : Sp := fun vs H Q _ => ∃ v d, vs = [v] ∧ Dp K H v d ∧ ∀ r, KindsV K r (kindsD stmtRows d) → Q r H
theorem ok_statement_kinds {P : Program} {w : World} {K : PySem.W.Frag} {mg : Str → Option Value} {base : Heap} (T : Wd w K mg) : Cal P w K mg base "_statement_kinds" CX0 2 (sp_statement_kinds K) := by
  have c_has_word := ok_has_word (P := P) (w := w) (base := base) T
  refine mk_cal T 5 rfl sc_statement_kinds (m__statement_kinds T) (fun _ _ _ _ _ _ us hl => match us, hl with | [_], _ => rfl) (fun vs H Q E h => ?_) (fun f cdv A outer s H vs Q E hr h => ?_)
  · obtain ⟨v, d, rfl, _⟩ := h; rfl
  obtain ⟨v, d, rfl, hd, q⟩ := h
  refine ⟨_, (pss_cons (ps_if (pw_or (pt_not (pt_val (pe_cal c_has_word (hr.mono (by decide)) pass0 (pa_cons (pv 0) pa_nil)))) (pw_or1 (pt_cmpR (opNiTab (t_STATEMENTS T)) (pe_ix (ixS (K := K)) (pv 0) pe_int (fun _ _ => rfl)) (pe_gref (by rfl) (m_STATEMENTS T)) (by with_unfolding_all rfl)))).pt (pss_one (ps_ret pe_non)) pss_nil)
  (pss_cons (ps_set (i := 1) sc_statement_kinds.nd rfl (Or.inl rfl) (pe_ix (ixTab (t_STATEMENTS T)) (pe_gref (by rfl) (m_STATEMENTS T)) (pe_ix (ixS (K := K)) (pv 0) pe_int (fun _ _ => rfl)) (fun _ _ => rfl)))
  (pss_one (ps_ret (pe_ifExp (pt_cmpR (opEq (K := K) (hu64 hr)) (pe_callB (callLen (K := K)) (by rfl) (m_len T) (by decide +kernel) (pa_cons (pv 1) pa_nil)) (pe_op op_sub (pe_callB (callLen (K := K)) (by rfl) (m_len T) (by decide +kernel) (pa_cons (pv 0) pa_nil)) pe_int) (nomark _)) (pv 1) pe_non))))), ?_⟩
  repeat walk_at "rd1"
  refine ⟨v, d, rfl, hd, ?_⟩
  repeat walk_at "rd1"
  cases e : wordD d with
  | false =>
    repeat walk_at "rd1"
    exact q _ (by rw [kindsD_word e]; rfl)
  | true =>
    obtain ⟨wd, ps, rfl⟩ := wordD_is e
    obtain ⟨a, xs, rfl, hs, hx⟩ := dp_word hd
    have hl := dpAll_len hx
    repeat walk_at "rd1"
    refine v_ixT hs (at_of (j := 0) rfl rfl) ?_
    repeat walk_at "rd1"
    rw [rows_STATEMENTS_eq]
    cases el : (stmtRows).lookup wd with
    | none =>
      repeat walk_at "rd1"
      exact q _ (by rw [kindsD_none el]; rfl)
    | some ks =>
      repeat walk_at "rd1"
      refine v_ixT hs (at_of (j := 0) rfl rfl) ?_
      repeat walk_at "rd1"
      refine v_ixTab el fun t ht => ?_
      repeat walk_at "rd1"
      refine v_lenT (ht H) ?_
      repeat walk_at "rd1"
      refine v_lenT hs ?_
      repeat walk_at "rd1"
      refine w_b (fun h1 => ?_) (fun h1 => ?_)
      all_goals (repeat walk_at "rd1")
      · have h2 : ks.length = ps.length := by simp at h1; omega
        refine q _ ?_
        rw [kindsD_some el, if_pos h2]
        exact ⟨t, rfl, ht⟩
      · have h2 : ¬ ks.length = ps.length := by simp at h1; omega
        refine q _ ?_
        rw [kindsD_some el, if_neg h2]
        rfl
def sp_is_expression (K : PySem.W.Frag) (n : Nat) : Sp := fun vs H Q _ => ∃ (v : V) (d : PyData) (m : Nat) (dep : Int), vs = [v, .int dep] ∧ Dp K H v d ∧ strB d = true ∧ m < n ∧ dep = 6 - (m : Int) ∧ ∀ H', Same H H' → Q (.bl (gE m d)) H'
theorem is_expression_next {P : Program} {w : World} {K : PySem.W.Frag} {mg : Str → Option Value} {base : Heap} (T : Wd w K mg) (n : Nat) (c_is_expression : Cal P w K mg base "_is_expression" CX0 (n + 3) (sp_is_expression K n)) : Cal P w K mg base "_is_expression" CX0 (n + 1 + 3) (sp_is_expression K (n + 1)) := by
  have c_expression_kinds := ok_expression_kinds (P := P) (w := w) (base := base) T
  have c_is_key := ok_is_key (P := P) (w := w) (base := base) T
  have c_is_value := ok_is_value (P := P) (w := w) (base := base) T
  refine mk_cal T 6 rfl sc_is_expression (m__is_expression T) (fun _ _ _ _ _ _ us hl => match us, hl with | [_, _], _ => rfl) (fun vs H Q E h => ?_) (fun f cdv A outer s H vs Q E hr h => ?_)
  · obtain ⟨v, d, m, dep, rfl, _⟩ := h; rfl
  obtain ⟨v, d, m, dep, rfl, hd, sb, hm, ed, q⟩ := h
  have hr0 := hr
  replace hr := hr.mono (show 3 ≤ n + 3 by omega)
  refine ⟨_, (pss_cons (ps_set (i := 2) sc_is_expression.nd rfl (Or.inl rfl) (pe_cal c_expression_kinds (hr.mono (by decide)) pass0 (pa_cons (pv 0) pa_nil)))
  (pss_cons (ps_if (pw_or (pt_cmpR opIsN (pv 2) pe_non (nomark _)) (pw_or1 (pt_cmpR op_gt (pv 1) (pe_gint (by rfl) (m_DEEPEST T)) (nomark _)))).pt (pss_one (ps_ret pe_bl)) pss_nil)
  (pss_cons (ps_for PassesOwn.never rfl (pi_zip (K := K) (by rfl) (m_zip T) (pa_cons (pv 2) (pa_cons (pe_slice (slA (K := K)) (pv 0) (po_some pe_int) po_none) pa_nil))) (pg_tupK (K := K) rfl (pgs_cons (pg_name (i := 3) sc_is_expression.nd rfl (Or.inl rfl)) (pgs_cons (pg_name (i := 4) sc_is_expression.nd rfl (Or.inl rfl)) pgs_nil)))
   (pss_cons (ps_if (pw_and (pt_cmpR (opEq (K := K) (hu64 hr)) (pv 3) pe_str (nomark _)) (pw_and1 (pt_not (pt_val (pe_cal c_is_key (hr.mono (by decide)) pass0 (pa_cons (pv 4) pa_nil)))))).pt (pss_one (ps_ret pe_bl)) pss_nil)
  (pss_cons (ps_if (pw_and (pt_cmpR (opEq (K := K) (hu64 hr)) (pv 3) pe_str (nomark _)) (pw_and1 (pt_not (pt_val (pe_cal c_is_value (hr.mono (by decide)) pass0 (pa_cons (pv 4) pa_nil)))))).pt (pss_one (ps_ret pe_bl)) pss_nil)
  (pss_one (ps_if (pw_and (pt_cmpR (opEq (K := K) (hu64 hr)) (pv 3) pe_str (nomark _)) (pw_and1 (pt_not (pt_val (pe_cal c_is_expression hr0 pass0 (pa_cons (pv 4) (pa_cons (pe_op (opAdd (K := K)) (pv 1) pe_int) pa_nil))))))).pt (pss_one (ps_ret pe_bl)) pss_nil)))))
  (pss_one (ps_ret pe_bl))))), ?_⟩
  repeat walk_at "rd1"
  refine ⟨v, d, rfl, hd, fun r hk => ?_⟩
  repeat walk_at "rd1"
  cases e : kindsD exprRows d with
  | none =>
    rw [e] at hk
    have hk : r = .non := hk
    subst hk
    repeat walk_at "rd1"
    exact qb (q _ (Same.refl _)) (gE_none e)
  | some ks =>
    rw [e] at hk
    obtain ⟨t, rfl, ht⟩ := hk
    obtain ⟨wd, ps, rfl, hlk, hlen, hps⟩ := kindsD_len e
    obtain ⟨a, xs, rfl, hs, hx⟩ := dp_word hd
    have hl := dpAll_len hx
    repeat walk_at "rd1"
    refine w_b (fun h1 => ?_) (fun h1 => ?_)
    · repeat walk_at "rd1"
      have : m = 0 := by simp at h1; omega
      subst this
      exact q _ (Same.refl _)
    · obtain ⟨m, rfl⟩ : ∃ j, m = j + 1 := ⟨m - 1, by simp at h1; omega⟩
      repeat walk_at "rd1"
      refine v_sl1 hs fun p H1 A1 => ?_
      repeat walk_at "rd1"
      have s1 := A1.same
      refine ⟨t, p, _, _, rfl, .inr ⟨ht H1, SqT.of A1.at_, ?_⟩⟩
      have hkx : (ks.map V.str).length = xs.length := by rw [List.length_map]; omega
      refine RZ.for_zipT hkx (fun i σ H' => (∃ v3 v4 : Option V, σ = [some (.ref a), some (.int dep), some (.ref t), v3, v4]) ∧ Same H1 H' ∧ ∀ (j : Nat) (k : Str) (p : PyData), j < i → ks[j]? = some k → ps[j]? = some p → exprP (gE m) k p = true)
        ⟨⟨none, none, rfl⟩, Same.refl _, fun _ _ _ h => absurd h (Nat.not_lt_zero _)⟩ (fun i σ H' h => ⟨ht H', Same.seqT h.2.1 (SqT.of A1.at_)⟩) ?_ ?_
      · rintro i x y P σ H2 hxk hy ⟨⟨v3, v4, rfl⟩, s2, good⟩ hP
        have s3 : Same H2 (upd H2 P (.tup [x, y])) := same_upd hP
        have e3 : upd H2 P (.tup [x, y]) P = some (.tup [x, y]) := upd_same
        generalize upd H2 P (.tup [x, y]) = H3 at s3 e3
        have hi : i < ps.length := by
          have := (List.getElem?_eq_some_iff.mp hy).1
          omega
        obtain ⟨x', pd, hx', hpd, dpx⟩ := dpAll_get hx hi
        rw [hx'] at hy; cases hy
        rw [List.getElem?_map] at hxk
        obtain ⟨k, hk, rfl⟩ := Option.map_eq_some_iff.mp hxk
        have sbp := strBs_get (strB_parts sb) hpd
        have s4 := (s1.trans s2).trans s3
        obtain ⟨kn, ek, ev⟩ := kn_dp (dp_same s4 _ _ dpx) sbp
        have fin : exprP (gE m) k pd = false → gE (m + 1) (.tuple (.str wd :: ps)) = false := fun h => by rw [gE_some e, hps]; exact allP_false hk hpd h
        have stp : exprP (gE m) k pd = true → ∀ (j : Nat) (k : Str) (p : PyData), j < i + 1 → ks[j]? = some k → ps[j]? = some p → exprP (gE m) k p = true := by
          intro h j k2 p2 hj h2 h3
          by_cases ej : j = i
          · subst ej; rw [hk] at h2; rw [hpd] at h3; cases h2; cases h3; exact h
          · exact good j k2 p2 (by omega) h2 h3
        refine w_gtup (SqT.of e3) rfl ?_
        repeat walk_at "rd1"
        have inv : ∀ H4, Same H3 H4 → exprP (gE m) k pd = true → (∃ v3 v4 : Option V, [some (V.ref a), some (V.int dep), some (V.ref t), some (V.str k), some y] = [some (V.ref a), some (V.int dep), some (V.ref t), v3, v4]) ∧ Same H1 H4 ∧ ∀ (j : Nat) (k : Str) (p : PyData), j < i + 1 → ks[j]? = some k → ps[j]? = some p → exprP (gE m) k p = true :=
          fun H4 s5 h => ⟨⟨_, _, rfl⟩, (s2.trans s3).trans s5, stp h⟩
        refine w_s (fun k1 => ?_) (fun k1 => ?_)
        · subst k1
          repeat walk_at "rd1"
          refine ⟨y, _, rfl, kn, fun H4 s5 => ?_⟩
          repeat walk_at "rd1"
          rw [ek]
          have e5 : exprP (gE m) "name" pd = keyD pd := rfl
          cases ez : keyD pd with
          | false =>
            repeat walk_at "rd1"
            exact qb (q _ (s4.trans s5)) (fin (e5.trans ez))
          | true =>
            repeat walk_at "rd1"
            exact inv _ s5 (e5.trans ez)
        · repeat walk_at "rd1"
          refine w_s (fun k2 => ?_) (fun k2 => ?_)
          · subst k2
            repeat walk_at "rd1"
            refine ⟨y, _, rfl, kn, ?_⟩
            repeat walk_at "rd1"
            rw [ev]
            have e5 : exprP (gE m) "value" pd = valD pd := rfl
            cases ez : valD pd with
            | false =>
              repeat walk_at "rd1"
              exact qb (q _ s4) (fin (e5.trans ez))
            | true =>
              repeat walk_at "rd1"
              exact inv _ (Same.refl _) (e5.trans ez)
          · repeat walk_at "rd1"
            refine w_s (fun k3 => ?_) (fun k3 => ?_)
            · subst k3
              repeat walk_at "rd1"
              refine ⟨y, pd, m, dep + 1, rfl, dp_same s4 _ _ dpx, sbp, by omega, by omega, fun H4 s5 => ?_⟩
              repeat walk_at "rd1"
              have e5 : exprP (gE m) "expression" pd = gE m pd := rfl
              cases ez : gE m pd with
              | false =>
                repeat walk_at "rd1"
                exact qb (q _ (s4.trans s5)) (fin (e5.trans ez))
              | true =>
                repeat walk_at "rd1"
                exact inv _ s5 (e5.trans ez)
            · repeat walk_at "rd1"
              exact inv _ (Same.refl _) (by unfold exprP; rw [if_neg k1, if_neg k2, if_neg k3])
      · rintro σ H2 ⟨⟨v3, v4, rfl⟩, s2, good⟩
        repeat walk_at "rd1"
        refine qb (q _ (s1.trans s2)) ?_
        rw [gE_some e, hps]
        exact allP_of fun i k p h2 h3 => good i k p (by have := (List.getElem?_eq_some_iff.mp h2).1; rw [List.length_map] at hkx; rw [List.length_map]; omega) h2 h3
theorem ok_is_expression {P : Program} {w : World} {K : PySem.W.Frag} {mg : Str → Option Value} {base : Heap} (T : Wd w K mg) : ∀ n : Nat, Cal P w K mg base "_is_expression" CX0 (n + 3) (sp_is_expression K n)
  | 0 => by
    refine mk_cal T 6 rfl sc_is_expression (m__is_expression T) (fun _ _ _ _ _ _ us hl => match us, hl with | [_, _], _ => rfl) (fun vs H Q E h => ?_) (fun f cdv A outer s H vs Q E hr h => ?_)
    · obtain ⟨v, d, m, dep, rfl, _⟩ := h; rfl
    · obtain ⟨v, d, m, dep, rfl, hd, sb, hm, _⟩ := h
      exact absurd hm (Nat.not_lt_zero _)
  | n + 1 => is_expression_next T n (ok_is_expression T n)

def sp_is_pair (K : PySem.W.Frag) : Sp := fun vs H Q _ => ∃ v d, vs = [v] ∧ Dp K H v d ∧ strB d = true ∧ ∀ H', Same H H' → Q (.bl (pairD d)) H'
theorem ok_is_pair {P : Program} {w : World} {K : PySem.W.Frag} {mg : Str → Option Value} {base : Heap} (T : Wd w K mg) : Cal P w K mg base "_is_pair" CX0 10 (sp_is_pair K) := by
  have c_is_key := ok_is_key (P := P) (w := w) (base := base) T
  refine mk_cal T 7 rfl sc_is_pair (m__is_pair T) (fun _ _ _ _ _ _ us hl => match us, hl with | [_], _ => rfl) (fun vs H Q E h => ?_) (fun f cdv A outer s H vs Q E hr h => ?_)
  · obtain ⟨v, d, rfl, _⟩ := h; rfl
  have c_is_expression := ok_is_expression (P := P) (w := w) (base := base) T 6
  obtain ⟨v, d, rfl, hd, sb, q⟩ := h
  have hk := kd_dp hd
  refine ⟨_, (pss_one (ps_ret (pe_and (pe_callB (call_isiK (K := K) .tup) (by rfl) (m_isinstance T) (by decide +kernel) (pa_cons (pv 0) (pa_cons (pe_tyB (n := Kd.nm .tup) (by rfl) (m_tuple T) (by decide +kernel)) pa_nil))) (pe_and (pe_cmpR (opEq (K := K) (hu64 hr)) (pe_callB (callLen (K := K)) (by rfl) (m_len T) (by decide +kernel) (pa_cons (pv 0) pa_nil)) pe_int (nomark _)) (pe_and (pe_cal c_is_key (hr.mono (by decide)) pass0 (pa_cons (pe_ix (ixS (K := K)) (pv 0) pe_int (fun _ _ => rfl)) pa_nil)) (pe_one (pe_cal c_is_expression (hr.mono (by decide)) pass0 (pa_cons (pe_ix (ixS (K := K)) (pv 0) pe_int (fun _ _ => rfl)) (pa_cons pe_int pa_nil))))))))), ?_⟩
  cases hd with
  | tup hs hx =>
    rename_i a xs ds
    have hl := dpAll_len hx
    repeat walk_at "rd1"
    refine v_lenT hs ?_
    repeat walk_at "rd1"
    refine w_b (fun h1 => ?_) (fun h1 => ?_)
    · obtain ⟨x, y, rfl⟩ : ∃ x y, xs = [x, y] := by
        match xs, h1 with
        | [x, y], _ => exact ⟨x, y, rfl⟩
        | [], h1 => simp at h1
        | [_], h1 => simp at h1
        | _ :: _ :: _ :: _, h1 => simp at h1; omega
      cases hx with
      | cons d1 hx =>
        cases hx with
        | cons d2 hx =>
          cases hx
          rename_i p1 p2
          simp only [strB, strB.strBs, Bool.and_eq_true] at sb
          obtain ⟨kn, ek, _⟩ := kn_dp d1 sb.1
          repeat walk_at "rd1"
          refine v_ixT hs (at_of (j := 0) rfl rfl) ?_
          repeat walk_at "rd1"
          refine ⟨_, _, rfl, kn, fun H1 s1 => ?_⟩
          repeat walk_at "rd1"
          rw [ek]
          cases ez : keyD p1 with
          | false =>
            repeat walk_at "rd1"
            exact qb (q _ s1) (by simp [pairD, ez])
          | true =>
            repeat walk_at "rd1"
            refine v_ixT (Same.seqT s1 hs) (at_of (j := 1) rfl rfl) ?_
            repeat walk_at "rd1"
            refine ⟨_, _, 5, 1, rfl, dp_same s1 _ _ d2, sb.2.1, by omega, by omega, fun H2 s2 => ?_⟩
            exact qb (q _ (s1.trans s2)) (by simp [pairD, ez])
    · repeat walk_at "rd1"
      refine qb (q _ (Same.refl _)) ?_
      unfold pairD
      split
      · rename_i e
        cases e
        simp at h1 hl
        omega
      · rfl
  | _ =>
    repeat walk_at "rd1"
    exact q _ (Same.refl _)
def sp_are_pairs (K : PySem.W.Frag) : Sp := fun vs H Q _ => ∃ v d, vs = [v] ∧ Dp K H v d ∧ strB d = true ∧ ∀ H', Same H H' → Q (.bl (pairsD d)) H'
theorem ok_are_pairs {P : Program} {w : World} {K : PySem.W.Frag} {mg : Str → Option Value} {base : Heap} (T : Wd w K mg) : Cal P w K mg base "_are_pairs" CX0 11 (sp_are_pairs K) := by
  have c_is_pair := ok_is_pair (P := P) (w := w) (base := base) T
  refine mk_cal T 8 rfl sc_are_pairs (m__are_pairs T) (fun _ _ _ _ _ _ us hl => match us, hl with | [_], _ => rfl) (fun vs H Q E h => ?_) (fun f cdv A outer s H vs Q E hr h => ?_)
  · obtain ⟨v, d, rfl, _⟩ := h; rfl
  obtain ⟨v, d, rfl, hd, sb, q⟩ := h
  have hk := kd_dp hd
  refine ⟨_, (pss_cons (ps_if (pw_or (pt_not (pt_val (pe_callB (call_isiK (K := K) .lst) (by rfl) (m_isinstance T) (by decide +kernel) (pa_cons (pv 0) (pa_cons (pe_tyB (n := Kd.nm .lst) (by rfl) (m_list T) (by decide +kernel)) pa_nil))))) (pw_or1 (pt_cmpR op_gt (pe_callB (callLen (K := K)) (by rfl) (m_len T) (by decide +kernel) (pa_cons (pv 0) pa_nil)) (pe_gint (by rfl) (m_MOST_PAIRS T)) (nomark _)))).pt (pss_one (ps_ret pe_bl)) pss_nil)
  (pss_cons (ps_if (pt_not (pt_val (pe_callB (cr_all rfl) (by rfl) (m_all T) (by decide +kernel) (pa_cons (pe_lc (own := [("pair", 1)]) (g := gName 1) rfl sc_are_pairs.nd (pi_list (pv 0)) (blkOk_by (own := [("pair", 1)]) (N := N_are_pairs) (sc := defScope s_are_pairs) (by decide +kernel)) (fun _ _ _ _ _ => pg_name (i := 1) sc_are_pairs.nd rfl (Or.inl rfl)) (fun _ _ _ _ _ => pts_nil) (fun _ _ _ _ _ => (pe_cal c_is_pair (hr.mono (by decide)) pass0 (pa_cons (pv 1) pa_nil)))) pa_nil)))) (pss_one (ps_ret pe_bl)) pss_nil)
  (pss_cons (ps_set (i := 2) sc_are_pairs.nd rfl (Or.inr rfl) (pe_lc (own := [("pair", 1)]) (g := gName 1) rfl sc_are_pairs.nd (pi_list (pv 0)) (blkOk_by (own := [("pair", 1)]) (N := N_are_pairs) (sc := defScope s_are_pairs) (by decide +kernel)) (fun _ _ _ _ _ => pg_name (i := 1) sc_are_pairs.nd rfl (Or.inl rfl)) (fun _ _ _ _ _ => pts_nil) (fun _ _ _ _ _ => (pe_ix (ixS (K := K)) (pv 1) pe_int (fun _ _ => rfl)))))
  (pss_one (ps_ret (pe_callB (cr_all rfl) (by rfl) (m_all T) (by decide +kernel) (pa_cons (pe_lc (own := [("name", 3)]) (g := gName 3) rfl sc_are_pairs.nd (pi_list (pv 2)) (blkOk_by (own := [("name", 3)]) (N := N_are_pairs) (sc := defScope s_are_pairs) (by decide +kernel)) (fun _ _ _ _ _ => pg_name (i := 3) sc_are_pairs.nd rfl (Or.inl rfl)) (fun _ _ _ _ _ => pts_nil) (fun _ _ _ _ _ => (pe_cmpR (opEq (K := K) (hu64 hr)) (pe_count (K := K) (pv 2) (pa_cons (pv 3) pa_nil)) pe_int (nomark _)))) pa_nil))))))), ?_⟩
  cases hd with
  | lst hs hx =>
    rename_i a xs ds
    have hl := dpAll_len hx
    repeat walk_at "rd1"
    refine v_lenL hs ?_
    repeat walk_at "rd1"
    refine w_b (fun h1 => ?_) (fun h1 => ?_)
    · repeat walk_at "rd1"
      refine qb (q _ (Same.refl _)) ?_
      simp [pairsD] at h1 ⊢
      intro; omega
    · have h8 : ds.length ≤ 8 := by simp at h1; omega
      repeat walk_at "rd1"
      refine w_exR hs ?_
      refine lci (ys := (ds.map pairD).map V.bl) it_list (by simp; omega) (by omega) (fun H' s => s.seq hs) (fun _ => rfl) ?_ ?_
      · intro i x y H' hx' hy s1 Q' k
        have hi : i < ds.length := by have := (List.getElem?_eq_some_iff.mp hx').1; omega
        obtain ⟨x2, pd, h2, hpd, dpx⟩ := dpAll_get hx hi
        rw [hx'] at h2; cases h2
        rw [List.map_map, List.getElem?_map, hpd] at hy; cases hy
        repeat walk_at "rd1"
        exact ⟨x, pd, rfl, dp_same s1 _ _ dpx, strBs_get (by simpa [strB] using sb) hpd, k⟩
      · intro D1 H1 _ s1 e1
        repeat walk_at "rd1"
        refine v_all (SqL.of e1) ?_
        repeat walk_at "rd1"
        have e2 : (ds.map pairD).all id = ds.all pairD := by rw [List.all_map]; rfl
        rw [e2]
        cases ea : ds.all pairD with
        | false =>
          repeat walk_at "rd1"
          exact qb (q _ s1) (by simp [pairsD, ea])
        | true =>
          repeat walk_at "rd1"
          refine w_exR (s1.seq hs) ?_
          refine lci (ys := (ds.map firstD).map V.str) it_list (by simp; omega) (by omega) (fun H' s => (s1.trans s).seq hs) (fun _ => rfl) ?_ ?_
          · intro i x y H' hx' hy s2 Q' k
            have hi : i < ds.length := by have := (List.getElem?_eq_some_iff.mp hx').1; omega
            obtain ⟨x2, pd, h2, hpd, dpx⟩ := dpAll_get hx hi
            rw [hx'] at h2; cases h2
            rw [List.map_map, List.getElem?_map, hpd] at hy; cases hy
            obtain ⟨z, e, rfl, ez⟩ := firstD_key (List.all_eq_true.mp ea pd (List.mem_of_getElem? hpd))
            obtain ⟨a2, xs2, rfl, hs2, _⟩ := dp_word (dp_same (s1.trans s2) _ _ dpx)
            repeat walk_at "rd1"
            refine v_ixT hs2 (at_of (j := 0) rfl rfl) ?_
            exact k _ (Same.refl _)
          · intro D2 H2 _ s2 e3
            repeat walk_at "rd1"
            refine w_exR (SqL.of e3) ?_
            refine lci (ys := ((ds.map firstD).map fun z => (ds.map firstD).count z == 1).map V.bl) it_list (by simp) (by simp; omega) (fun H' s => s.seq (SqL.of e3)) (fun _ => rfl) ?_ ?_
            · intro i x y H' hx' hy s3 Q' k
              rw [List.getElem?_map] at hx'
              obtain ⟨z, hz, rfl⟩ := Option.map_eq_some_iff.mp hx'
              rw [List.map_map, List.getElem?_map, hz] at hy; cases hy
              repeat walk_at "rd1"
              refine ⟨ty_lst (s3.seq (SqL.of e3)), ?_⟩
              repeat walk_at "rd1"
              refine v_cntS (s3.seq (SqL.of e3)) ?_
              repeat walk_at "rd1"
              refine qb (k _ (Same.refl _)) ?_
              simp [Bool.beq_eq_decide_eq]
              omega
            · intro D3 H3 _ s3 e4
              repeat walk_at "rd1"
              refine v_all (SqL.of e4) ?_
              refine qb (q _ ((s1.trans s2).trans s3)) ?_
              have h8' : decide (ds.length ≤ 8) = true := by simpa using h8
              simp only [pairsD, ea, h8', Bool.true_and]
              simp only [List.all_map, Function.comp_def, id]
  | _ =>
    repeat walk_at "rd1"
    exact q _ (Same.refl _)

def sp_block (K : PySem.W.Frag) (n : Nat) : Sp := fun vs H Q _ => ∃ (v : V) (m : Nat) (dep : Int), vs = [v, .int dep] ∧ m ≤ n ∧ dep = 6 - (m : Int) ∧
  ((∃ kk, KdOf K H v kk ∧ kk ≠ .lst ∧ Q .non H) ∨ ∃ d, Dp K H v d ∧ strB d = true ∧ ∀ H', Same H H' → Q (optV (sizB (sizS m) d)) H')
def sp_stmt (K : PySem.W.Frag) (n : Nat) : Sp := fun vs H Q _ => ∃ (v : V) (d : PyData) (m : Nat) (dep : Int), vs = [v, .int dep] ∧ m ≤ n ∧ dep = 6 - (m : Int) ∧
  Dp K H v d ∧ strB d = true ∧ ∀ H', Same H H' → Q (optV (sizS m d)) H'
def sp_part (K : PySem.W.Frag) (n : Nat) : Sp := fun vs H Q _ => ∃ (k : Str) (v : V) (d : PyData) (m : Nat) (dep : Int), vs = [.str k, v, .int dep] ∧ m < n ∧ dep = 5 - (m : Int) ∧
  Dp K H v d ∧ strB d = true ∧ ∀ H', Same H H' → Q (optV (sizP (sizB (sizS m)) k d)) H'
theorem optV_ok {b : Bool} {Q : VK} {H : Hp} (q : Q (optV (okO b)) H) : (b = true → Q (.int 0) H) ∧ (b = false → Q .non H) := by
  cases b
  · exact ⟨fun h => (nomatch h), fun _ => q⟩
  · exact ⟨fun _ => q, fun h => (nomatch h)⟩
theorem part_next {P : Program} {w : World} {K : PySem.W.Frag} {mg : Str → Option Value} {base : Heap} (T : Wd w K mg) (n : Nat) (c_block_size : Cal P w K mg base "_block_size" CX0 (14 + 3 * n) (sp_block K n)) : Cal P w K mg base "_part_size" CX0 (15 + 3 * n) (sp_part K (n + 1)) := by
  have c_is_key := ok_is_key (P := P) (w := w) (base := base) T
  have c_are_pairs := ok_are_pairs (P := P) (w := w) (base := base) T
  have c_is_expression := ok_is_expression (P := P) (w := w) (base := base) T 6
  rw [show 15 + 3 * n = (14 + 3 * n) + 1 by omega]
  refine mk_cal T 9 rfl sc_part_size (m__part_size T) (fun _ _ _ _ _ _ us hl => match us, hl with | [_, _, _], _ => rfl) (fun vs H Q E h => ?_) (fun f cdv A outer s H vs Q E hr h => ?_)
  · obtain ⟨k, v, d, m, dep, rfl, _⟩ := h; rfl
  obtain ⟨k, v, d, m, dep, rfl, hm, ed, hd, sb, q⟩ := h
  have hr0 := hr
  replace hr := hr.mono (show 14 ≤ 14 + 3 * n by omega)
  have hk := kd_dp hd
  obtain ⟨kn, ek, _⟩ := kn_dp hd sb
  refine ⟨_, (pss_cons (ps_if (pt_cmpR (opEq (K := K) (hu64 hr)) (pv 0) pe_str (nomark _)) (pss_one (ps_ret (pe_cal c_block_size hr0 pass0 (pa_cons (pv 1) (pa_cons (pe_op (opAdd (K := K)) (pv 2) pe_int) pa_nil))))) pss_nil)
  (pss_cons (ps_if (pt_cmpR (opEq (K := K) (hu64 hr)) (pv 0) pe_str (nomark _)) (pss_one (ps_set (i := 3) sc_part_size.nd rfl (Or.inl rfl) (pe_cal c_is_key (hr.mono (by decide)) pass0 (pa_cons (pv 1) pa_nil)))) (pss_one (ps_if (pt_cmpR (opEq (K := K) (hu64 hr)) (pv 0) pe_str (nomark _)) (pss_one (ps_set (i := 3) sc_part_size.nd rfl (Or.inl rfl) (pe_cal c_are_pairs (hr.mono (by decide)) pass0 (pa_cons (pv 1) pa_nil)))) (pss_one (ps_set (i := 3) sc_part_size.nd rfl (Or.inl rfl) (pe_cal c_is_expression (hr.mono (by decide)) pass0 (pa_cons (pv 1) (pa_cons pe_int pa_nil))))))))
  (pss_one (ps_ret (pe_ifExp (pt_tru (K := K) (pv 3)) pe_int pe_non))))), ?_⟩
  repeat walk_at "rd1"
  refine w_s (fun k1 => ?_) (fun k1 => ?_)
  · subst k1
    repeat walk_at "rd1"
    exact ⟨v, m, dep + 1, rfl, by omega, by omega, .inr ⟨d, hd, sb, q⟩⟩
  · repeat walk_at "rd1"
    refine w_s (fun k2 => ?_) (fun k2 => ?_)
    · subst k2
      repeat walk_at "rd1"
      refine ⟨v, _, rfl, kn, fun H1 s1 => ?_⟩
      have q1 := optV_ok (q H1 s1)
      repeat walk_at "rd1"
      rw [ek]
      cases ez : keyD d with
      | false =>
        repeat walk_at "rd1"
        exact q1.2 ez
      | true =>
        repeat walk_at "rd1"
        exact q1.1 ez
    · repeat walk_at "rd1"
      refine w_s (fun k3 => ?_) (fun k3 => ?_)
      · subst k3
        repeat walk_at "rd1"
        refine ⟨v, _, rfl, hd, sb, fun H1 s1 => ?_⟩
        have q1 := optV_ok (q H1 s1)
        repeat walk_at "rd1"
        cases ez : pairsD d with
        | false =>
          repeat walk_at "rd1"
          exact q1.2 ez
        | true =>
          repeat walk_at "rd1"
          exact q1.1 ez
      · repeat walk_at "rd1"
        refine ⟨v, d, 5, 1, rfl, hd, sb, by omega, by omega, fun H1 s1 => ?_⟩
        have e0 : sizP (sizB (sizS m)) k d = okO (gE 5 d) := by unfold sizP; rw [if_neg k1, if_neg k2, if_neg k3]
        have q1 := q H1 s1
        rw [e0] at q1
        replace q1 := optV_ok q1
        repeat walk_at "rd1"
        cases ez : gE 5 d with
        | false =>
          repeat walk_at "rd1"
          exact q1.2 ez
        | true =>
          repeat walk_at "rd1"
          exact q1.1 ez
theorem part_zero {P : Program} {w : World} {K : PySem.W.Frag} {mg : Str → Option Value} {base : Heap} (T : Wd w K mg) : Cal P w K mg base "_part_size" CX0 12 (sp_part K 0) := by
  refine mk_cal T 9 rfl sc_part_size (m__part_size T) (fun _ _ _ _ _ _ us hl => match us, hl with | [_, _, _], _ => rfl) (fun vs H Q E h => ?_) (fun f cdv A outer s H vs Q E hr h => ?_)
  · obtain ⟨k, v, d, m, dep, rfl, _⟩ := h; rfl
  · obtain ⟨k, v, d, m, dep, rfl, hm, _⟩ := h
    exact absurd hm (Nat.not_lt_zero _)
theorem stmt_next {P : Program} {w : World} {K : PySem.W.Frag} {mg : Str → Option Value} {base : Heap} (T : Wd w K mg) (n : Nat) (c_part_size : Cal P w K mg base "_part_size" CX0 (12 + 3 * n) (sp_part K n)) : Cal P w K mg base "_statement_size" CX0 (13 + 3 * n) (sp_stmt K n) := by
  have c_statement_kinds := ok_statement_kinds (P := P) (w := w) (base := base) T
  rw [show 13 + 3 * n = (12 + 3 * n) + 1 by omega]
  refine mk_cal T 10 rfl sc_statement_size (m__statement_size T) (fun _ _ _ _ _ _ us hl => match us, hl with | [_, _], _ => rfl) (fun vs H Q E h => ?_) (fun f cdv A outer s H vs Q E hr h => ?_)
  · obtain ⟨v, d, m, dep, rfl, _⟩ := h; rfl
  obtain ⟨v, d, m, dep, rfl, hm, ed, hd, sb, q⟩ := h
  have hr0 := hr
  replace hr := hr.mono (show 12 ≤ 12 + 3 * n by omega)
  refine ⟨_, (pss_cons (ps_set (i := 2) sc_statement_size.nd rfl (Or.inl rfl) (pe_cal c_statement_kinds (hr.mono (by decide)) pass0 (pa_cons (pv 0) pa_nil)))
  (pss_cons (ps_if (pw_or (pt_cmpR opIsN (pv 2) pe_non (nomark _)) (pw_or1 (pt_cmpR op_gt (pv 1) (pe_gint (by rfl) (m_DEEPEST T)) (nomark _)))).pt (pss_one (ps_ret pe_non)) pss_nil)
  (pss_cons (ps_set (i := 3) sc_statement_size.nd rfl (Or.inl rfl) pe_int)
  (pss_cons (ps_for PassesOwn.never rfl (pi_zip (K := K) (by rfl) (m_zip T) (pa_cons (pv 2) (pa_cons (pe_slice (slA (K := K)) (pv 0) (po_some pe_int) po_none) pa_nil))) (pg_tupK (K := K) rfl (pgs_cons (pg_name (i := 4) sc_statement_size.nd rfl (Or.inl rfl)) (pgs_cons (pg_name (i := 5) sc_statement_size.nd rfl (Or.inl rfl)) pgs_nil)))
   (pss_cons (ps_set (i := 6) sc_statement_size.nd rfl (Or.inl rfl) (pe_cal c_part_size hr0 pass0 (pa_cons (pv 4) (pa_cons (pv 5) (pa_cons (pv 1) pa_nil)))))
  (pss_cons (ps_if (pt_cmpR opIsN (pv 6) pe_non (nomark _)) (pss_one (ps_ret pe_non)) pss_nil)
  (pss_one (ps_aug (i := 3) sc_statement_size.nd rfl (Or.inl rfl) (pv 6) ip_add)))))
  (pss_one (ps_ret (pv 3))))))), ?_⟩
  repeat walk_at "rd1"
  refine ⟨v, d, rfl, hd, fun r hk => ?_⟩
  repeat walk_at "rd1"
  cases e : kindsD stmtRows d with
  | none =>
    rw [e] at hk
    have hk : r = .non := hk
    subst hk
    repeat walk_at "rd1"
    exact qv (q _ (Same.refl _)) (by rw [sizS_none e]; rfl)
  | some ks =>
    rw [e] at hk
    obtain ⟨t, rfl, ht⟩ := hk
    obtain ⟨wd, ps, rfl, hlk, hlen, hps⟩ := kindsD_len e
    obtain ⟨a, xs, rfl, hs, hx⟩ := dp_word hd
    have hl := dpAll_len hx
    repeat walk_at "rd1"
    refine w_b (fun h1 => ?_) (fun h1 => ?_)
    · repeat walk_at "rd1"
      have : m = 0 := by simp at h1; omega
      subst this
      exact q _ (Same.refl _)
    · obtain ⟨m, rfl⟩ : ∃ j, m = j + 1 := ⟨m - 1, by simp at h1; omega⟩
      rw [sizS_some e, hps] at q
      repeat walk_at "rd1"
      refine v_sl1 hs fun p H1 A1 => ?_
      repeat walk_at "rd1"
      have s1 := A1.same
      refine ⟨t, p, _, _, rfl, .inr ⟨ht H1, SqT.of A1.at_, ?_⟩⟩
      have hkx : (ks.map V.str).length = xs.length := by rw [List.length_map]; omega
      refine RZ.for_zipT hkx (fun i σ H' => (∃ (tot : Nat) (v4 v5 v6 : Option V), σ = [some (.ref a), some (.int dep), some (.ref t), some (.int tot), v4, v5, v6] ∧ addO (some 1) (sumO ((List.zipWith (sizP (sizB (sizS m))) ks ps).take i)) = some tot) ∧ Same H1 H')
        ⟨⟨1, none, none, none, rfl, rfl⟩, Same.refl _⟩ (fun i σ H' h => ⟨ht H', Same.seqT h.2 (SqT.of A1.at_)⟩) ?_ ?_
      · rintro i x y P σ H2 hxk hy ⟨⟨tot, v4, v5, v6, rfl, et⟩, s2⟩ hP
        have s3 : Same H2 (upd H2 P (.tup [x, y])) := same_upd hP
        have e3 : upd H2 P (.tup [x, y]) P = some (.tup [x, y]) := upd_same
        generalize upd H2 P (.tup [x, y]) = H3 at s3 e3
        have hi : i < ps.length := by
          have := (List.getElem?_eq_some_iff.mp hy).1
          omega
        obtain ⟨x', pd, hx', hpd, dpx⟩ := dpAll_get hx hi
        rw [hx'] at hy; cases hy
        rw [List.getElem?_map] at hxk
        obtain ⟨k, hk, rfl⟩ := Option.map_eq_some_iff.mp hxk
        have sbp := strBs_get (strB_parts sb) hpd
        have s4 := (s1.trans s2).trans s3
        have ez : (List.zipWith (sizP (sizB (sizS m))) ks ps)[i]? = some (sizP (sizB (sizS m)) k pd) := by rw [List.getElem?_zipWith, hk, hpd]
        refine w_gtup (SqT.of e3) rfl ?_
        repeat walk_at "rd1"
        refine ⟨k, y, pd, m, dep, rfl, by omega, by omega, dp_same s4 _ _ dpx, sbp, fun H4 s5 => ?_⟩
        repeat walk_at "rd1"
        cases eo : sizP (sizB (sizS m)) k pd with
        | none =>
          rw [eo] at ez
          repeat walk_at "rd1"
          refine qv (q _ (s4.trans s5)) ?_
          rw [sumO_none ez]; rfl
        | some o =>
          rw [eo] at ez
          rw [show optV (some o) = V.int o from rfl]
          repeat walk_at "rd1"
          refine ⟨⟨tot + o, _, _, _, by simp only [Int.natCast_add]; rfl, ?_⟩, (s2.trans s3).trans s5⟩
          rw [sumO_take ez]
          cases es : sumO ((List.zipWith (sizP (sizB (sizS m))) ks ps).take i) with
          | none => rw [es] at et; cases et
          | some y =>
            rw [es] at et
            simp [addO] at et ⊢
            omega
      · rintro σ H2 ⟨⟨tot, v4, v5, v6, rfl, et⟩, s2⟩
        repeat walk_at "rd1"
        refine qv (q _ (s1.trans s2)) ?_
        rw [List.take_of_length_le (by rw [List.length_zipWith, List.length_map]; omega)] at et
        rw [et]
        rfl
theorem block_next {P : Program} {w : World} {K : PySem.W.Frag} {mg : Str → Option Value} {base : Heap} (T : Wd w K mg) (n : Nat) (c_statement_size : Cal P w K mg base "_statement_size" CX0 (13 + 3 * n) (sp_stmt K n)) : Cal P w K mg base "_block_size" CX0 (14 + 3 * n) (sp_block K n) := by
  rw [show 14 + 3 * n = (13 + 3 * n) + 1 by omega]
  refine mk_cal T 11 rfl sc_block_size (m__block_size T) (fun _ _ _ _ _ _ us hl => match us, hl with | [_, _], _ => rfl) (fun vs H Q E h => ?_) (fun f cdv A outer s H vs Q E hr h => ?_)
  · obtain ⟨v, m, dep, rfl, _⟩ := h; rfl
  obtain ⟨v, m, dep, rfl, hm, ed, h⟩ := h
  refine ⟨_, (pss_cons (ps_if (pt_not (pt_val (pe_callB (call_isiK (K := K) .lst) (by rfl) (m_isinstance T) (by decide +kernel) (pa_cons (pv 0) (pa_cons (pe_tyB (n := Kd.nm .lst) (by rfl) (m_list T) (by decide +kernel)) pa_nil))))) (pss_one (ps_ret pe_non)) pss_nil)
  (pss_cons (ps_set (i := 2) sc_block_size.nd rfl (Or.inl rfl) pe_int)
  (pss_cons (ps_for PassesOwn.never rfl (pi_list (pv 0)) (pg_name (i := 3) sc_block_size.nd rfl (Or.inl rfl))
   (pss_cons (ps_set (i := 4) sc_block_size.nd rfl (Or.inl rfl) (pe_cal c_statement_size hr pass0 (pa_cons (pv 3) (pa_cons (pv 1) pa_nil))))
  (pss_cons (ps_if (pt_cmpR opIsN (pv 4) pe_non (nomark _)) (pss_one (ps_ret pe_non)) pss_nil)
  (pss_one (ps_aug (i := 2) sc_block_size.nd rfl (Or.inl rfl) (pv 4) ip_add)))))
  (pss_one (ps_ret (pv 2)))))), ?_⟩
  rcases h with ⟨kk, hk, nk, q⟩ | ⟨d, hd, sb, q⟩
  · repeat walk_at "rd1"
    have e : kk.isa .lst = false := by cases kk <;> first | rfl | exact absurd rfl nk
    rw [e]
    repeat walk_at "rd1"
    exact q
  · have hk := kd_dp hd
    cases hd with
    | lst hs hx =>
      rename_i a xs ds
      have hl := dpAll_len hx
      repeat walk_at "rd1"
      refine w_exR hs ?_
      refine for_it (it_list (a := a)) (fun i σ H' => (∃ (tot : Nat) (v3 v4 : Option V), σ = [some (.ref a), some (.int dep), some (.int tot), v3, v4] ∧ sumO ((ds.map (sizS m)).take i) = some tot) ∧ Same H H')
        ⟨⟨0, none, none, rfl, rfl⟩, Same.refl _⟩ (fun i σ H' _ h => h.2.seq hs) ?_ ?_
      · rintro i x σ H2 hx' ⟨⟨tot, v3, v4, rfl, et⟩, s2⟩
        have hi : i < ds.length := by have := (List.getElem?_eq_some_iff.mp hx').1; omega
        obtain ⟨x2, pd, h2, hpd, dpx⟩ := dpAll_get hx hi
        rw [hx'] at h2; cases h2
        have ez : (ds.map (sizS m))[i]? = some (sizS m pd) := by rw [List.getElem?_map, hpd]; rfl
        repeat walk_at "rd1"
        refine ⟨x, pd, m, dep, rfl, hm, ed, dp_same s2 _ _ dpx, strBs_get (by simpa [strB] using sb) hpd, fun H4 s5 => ?_⟩
        repeat walk_at "rd1"
        cases eo : sizS m pd with
        | none =>
          rw [eo] at ez
          repeat walk_at "rd1"
          refine qv (q _ (s2.trans s5)) ?_
          simp only [sizB]
          rw [sumO_none ez]; rfl
        | some o =>
          rw [eo] at ez
          rw [show optV (some o) = V.int o from rfl]
          repeat walk_at "rd1"
          refine ⟨⟨tot + o, _, _, by simp only [Int.natCast_add]; rfl, ?_⟩, s2.trans s5⟩
          rw [sumO_take ez, et]
          rfl
      · rintro σ H2 ⟨⟨tot, v3, v4, rfl, et⟩, s2⟩
        repeat walk_at "rd1"
        refine qv (q _ s2) ?_
        rw [List.take_of_length_le (by rw [List.length_map]; omega)] at et
        simp only [sizB]
        rw [et]
        rfl
    | _ =>
      repeat walk_at "rd1"
      exact q _ (Same.refl _)
theorem ok_block_size {P : Program} {w : World} {K : PySem.W.Frag} {mg : Str → Option Value} {base : Heap} (T : Wd w K mg) : ∀ n : Nat, Cal P w K mg base "_block_size" CX0 (14 + 3 * n) (sp_block K n)
  | 0 => block_next T 0 (stmt_next T 0 (part_zero T))
  | n + 1 => by
    have c1 := part_next T n (ok_block_size (P := P) (w := w) (base := base) T n)
    rw [show 15 + 3 * n = 12 + 3 * (n + 1) by omega] at c1
    exact block_next T (n + 1) (stmt_next T (n + 1) c1)
def sp_is_program (K : PySem.W.Frag) : Sp := fun vs H Q _ => ∃ v, vs = [v] ∧ ((∃ kk, KdOf K H v kk ∧ kk ≠ .lst ∧ Q (.bl false) H) ∨ ∃ d, Dp K H v d ∧ strB d = true ∧ ∀ H', Same H H' → Q (.bl (progD d)) H')
theorem ok_is_program {P : Program} {w : World} {K : PySem.W.Frag} {mg : Str → Option Value} {base : Heap} (T : Wd w K mg) : Cal P w K mg base "is_program" CX0 30 (sp_is_program K) := by
  refine mk_cal T 12 rfl sc_is_program (m_is_program T) (fun _ _ _ _ _ _ us hl => match us, hl with | [_], _ => rfl) (fun vs H Q E h => ?_) (fun f cdv A outer s H vs Q E hr h => ?_)
  · obtain ⟨v, rfl, _⟩ := h; rfl
  have c_block_size := ok_block_size (P := P) (w := w) (base := base) T 5
  obtain ⟨v, rfl, h⟩ := h
  refine ⟨_, (pss_cons (ps_set (i := 1) sc_is_program.nd rfl (Or.inl rfl) (pe_cal c_block_size (hr.mono (by decide)) pass0 (pa_cons (pv 0) (pa_cons pe_int pa_nil))))
  (pss_one (ps_ret (pe_and (pe_cmpR opNotN (pv 1) pe_non (nomark _)) (pe_one (pe_cmpR op_le (pv 1) (pe_gint (by rfl) (m_MOST_STATEMENTS T)) (nomark _))))))), ?_⟩
  repeat walk_at "rd1"
  refine ⟨v, 5, 1, rfl, by omega, by omega, ?_⟩
  rcases h with ⟨kk, hk, nk, q⟩ | ⟨d, hd, sb, q⟩
  · refine .inl ⟨kk, hk, nk, ?_⟩
    repeat walk_at "rd1"
    exact q
  · refine .inr ⟨d, hd, sb, fun H1 s1 => ?_⟩
    unfold progD at q
    cases e : sizB (sizS 5) d with
    | none =>
      rw [e] at q
      repeat walk_at "rd1"
      exact q _ s1
    | some n =>
      rw [e] at q
      rw [show optV (some n) = V.int n from rfl]
      repeat walk_at "rd1"
      exact qb (q _ s1) (by show decide (n ≤ 200) = decide ((n : Int) ≤ 200); exact decide_eq_decide.mpr (by omega))


/-! ### data that holds none of these objects (those that are still changed) -/
section
variable {K : PySem.W.Frag} {H H' : Hp} {S : List Addr} {b p : Addr} {o : HO}
def hid (S : List Addr) (H : Hp) : Hp := fun x => if x ∈ S then none else H x
def Live (S : List Addr) (H : Hp) : Prop := ∀ x ∈ S, ∃ o, H x = some o
abbrev DS (K : PySem.W.Frag) (S : List Addr) (H : Hp) (v : V) (d : PyData) : Prop := Dp K (hid S H) v d
theorem hid_le : Same (hid S H) H := fun x u q => by
  unfold hid at q
  split at q
  · cases q
  · exact q
theorem hid_same (s : Same H H') : Same (hid S H) (hid S H') := fun x u q => by
  unfold hid at q ⊢
  split at q
  · cases q
  · rename_i h
    rw [if_neg h]
    exact s _ _ q
theorem hid_but (s : SameBut b H H') (hb : b ∈ S) : Same (hid S H) (hid S H') := fun x u q => by
  unfold hid at q ⊢
  split at q
  · cases q
  · rename_i h
    rw [if_neg h]
    exact s _ _ q (fun e => h (e ▸ hb))
theorem hid_sub {T : List Addr} (h : ∀ x ∈ T, x ∈ S) : Same (hid S H) (hid T H) := fun x u q => by
  unfold hid at q ⊢
  split at q
  · cases q
  · rename_i n
    rw [if_neg fun e => n (h _ e)]
    exact q
theorem Live.notin (L : Live S H) (h : H p = none) : p ∉ S := fun e => by
  obtain ⟨o, q⟩ := L p e
  rw [h] at q; cases q
theorem hid_new (A : Alloc H p o H') (L : Live S H) : hid S H' p = some o := by
  unfold hid
  rw [if_neg (L.notin A.nw)]
  exact A.at_
theorem Live.same (L : Live S H) (s : Same H H') : Live S H' := fun x e => by
  obtain ⟨o, q⟩ := L x e
  exact ⟨o, s _ _ q⟩
theorem Live.but (L : Live S H) (s : SameBut b H H') (h : H' b = some o) : Live S H' := fun x e => by
  obtain ⟨u, q⟩ := L x e
  by_cases n : x = b
  · subst n; exact ⟨o, h⟩
  · exact ⟨u, s _ _ q n⟩
theorem ds_same {v : V} {d : PyData} (s : Same H H') (h : DS K S H v d) : DS K S H' v d := dp_same (hid_same s) _ _ h
theorem ds_but {v : V} {d : PyData} (s : SameBut b H H') (hb : b ∈ S) (h : DS K S H v d) : DS K S H' v d := dp_same (hid_but s hb) _ _ h
theorem ds_sub {T : List Addr} {v : V} {d : PyData} (s : ∀ x ∈ T, x ∈ S) (h : DS K S H v d) : DS K T H v d := dp_same (hid_sub s) _ _ h
theorem ds_dp {v : V} {d : PyData} (h : DS K S H v d) : Dp K H v d := dp_same hid_le _ _ h
theorem dss_same {vs : List V} {ds : List PyData} (s : Same H H') (h : DpAll K (hid S H) vs ds) : DpAll K (hid S H') vs ds := dpAll_same (hid_same s) _ _ h
theorem dss_but {vs : List V} {ds : List PyData} (s : SameBut b H H') (hb : b ∈ S) (h : DpAll K (hid S H) vs ds) : DpAll K (hid S H') vs ds := dpAll_same (hid_but s hb) _ _ h
theorem ds_tup {xs : List V} {ds : List PyData} (A : Alloc H p (.tup xs) H') (L : Live S H) (h : DpAll K (hid S H) xs ds) : DS K S H' (.ref p) (.tuple ds) := .tup (SqT.of (hid_new A L)) (dss_same A.same h)
theorem ds_lst {xs : List V} {ds : List PyData} (A : Alloc H p (.lst xs) H') (L : Live S H) (h : DpAll K (hid S H) xs ds) : DS K S H' (.ref p) (.list ds) := .lst (SqL.of (hid_new A L)) (dss_same A.same h)
theorem ds_close {xs : List V} {ds : List PyData} (h : H p = some (.lst xs)) (n : p ∉ S) (g : DpAll K (hid (p :: S) H) xs ds) : DS K S H (.ref p) (.list ds) := by
  refine .lst (SqL.of ?_) (dpAll_same (hid_sub fun x hx => List.mem_cons_of_mem _ hx) _ _ g)
  unfold hid
  rw [if_neg n]
  exact h
theorem live_cons {o : HO} (L : Live S H) (h : H p = some o) : Live (p :: S) H := fun x hx => by
  rcases List.mem_cons.mp hx with rfl | hx
  · exact ⟨o, h⟩
  · exact L x hx
theorem dpAll_app {vs us : List V} {ds es : List PyData} (h : DpAll K H vs ds) (g : DpAll K H us es) : DpAll K H (vs ++ us) (ds ++ es) := by
  induction vs generalizing ds with
  | nil => cases h; exact g
  | cons v vs ih =>
    cases h with
    | cons a b => exact .cons a (ih b)
end
theorem menu_get {K : PySem.W.Frag} {H : Hp} {xs : List V} {ds : List PyData} {i : Nat} (g : DpAll K H xs ds) (sb : strB.strBs ds = true) (hi : i < ds.length) : ∃ v d, xs[i]? = some v ∧ Dp K H v d ∧ strB d = true := by
  obtain ⟨v, d, h1, h2, h3⟩ := dpAll_get g hi
  exact ⟨v, d, h1, h3, strBs_get sb h2⟩
theorem dpAll_snoc {K : PySem.W.Frag} {H H' : Hp} {S : List Addr} {xs : List V} {ds : List PyData} {v : V} {d : PyData} (s : Same H H') (g : DpAll K (hid S H) xs ds) (h : DS K S H' v d) : DpAll K (hid S H') (xs ++ [v]) (ds ++ [d]) := dpAll_app (dss_same s g) (.cons h .nil)
/-- a small list of data, as it stands -/
def LstD (K : PySem.W.Frag) (S : List Addr) (H : Hp) (v : V) : Prop := ∃ l ys es, v = .ref l ∧ H l = some (.lst ys) ∧ DpAll K (hid S H) ys es ∧ strB.strBs es = true ∧ ys.length ≤ 2 ∧ l ∉ S
theorem LstD.same {K : PySem.W.Frag} {S : List Addr} {H H' : Hp} {v : V} (h : LstD K S H v) (s : Same H H') : LstD K S H' v := by
  obtain ⟨l, ys, es, rfl, e, g, sb, hl, n⟩ := h
  exact ⟨l, ys, es, rfl, s _ _ e, dss_same s g, sb, hl, n⟩
theorem LstD.but {K : PySem.W.Frag} {S : List Addr} {H H' : Hp} {v : V} {b : Addr} (h : LstD K S H v) (s : SameBut b H H') (hb : b ∈ S) : LstD K S H' v := by
  obtain ⟨l, ys, es, rfl, e, g, sb, hl, n⟩ := h
  exact ⟨l, ys, es, rfl, s _ _ e (fun z => n (z ▸ hb)), dss_but s hb g, sb, hl, n⟩
theorem LstD.new {K : PySem.W.Frag} {S : List Addr} {H H' : Hp} {p : Addr} {ys : List V} {es : List PyData} (A : Alloc H p (.lst ys) H') (L : Live S H) (g : DpAll K (hid S H) ys es) (sb : strB.strBs es = true) (hl : ys.length ≤ 2) : LstD K S H' (.ref p) := ⟨p, ys, es, rfl, A.at_, dss_same A.same g, sb, hl, L.notin A.nw⟩
theorem strBs_app {xs ys : List PyData} (h : strB.strBs xs = true) (g : strB.strBs ys = true) : strB.strBs (xs ++ ys) = true := by
  induction xs with
  | nil => exact g
  | cons x xs ih =>
    simp only [strB.strBs, Bool.and_eq_true] at h
    simp only [List.cons_append, strB.strBs, Bool.and_eq_true]
    exact ⟨h.1, ih h.2⟩
theorem menu_all {p : V → Bool} {xs : List V} (h : xs.all p = true) : ∀ v ∈ xs, p v = true := fun v hv => List.all_eq_true.mp h v hv
def flatS (v : V) : Bool := flatV v && strB (datV v)
theorem flatS_is {v : V} (h : flatS v = true) : flatV v = true ∧ strB (datV v) = true := by
  unfold flatS at h
  exact Bool.and_eq_true_iff.mp h
/-- a draw, as it is used -/
theorem drw {K : PySem.W.Frag} {H : Hp} {b r : Addr} {ns : List Int} {at_ many : Int} {Q : VK} {E : XK} (hB : BoxAt K H b r ns at_) (m : Nat) (e : many = m) (hm : 0 < m) (q : ∀ (j : Nat) (H' : Hp), j < m → BoxAt K H' b r ns (at_ + 1) → SameBut b H H' → Q (.int j) H') : sp_l_draw K [.ref b, .int many] H Q E := by
  refine ⟨b, r, ns, at_, many, rfl, hB, by omega, fun v h0 h1 B => ?_⟩
  have e : v = ((v.toNat : Nat) : Int) := by omega
  rw [e]
  exact q v.toNat _ (by omega) B .upd
theorem form_pos {w f : Str} (h : formRows.lookup w = some f) : 1 ≤ f.length := by
  have key : ∀ r ∈ formRows, 1 ≤ r.2.length := by decide +kernel
  exact key _ (lookup_memS h)
theorem form_at {i : Nat} (hi : i < 22) : ∃ w f : Str, ((rowsV formRows).map fun kv => kV kv.1)[i]? = some (V.str w) ∧ formRows.lookup w = some f ∧ w.length ≤ 1000 := by
  have key : ∀ i, i < 22 → (formRows[i]?.bind fun r => if formRows.lookup r.1 = some r.2 ∧ r.1.length ≤ 1000 then some r else none) = formRows[i]? ∧ formRows[i]?.isSome := by decide +kernel
  obtain ⟨k1, k2⟩ := key i hi
  obtain ⟨r, hr⟩ := Option.isSome_iff_exists.mp k2
  rw [hr] at k1
  simp only [Option.bind_some] at k1
  split at k1
  · rename_i h
    refine ⟨r.1, r.2, ?_, h.1, h.2⟩
    rw [List.getElem?_map]
    unfold rowsV
    rw [List.getElem?_map, hr]
    rfl
  · cases k1
theorem signs_get {z : Str} {j : Nat} {v : V} (h : (signsV z)[j]? = some v) : ∃ c, z.cps.toList[j]? = some c ∧ v = .str ⟨#[c]⟩ := by
  unfold signsV at h
  rw [List.getElem?_map] at h
  obtain ⟨c, hc, rfl⟩ := Option.map_eq_some_iff.mp h
  exact ⟨c, hc, rfl⟩
theorem sq_hid {K : PySem.W.Frag} {H : Hp} {S : List Addr} {a : Addr} {xs : List V} (h : SqT K (hid S H) a xs) : SqT K H a xs := Same.seqT hid_le h
theorem dpAll_dropLast {K : PySem.W.Frag} {H : Hp} : ∀ {vs : List V} {ds : List PyData}, DpAll K H vs ds → DpAll K H vs.dropLast ds.dropLast
  | [], [], _ => .nil
  | [v], [d], _ => .nil
  | v :: u :: vs, d :: e :: ds, h => by
    cases h with
    | cons a b => exact .cons a (dpAll_dropLast b)
  | [], _ :: _, h => by cases h
  | _ :: _, [], h => by cases h
  | [_], _ :: _ :: _, h => by
    cases h with
    | cons a b => cases b
  | _ :: _ :: _, [_], h => by
    cases h with
    | cons a b => cases b
theorem strBs_dropLast : ∀ {ds : List PyData}, strB.strBs ds = true → strB.strBs ds.dropLast = true
  | [], _ => rfl
  | [_], _ => rfl
  | d :: e :: ds, h => by
    rw [strB.strBs, Bool.and_eq_true] at h
    rw [List.dropLast_cons₂, strB.strBs, Bool.and_eq_true]
    exact ⟨h.1, strBs_dropLast h.2⟩
theorem prog_cnt {d : PyData} {c : Int} (h : CntR (sizB (sizS 5) d) c) : progD d = decide (c ≤ 200) := by
  unfold progD
  cases e : sizB (sizS 5) d with
  | none =>
    rw [e] at h
    have h1 : (1000 : Int) ≤ c := h
    exact (decide_eq_false (by omega)).symm
  | some n =>
    rw [e] at h
    have h1 : c = n := h
    exact decide_eq_decide.mpr (by omega)
theorem dpAll_rep {K : PySem.W.Frag} {H : Hp} {xs : List V} {ds : List PyData} (h : DpAll K H xs ds) : ∀ n : Nat, DpAll K H (List.replicate n xs).flatten (List.replicate n ds).flatten
  | 0 => .nil
  | n + 1 => by
    rw [List.replicate_succ, List.replicate_succ, List.flatten_cons, List.flatten_cons]
    exact dpAll_app h (dpAll_rep h n)
theorem strBs_rep {ds : List PyData} (h : strB.strBs ds = true) : ∀ n : Nat, strB.strBs (List.replicate n ds).flatten = true
  | 0 => rfl
  | n + 1 => by
    rw [List.replicate_succ, List.flatten_cons]
    exact strBs_app h (strBs_rep h n)
def emitD : PyData := .tuple [.str "emit", .tuple [.str "value", .int 1]]
def longD (n : Nat) : PyData := .list [.tuple [.str "effect", .str "a", .list (List.replicate n [emitD]).flatten], .tuple [.str "scope", .str "b"], .tuple [.str "scope", .str "c"]]
theorem siz_rep (n : Nat) : sumO ((List.replicate n [emitD]).flatten.map (sizS 4)) = some n := by
  induction n with
  | zero => rfl
  | succ n ih =>
    rw [List.replicate_succ, List.flatten_cons, List.map_append, List.map_cons, List.map_nil, List.singleton_append, sumO, ih]
    have e : sizS 4 emitD = some 1 := by decide +kernel
    rw [e]
    simp [addO]
    omega
theorem prog_long (n : Nat) : progD (longD n) = decide (n + 3 ≤ 200) := by
  have e1 : kindsD stmtRows (.tuple [.str "effect", .str "a", .list (List.replicate n [emitD]).flatten]) = some (["name", "block"] : List Str) := by
    rw [kindsD_some (ks := ["name", "block"]) (by decide +kernel)]
    rfl
  have e2 : sizS 5 (.tuple [.str "effect", .str "a", .list (List.replicate n [emitD]).flatten]) = some (n + 1) := by
    rw [sizS_some e1]
    have h1 : sizP (sizB (sizS 4)) ("name" : Str) (.str "a") = some 0 := by decide +kernel
    have h2 : sizP (sizB (sizS 4)) ("block" : Str) (.list (List.replicate n [emitD]).flatten) = some n := by
      have h3 : sizP (sizB (sizS 4)) ("block" : Str) (.list (List.replicate n [emitD]).flatten) = sizB (sizS 4) (.list (List.replicate n [emitD]).flatten) := rfl
      rw [h3, sizB, siz_rep]
    simp only [partsD, List.zipWith_cons_cons, List.zipWith_nil_left, h1, h2, sumO, addO]
    simp
    omega
  have e3 : sizS 5 (.tuple [.str "scope", .str "b"]) = some 1 := by decide +kernel
  have e4 : sizS 5 (.tuple [.str "scope", .str "c"]) = some 1 := by decide +kernel
  unfold progD longD
  simp only [sizB, List.map_cons, List.map_nil, e2, e3, e4, sumO, addO]
theorem str_long (n : Nat) : strB (longD n) = true := by
  have e := strBs_rep (ds := [emitD]) (by decide +kernel) n
  have e1 : strB (.list (List.replicate n [emitD]).flatten) = true := by rw [strB]; exact e
  unfold longD
  have h1 : strB (.str "effect") = true := by decide +kernel
  have h2 : strB (.str "a") = true := by decide +kernel
  have h3 : strB (.tuple [.str "scope", .str "b"]) = true := by decide +kernel
  have h4 : strB (.tuple [.str "scope", .str "c"]) = true := by decide +kernel
  have h5 : strB (.tuple [.str "effect", .str "a", .list (List.replicate n [emitD]).flatten]) = true := by
    rw [strB]; simp only [strB.strBs, h1, h2, e1, Bool.and_true]
  rw [strB]
  simp only [strB.strBs, h3, h4, h5, Bool.and_true]
def pairK (i : Nat) : PyData := .tuple [.str ⟨#[97 + i]⟩, .tuple [.str "value", .int (0 + (i : Int))]]
theorem letter_at {i : Nat} (h : i < 9) : atI ("abcdefghi" : Str).cps.toList (0 + (i : Int)) = some (97 + i) := by
  rw [Int.zero_add]
  refine atI_nat ?_
  match i, h with
  | 0, _ | 1, _ | 2, _ | 3, _ | 4, _ | 5, _ | 6, _ | 7, _ | 8, _ => rfl
theorem prog_pairs {j : Nat} (h : j < 4) : progD (.list [.tuple [.str "store", .str "a", .list ((List.range (6 + j)).map pairK)]]) = decide (6 + j ≤ 8) ∧ strB (.list ((List.range (6 + j)).map pairK)) = true := by
  match j, h with
  | 0, _ | 1, _ | 2, _ | 3, _ => exact ⟨by decide +kernel, by decide +kernel⟩
/-- a thing that is no program -/
def BadT (K : PySem.W.Frag) (H : Hp) (v : V) : Prop := (∃ kk, KdOf K H v kk ∧ kk ≠ .lst) ∨ ∃ d, Dp K H v d ∧ strB d = true ∧ progD d = false
theorem BadT.same {K : PySem.W.Frag} {H H' : Hp} {v : V} (h : BadT K H v) (s : Same H H') : BadT K H' v := by
  rcases h with ⟨kk, h, n⟩ | ⟨d, h, sb, e⟩
  · exact .inl ⟨kk, kd_same h s, n⟩
  · exact .inr ⟨d, dp_same s _ _ h, sb, e⟩
theorem dpAll_tupA {K : PySem.W.Frag} {H H' : Hp} {p : Addr} {xs : List V} {ds : List PyData} (A : Alloc H p (.tup xs) H') (h : DpAll K H xs ds) : Dp K H' (.ref p) (.tuple ds) := A.dpT h
theorem dp_lstA {K : PySem.W.Frag} {H H' : Hp} {p : Addr} {xs : List V} {ds : List PyData} (A : Alloc H p (.lst xs) H') (h : DpAll K H xs ds) : Dp K H' (.ref p) (.list ds) := .lst (SqL.of A.at_) (dpAll_same A.same _ _ h)
theorem w_dnewK {σ : L2.St} {H : Hp} {Q : VK} (q : ∀ p H', Alloc H p (.dK []) H' → Q (.ref p) H') : tDNewK σ H Q := fun p hp => q p _ ⟨hp, rfl⟩


/-! ### drawn programs -/
def sp_l_some_name (K : PySem.W.Frag) : Sp := fun vs H Q _ => ∃ (b r : Addr) (ns : List Int) (at_ : Int), vs = [.ref b] ∧ BoxAt K H b r ns at_ ∧
  ∀ (v : V) (H' : Hp) (at2 : Int), flatS v = true → BoxAt K H' b r ns at2 → SameBut b H H' → Q v H'
theorem ok_l_some_name {P : Program} {w : World} {K : PySem.W.Frag} {mg : Str → Option Value} {base : Heap} (T : Wd w K mg) : Cal P w K mg base "_law_some_name" CX0 2 (sp_l_some_name K) := by
  have c_l_draw := ok_l_draw (P := P) (w := w) (base := base) T
  refine mk_cal T 25 rfl sc_l_some_name (m__law_some_name T) (fun _ _ _ _ _ _ us hl => match us, hl with | [_], _ => rfl) (fun vs H Q E h => ?_) (fun f cdv A outer s H vs Q E hr h => ?_)
  · obtain ⟨b, r, ns, at_, rfl, _⟩ := h; rfl
  obtain ⟨b, r, ns, at_, rfl, hB, q⟩ := h
  refine ⟨_, (pss_cons (ps_if (pt_cmpR (opEq (K := K) (hu64 hr)) (pe_cal c_l_draw (hr.mono (by decide)) pass0 (pa_cons (pv 0) (pa_cons pe_int pa_nil))) pe_int (nomark _)) (pss_one (ps_ret (pe_ix (ixS (K := K)) (pe_lst (pa_cons pe_str (pa_cons pe_str (pa_cons pe_str (pa_cons pe_int (pa_cons pe_non (pa_cons pe_str pa_nil))))))) (pe_cal c_l_draw (hr.mono (by decide)) pass0 (pa_cons (pv 0) (pa_cons pe_int pa_nil))) (fun _ _ => rfl)))) pss_nil)
  (pss_one (ps_ret (pe_ix (ixS (K := K)) (pe_lst (pa_cons pe_str (pa_cons pe_str (pa_cons pe_str (pa_cons pe_str pa_nil))))) (pe_cal c_l_draw (hr.mono (by decide)) pass0 (pa_cons (pv 0) (pa_cons pe_int pa_nil))) (fun _ _ => rfl))))), ?_⟩
  repeat walk_at "rd1"
  refine drw hB 40 rfl (by decide) fun j H1 hj B1 S1 => ?_
  repeat walk_at "rd1"
  refine w_b (fun h1 => ?_) (fun h1 => ?_)
  · repeat walk_at "rd1"
    refine al (by simp) fun p H2 A2 => ?_
    have S2 := A2.but S1
    repeat walk_at "rd1"
    refine drw (B1.same A2.same) 6 rfl (by decide) fun i H3 hi B3 S3 => ?_
    have e3 := S3 _ _ A2.at_ (ne_of_none B1.bx A2.nw).symm
    refine v_ixL (SqL.of e3) (at_of rfl (List.getElem?_eq_getElem hi)) ?_
    exact q _ _ _ (menu_all (by decide +kernel) _ (List.getElem_mem hi)) B3 (S2.trans S3)
  · repeat walk_at "rd1"
    refine al (by simp) fun p H2 A2 => ?_
    have S2 := A2.but S1
    repeat walk_at "rd1"
    refine drw (B1.same A2.same) 4 rfl (by decide) fun i H3 hi B3 S3 => ?_
    have e3 := S3 _ _ A2.at_ (ne_of_none B1.bx A2.nw).symm
    refine v_ixL (SqL.of e3) (at_of rfl (List.getElem?_eq_getElem hi)) ?_
    exact q _ _ _ (menu_all (by decide +kernel) _ (List.getElem_mem hi)) B3 (S2.trans S3)
def sp_l_some_expr (K : PySem.W.Frag) (n : Nat) : Sp := fun vs H Q _ => ∃ (b r : Addr) (ns : List Int) (at_ : Int) (S : List Addr) (dep : Int), vs = [.ref b, .int dep] ∧ dep.toNat < n ∧ BoxAt K H b r ns at_ ∧ b ∈ S ∧ Live S H ∧
  ∀ (v : V) (d : PyData) (H' : Hp) (at2 : Int), DS K S H' v d → strB d = true → BoxAt K H' b r ns at2 → SameBut b H H' → Q v H'
theorem l_some_expr_next {P : Program} {w : World} {K : PySem.W.Frag} {mg : Str → Option Value} {base : Heap} (T : Wd w K mg) (n : Nat) (c_l_some_expr : Cal P w K mg base "_law_some_expr" CX0 (n + 3) (sp_l_some_expr K n)) : Cal P w K mg base "_law_some_expr" CX0 (n + 1 + 3) (sp_l_some_expr K (n + 1)) := by
  have c_l_draw := ok_l_draw (P := P) (w := w) (base := base) T
  have c_l_value := ok_l_value (P := P) (w := w) (base := base) T
  have c_l_some_name := ok_l_some_name (P := P) (w := w) (base := base) T
  refine mk_cal T 26 rfl sc_l_some_expr (m__law_some_expr T) (fun _ _ _ _ _ _ us hl => match us, hl with | [_, _], _ => rfl) (fun vs H Q E h => ?_) (fun f cdv A outer s H vs Q E hr h => ?_)
  · obtain ⟨b, r, ns, at_, S, dep, rfl, _⟩ := h; rfl
  obtain ⟨b, r, ns, at_, S, dep, rfl, hn, hB, hbS, hL, q⟩ := h
  have hr0 := hr
  replace hr := hr.mono (show 3 ≤ n + 3 by omega)
  refine ⟨_, (pss_cons (ps_if (pt_cmpR (opEq (K := K) (hu64 hr)) (pe_cal c_l_draw (hr.mono (by decide)) pass0 (pa_cons (pv 0) (pa_cons pe_int pa_nil))) pe_int (nomark _)) (pss_one (ps_ret (pe_ix (ixS (K := K)) (pe_lst (pa_cons (pe_tup (pa_cons pe_str (pa_cons pe_int pa_nil))) (pa_cons (pe_tup (pa_cons pe_str pa_nil)) (pa_cons (pe_tup (pa_cons pe_str (pa_cons (pe_tup (pa_cons pe_str (pa_cons pe_int pa_nil))) pa_nil))) (pa_cons pe_int (pa_cons (pe_lst (pa_cons pe_str (pa_cons pe_str pa_nil))) (pa_cons (pe_tup pa_nil) (pa_cons (pe_tup (pa_cons pe_str pa_nil)) (pa_cons (pe_tup (pa_cons pe_str (pa_cons (pe_tup (pa_cons pe_str (pa_cons pe_int pa_nil))) pa_nil))) pa_nil))))))))) (pe_cal c_l_draw (hr.mono (by decide)) pass0 (pa_cons (pv 0) (pa_cons pe_int pa_nil))) (fun _ _ => rfl)))) pss_nil)
  (pss_cons (ps_set (i := 2) sc_l_some_expr.nd rfl (Or.inl rfl) (pe_ix (ixS (K := K)) (pe_lst (pa_cons pe_str (pa_cons pe_str (pa_cons pe_str (pa_cons pe_str (pa_cons pe_str (pa_cons pe_str (pa_cons pe_str (pa_cons pe_str (pa_cons pe_str (pa_cons pe_str (pa_cons pe_str (pa_cons pe_str (pa_cons pe_str pa_nil)))))))))))))) (pe_cal c_l_draw (hr.mono (by decide)) pass0 (pa_cons (pv 0) (pa_cons pe_int pa_nil))) (fun _ _ => rfl)))
  (pss_cons (ps_if (pw_or (pt_cmpR op_le (pv 1) pe_int (nomark _)) (pw_or1 (pt_cmpR (opEq (K := K) (hu64 hr)) (pv 2) pe_str (nomark _)))).pt (pss_one (ps_ret (pe_tup (pa_cons pe_str (pa_cons (pe_cal c_l_value (hr.mono (by decide)) pass0 (pa_cons (pv 0) pa_nil)) pa_nil))))) pss_nil)
  (pss_cons (ps_if (pt_cmpR (opIn (K := K)) (pv 2) (pe_tup (pa_cons pe_str (pa_cons pe_str pa_nil))) (by with_unfolding_all rfl)) (pss_one (ps_ret (pe_tup (pa_cons (pv 2) (pa_cons (pe_cal c_l_some_name (hr.mono (by decide)) pass0 (pa_cons (pv 0) pa_nil)) (pa_cons (pe_cal c_l_some_expr hr0 pass0 (pa_cons (pv 0) (pa_cons (pe_op op_sub (pv 1) pe_int) pa_nil))) pa_nil)))))) pss_nil)
  (pss_cons (ps_if (pt_cmpR (opIn (K := K)) (pv 2) (pe_tup (pa_cons pe_str (pa_cons pe_str (pa_cons pe_str pa_nil)))) (by with_unfolding_all rfl)) (pss_one (ps_ret (pe_tup (pa_cons (pv 2) (pa_cons (pe_cal c_l_some_expr hr0 pass0 (pa_cons (pv 0) (pa_cons (pe_op op_sub (pv 1) pe_int) pa_nil))) (pa_cons (pe_cal c_l_some_expr hr0 pass0 (pa_cons (pv 0) (pa_cons (pe_op op_sub (pv 1) pe_int) pa_nil))) pa_nil)))))) pss_nil)
  (pss_cons (ps_if (pt_cmpR (opEq (K := K) (hu64 hr)) (pv 2) pe_str (nomark _)) (pss_one (ps_ret (pe_tup (pa_cons (pv 2) (pa_cons (pe_cal c_l_some_expr hr0 pass0 (pa_cons (pv 0) (pa_cons (pe_op op_sub (pv 1) pe_int) pa_nil))) pa_nil))))) pss_nil)
  (pss_one (ps_ret (pe_tup (pa_cons (pv 2) (pa_cons (pe_cal c_l_some_name (hr.mono (by decide)) pass0 (pa_cons (pv 0) pa_nil)) pa_nil))))))))))), ?_⟩
  repeat walk_at "rd1"
  refine drw hB 60 rfl (by decide) fun j H1 hj B1 S1 => ?_
  have L1 := hL.but S1 B1.bx
  repeat walk_at "rd1"
  refine w_b (fun h1 => ?_) (fun h1 => ?_)
  · repeat walk_at "rd1"
    refine al (by simp) fun t1 Ha Aa => ?_
    have La := L1.same Aa.same
    have G1 : DpAll K (hid S Ha) [.ref t1] [.tuple [.str "value", .int 1000]] := .cons (ds_tup Aa L1 (.cons (.str _) (.cons (.int _) .nil))) .nil
    repeat walk_at "rd1"
    refine al (by simp) fun t2 Hb Ab => ?_
    have Lb := La.same Ab.same
    have G2 := dpAll_snoc Ab.same G1 (ds_tup Ab La (.cons (.str "value") .nil))
    repeat walk_at "rd1"
    refine al (by simp) fun t3 Hc Ac => ?_
    have Lc := Lb.same Ac.same
    have d3 := ds_tup (K := K) Ac Lb (.cons (.str "value") (.cons (.int 1) .nil))
    repeat walk_at "rd1"
    refine al (by simp) fun t4 Hd Ad => ?_
    have Ld := Lc.same Ad.same
    have G4 := dpAll_snoc (Ac.same.trans Ad.same) G2 (ds_tup Ad Lc (.cons (.str "plus") (.cons d3 .nil)))
    have G5 := dpAll_snoc (Same.refl _) G4 (.int 5)
    repeat walk_at "rd1"
    refine al (by simp) fun t5 He Ae => ?_
    have Le := Ld.same Ae.same
    have G6 := dpAll_snoc Ae.same G5 (ds_lst Ae Ld (.cons (.str "var") (.cons (.str "a") .nil)))
    repeat walk_at "rd1"
    refine al (by simp) fun t6 Hf Af => ?_
    have Lf := Le.same Af.same
    have G7 := dpAll_snoc Af.same G6 (ds_tup Af Le .nil)
    repeat walk_at "rd1"
    refine al (by simp) fun t7 Hg Ag => ?_
    have Lg := Lf.same Ag.same
    have G8 := dpAll_snoc Ag.same G7 (ds_tup Ag Lf (.cons (.str "not") .nil))
    repeat walk_at "rd1"
    refine al (by simp) fun t8 Hh Ah => ?_
    have Lh := Lg.same Ah.same
    have d8 := ds_tup (K := K) Ah Lg (.cons (.str "value") (.cons (.int 1) .nil))
    repeat walk_at "rd1"
    refine al (by simp) fun t9 Hi Ai => ?_
    have Li := Lh.same Ai.same
    have G9 := dpAll_snoc (Ah.same.trans Ai.same) G8 (ds_tup Ai Lh (.cons (.str "add") (.cons d8 .nil)))
    repeat walk_at "rd1"
    refine al (by simp) fun p Hj Aj => ?_
    have G10 := dss_same Aj.same G9
    have sj := (((((((((Aa.same.trans Ab.same).trans Ac.same).trans Ad.same).trans Ae.same).trans Af.same).trans Ag.same).trans Ah.same).trans Ai.same).trans Aj.same)
    repeat walk_at "rd1"
    have Bj := B1.same sj
    refine drw Bj 8 rfl (by decide) fun i H3 hi B3 S3 => ?_
    have Sj : SameBut b H Hj := S1.trans (.of sj)
    have e3 := S3 _ _ Aj.at_ (by rintro rfl; have := Aj.at_; rw [Bj.bx] at this; cases this)
    have G11 := dss_but S3 hbS G10
    obtain ⟨v, d, hv, dv, sv⟩ := menu_get (i := i) G11 (by decide +kernel) hi
    refine v_ixL (SqL.of e3) (at_of rfl hv) ?_
    exact q v d H3 _ dv sv B3 (Sj.trans S3)
  · repeat walk_at "rd1"
    refine al (by simp) fun p H2 A2 => ?_
    have S2 := A2.but S1
    have L2 := L1.same A2.same
    repeat walk_at "rd1"
    refine drw (B1.same A2.same) 13 rfl (by decide) fun i H3 hi B3 S3 => ?_
    have e3 := S3 _ _ A2.at_ (ne_of_none B1.bx A2.nw).symm
    have L3 := L2.but S3 B3.bx
    replace S3 := S2.trans S3
    obtain ⟨wd, hw, hwl⟩ : ∃ wd : Str, [V.str "value", .str "var", .str "read", .str "get", .str "has", .str "add", .str "join", .str "not", .str "use", .str "peek", .str "state", .str "size", .str "less"][i]? = some (V.str wd) ∧ wd.length ≤ 1000 := by
      have key : ∀ i, i < 13 → ∃ wd : Str, [V.str "value", .str "var", .str "read", .str "get", .str "has", .str "add", .str "join", .str "not", .str "use", .str "peek", .str "state", .str "size", .str "less"][i]? = some (V.str wd) ∧ wd.length ≤ 1000 := by
        intro i hi
        match i, hi with
        | 0, _ | 1, _ | 2, _ | 3, _ | 4, _ | 5, _ | 6, _ | 7, _ | 8, _ | 9, _ | 10, _ | 11, _ | 12, _ => exact ⟨_, rfl, by decide +kernel⟩
      exact key i hi
    refine v_ixL (SqL.of e3) (at_of rfl hw) ?_
    have sw : strB (.str wd) = true := by simpa [strB] using hwl
    clear hw hi e3
    have fin : ∀ (x : V) (d : PyData) (Hy : Hp) (at2 : Int), DS K S Hy x d → strB d = true → Live S Hy → BoxAt K Hy b r ns at2 → SameBut b H Hy → ∀ (z : Str), strB (.str z) = true → [V.str z, x].length ≤ sizeLine ∧ ∀ p H', Alloc Hy p (.tup [V.str z, x]) H' → Q (.ref p) H' := by
      intro x d Hy at2 hx sx Ly By Sy z sz
      refine ⟨by show 2 ≤ sizeLine; decide, fun p H' A => ?_⟩
      exact q _ _ _ _ (ds_tup A Ly (.cons (.str z) (.cons hx .nil))) (by simp [strB, strB.strBs, sx] at sz ⊢; exact sz) (By.same A.same) (A.but Sy)
    have fin2 : ∀ (x y : V) (d e : PyData) (Hy : Hp) (at2 : Int), DS K S Hy x d → strB d = true → DS K S Hy y e → strB e = true → Live S Hy → BoxAt K Hy b r ns at2 → SameBut b H Hy → [V.str wd, x, y].length ≤ sizeLine ∧ ∀ p H', Alloc Hy p (.tup [V.str wd, x, y]) H' → Q (.ref p) H' := by
      intro x y d e Hy at2 hx sx hy sy Ly By Sy
      refine ⟨by show 3 ≤ sizeLine; decide, fun p H' A => ?_⟩
      exact q _ _ _ _ (ds_tup A Ly (.cons (.str wd) (.cons hx (.cons hy .nil)))) (by simp [strB, strB.strBs, sx, sy] at sw ⊢; exact sw) (By.same A.same) (A.but Sy)
    repeat walk_at "rd1"
    have val : ∀ (Hy : Hp) (at2 : Int), BoxAt K Hy b r ns at2 → SameBut b H Hy → Live S Hy → sp_l_value K ([V.ref b] ++ []) Hy (fun x H2 => [V.str "value", x].length ≤ sizeLine ∧ ∀ p H', Alloc H2 p (.tup [V.str "value", x]) H' → Q (.ref p) H') E0 := by
      intro Hy at2 By Sy Ly
      refine ⟨b, r, ns, at2, rfl, By, fun v H5 gv B5 S5 => ?_⟩
      exact fin v _ H5 _ (dp_flat gv.1) (by cases v <;> first | rfl | (have h := gv.2.1; simp [isValV, strB, datV] at h ⊢; omega)) (Ly.but S5 B5.bx) B5 (Sy.trans S5) "value" (by decide +kernel)
    refine w_b (fun h2 => ?_) (fun h2 => ?_)
    · repeat walk_at "rd1"
      exact val _ _ B3 S3 L3
    repeat walk_at "rd1"
    refine w_s (fun h3 => ?_) (fun h3 => ?_)
    · repeat walk_at "rd1"
      exact val _ _ B3 S3 L3
    repeat walk_at "rd1"
    refine al (by simp) fun p4 H4 A4 => ?_
    have L4 := L3.same A4.same
    have B4 := B3.same A4.same
    have S4 := A4.but S3
    refine v_inS (ks := ["get", "has"]) (SqT.of A4.at_) ?_
    repeat walk_at "rd1"
    have hdep : 0 < dep := by simp at h2; omega
    refine w_b (fun h5 => ?_) (fun h5 => ?_)
    · repeat walk_at "rd1"
      refine ⟨b, r, ns, _, rfl, B4, fun x H5 at5 fx B5 S5 => ?_⟩
      have L5 := L4.but S5 B5.bx
      repeat walk_at "rd1"
      refine ⟨b, r, ns, _, S, dep - 1, rfl, by omega, B5, hbS, L5, fun y e H6 at6 hy sy B6 S6 => ?_⟩
      have L6 := L5.but S6 B6.bx
      repeat walk_at "rd1"
      exact fin2 x y _ e H6 _ (dp_flat (flatS_is fx).1) (flatS_is fx).2 hy sy L6 B6 ((S4.trans S5).trans S6)
    repeat walk_at "rd1"
    refine al (by simp) fun p5 H5 A5 => ?_
    have L5 := L4.same A5.same
    have B5 := B4.same A5.same
    have S5 := A5.but S4
    refine v_inS (ks := ["add", "join", "less"]) (SqT.of A5.at_) ?_
    repeat walk_at "rd1"
    refine w_b (fun h6 => ?_) (fun h6 => ?_)
    · repeat walk_at "rd1"
      refine ⟨b, r, ns, _, S, dep - 1, rfl, by omega, B5, hbS, L5, fun x d H6 at6 hx sx B6 S6 => ?_⟩
      have L6 := L5.but S6 B6.bx
      repeat walk_at "rd1"
      refine ⟨b, r, ns, _, S, dep - 1, rfl, by omega, B6, hbS, L6, fun y e H7 at7 hy sy B7 S7 => ?_⟩
      have L7 := L6.but S7 B7.bx
      repeat walk_at "rd1"
      exact fin2 x y d e H7 _ (ds_but S7 hbS hx) sx hy sy L7 B7 ((S5.trans S6).trans S7)
    repeat walk_at "rd1"
    refine w_s (fun h7 => ?_) (fun h7 => ?_)
    · repeat walk_at "rd1"
      refine ⟨b, r, ns, _, S, dep - 1, rfl, by omega, B5, hbS, L5, fun x d H6 at6 hx sx B6 S6 => ?_⟩
      have L6 := L5.but S6 B6.bx
      repeat walk_at "rd1"
      exact fin x d H6 _ hx sx L6 B6 (S5.trans S6) wd sw
    · repeat walk_at "rd1"
      refine ⟨b, r, ns, _, rfl, B5, fun x H6 at6 fx B6 S6 => ?_⟩
      have L6 := L5.but S6 B6.bx
      repeat walk_at "rd1"
      exact fin x _ H6 _ (dp_flat (flatS_is fx).1) (flatS_is fx).2 L6 B6 (S5.trans S6) wd sw
theorem ok_l_some_expr {P : Program} {w : World} {K : PySem.W.Frag} {mg : Str → Option Value} {base : Heap} (T : Wd w K mg) : ∀ n : Nat, Cal P w K mg base "_law_some_expr" CX0 (n + 3) (sp_l_some_expr K n)
  | 0 => by
    refine mk_cal T 26 rfl sc_l_some_expr (m__law_some_expr T) (fun _ _ _ _ _ _ us hl => match us, hl with | [_, _], _ => rfl) (fun vs H Q E h => ?_) (fun f cdv A outer s H vs Q E hr h => ?_)
    · obtain ⟨b, r, ns, at_, S, dep, rfl, _⟩ := h; rfl
    · obtain ⟨b, r, ns, at_, S, dep, rfl, hn, _⟩ := h
      exact absurd hn (Nat.not_lt_zero _)
  | n + 1 => l_some_expr_next T n (ok_l_some_expr T n)

def sp_l_some_block (K : PySem.W.Frag) (n : Nat) : Sp := fun vs H Q _ => ∃ (b r : Addr) (ns : List Int) (at_ : Int) (S : List Addr) (dep : Int), vs = [.ref b, .int dep] ∧ (dep + 1).toNat < n ∧ BoxAt K H b r ns at_ ∧ b ∈ S ∧ Live S H ∧
  ∀ (v : V) (d : PyData) (H' : Hp) (at2 : Int), DS K S H' v d → strB d = true → BoxAt K H' b r ns at2 → SameBut b H H' → Q v H'
def sp_l_some_part (K : PySem.W.Frag) (n : Nat) : Sp := fun vs H Q _ => ∃ (b r : Addr) (ns : List Int) (at_ : Int) (S : List Addr) (c : Nat) (dep : Int), vs = [.ref b, .str ⟨#[c]⟩, .int dep] ∧ (c = 110 ∨ c = 101 ∨ c = 112 ∨ c = 98) ∧ 0 ≤ dep ∧ dep.toNat < n ∧ BoxAt K H b r ns at_ ∧ b ∈ S ∧ Live S H ∧
  ∀ (v : V) (d : PyData) (H' : Hp) (at2 : Int), DS K S H' v d → strB d = true → BoxAt K H' b r ns at2 → SameBut b H H' → Q v H'
theorem l_part_next {P : Program} {w : World} {K : PySem.W.Frag} {mg : Str → Option Value} {base : Heap} (T : Wd w K mg) (n : Nat) (c_l_some_block : Cal P w K mg base "_law_some_block" CX0 (11 + 2 * n) (sp_l_some_block K n)) : Cal P w K mg base "_law_some_part" CX0 (12 + 2 * n) (sp_l_some_part K n) := by
  have c_l_draw := ok_l_draw (P := P) (w := w) (base := base) T
  have c_l_some_name := ok_l_some_name (P := P) (w := w) (base := base) T
  have c_l_some_expr := ok_l_some_expr (P := P) (w := w) (base := base) T 7
  rw [show 12 + 2 * n = (11 + 2 * n) + 1 by omega]
  refine mk_cal T 27 rfl sc_l_some_part (m__law_some_part T) (fun _ _ _ _ _ _ us hl => match us, hl with | [_, _, _], _ => rfl) (fun vs H Q E h => ?_) (fun f cdv A outer s H vs Q E hr h => ?_)
  · obtain ⟨b, r, ns, at_, S, c, dep, rfl, _⟩ := h; rfl
  obtain ⟨b, r, ns, at_, S, c, dep, rfl, hc, hd0, hn, hB, hbS, hL, q⟩ := h
  have hr0 := hr
  replace hr := hr.mono (show 11 ≤ 11 + 2 * n by omega)
  refine ⟨_, (pss_cons (ps_if (pt_cmpR (opEq (K := K) (hu64 hr)) (pv 1) pe_str (nomark _)) (pss_one (ps_ret (pe_cal c_l_some_name (hr.mono (by decide)) pass0 (pa_cons (pv 0) pa_nil)))) pss_nil)
  (pss_cons (ps_if (pt_cmpR (opEq (K := K) (hu64 hr)) (pv 1) pe_str (nomark _)) (pss_one (ps_ret (pe_cal c_l_some_expr (hr.mono (by decide)) pass0 (pa_cons (pv 0) (pa_cons (pe_ix (ixS (K := K)) (pe_lst (pa_cons pe_int (pa_cons pe_int (pa_cons pe_int (pa_cons pe_int pa_nil))))) (pe_cal c_l_draw (hr.mono (by decide)) pass0 (pa_cons (pv 0) (pa_cons pe_int pa_nil))) (fun _ _ => rfl)) pa_nil))))) pss_nil)
  (pss_cons (ps_if (pt_cmpR (opEq (K := K) (hu64 hr)) (pv 1) pe_str (nomark _)) (pss_cons (ps_setLc (i := 3) (own := [("_law_k", 4)]) (g := gName 4) rfl sc_l_some_part.nd rfl rfl (sw_true rfl rfl rfl (by decide +kernel)) (pi_range1 (by rfl) (m_range T) (pa_cons (pe_cal c_l_draw (hr.mono (by decide)) pass0 (pa_cons (pv 0) (pa_cons pe_int pa_nil))) pa_nil)) (blkOk_by (own := [("_law_k", 4)]) (N := N_l_some_part) (sc := defScope s_l_some_part) (by decide +kernel)) (fun _ _ _ _ _ => pg_name (i := 4) sc_l_some_part.nd rfl (Or.inl rfl)) (fun _ _ _ _ _ => pts_nil) (fun _ _ _ _ _ => (pe_tup (pa_cons (pe_cal c_l_some_name (hr.mono (by decide)) pass0 (pa_cons (pv 0) pa_nil)) (pa_cons (pe_cal c_l_some_expr (hr.mono (by decide)) pass0 (pa_cons (pv 0) (pa_cons pe_int pa_nil))) pa_nil)))))
  (pss_one (ps_ret (pe_op (opAdd (K := K)) (pv 3) (pe_op opMul (pe_ix (ixS (K := K)) (pe_lst (pa_cons (pe_lst (pa_cons (pe_tup (pa_cons pe_str (pa_cons (pe_tup (pa_cons pe_str (pa_cons pe_int pa_nil))) pa_nil))) (pa_cons (pe_tup (pa_cons pe_str (pa_cons (pe_tup (pa_cons pe_str (pa_cons pe_int pa_nil))) pa_nil))) pa_nil))) (pa_cons (pe_lst pa_nil) (pa_cons (pe_lst pa_nil) (pa_cons (pe_lst pa_nil) (pa_cons (pe_lst (pa_cons (pe_tup (pa_cons pe_str (pa_cons pe_int pa_nil))) pa_nil)) pa_nil)))))) (pe_cal c_l_draw (hr.mono (by decide)) pass0 (pa_cons (pv 0) (pa_cons pe_int pa_nil))) (fun _ _ => rfl)) (pe_callTy callInt (by rfl) (m_int T) (by decide +kernel) (pa_cons (pe_cmpR (opEq (K := K) (hu64 hr)) (pe_cal c_l_draw (hr.mono (by decide)) pass0 (pa_cons (pv 0) (pa_cons pe_int pa_nil))) pe_int (nomark _)) pa_nil))))))) pss_nil)
  (pss_cons (ps_if (pt_cmpR (opEq (K := K) (hu64 hr)) (pe_cal c_l_draw (hr.mono (by decide)) pass0 (pa_cons (pv 0) (pa_cons pe_int pa_nil))) pe_int (nomark _)) (pss_one (ps_ret (pe_ix (ixS (K := K)) (pe_lst (pa_cons (pe_tup pa_nil) (pa_cons pe_non (pa_cons pe_str (pa_cons (pe_tup (pa_cons (pe_tup (pa_cons pe_str (pa_cons (pe_tup (pa_cons pe_str (pa_cons pe_int pa_nil))) pa_nil))) pa_nil)) pa_nil))))) (pe_cal c_l_draw (hr.mono (by decide)) pass0 (pa_cons (pv 0) (pa_cons pe_int pa_nil))) (fun _ _ => rfl)))) pss_nil)
  (pss_one (ps_ret (pe_cal c_l_some_block hr0 pass0 (pa_cons (pv 0) (pa_cons (pe_op op_sub (pv 2) pe_int) pa_nil))))))))), ?_⟩
  rcases hc with rfl | rfl | rfl | rfl
  · repeat walk_at "rd1"
    exact ⟨b, r, ns, at_, rfl, hB, fun v H1 at1 fv B1 S1 => q v _ H1 at1 (dp_flat (flatS_is fv).1) (flatS_is fv).2 B1 S1⟩
  · repeat walk_at "rd1"
    refine al (by simp) fun p H1 A1 => ?_
    repeat walk_at "rd1"
    refine drw (hB.same A1.same) 4 rfl (by decide) fun i H2 hi B2 S2 => ?_
    have e2 := S2 _ _ A1.at_ (ne_of_none hB.bx A1.nw).symm
    have L2 := (hL.same A1.same).but S2 B2.bx
    obtain ⟨k, hk, hk6⟩ : ∃ k : Int, [V.int 1, V.int 2, V.int 3, V.int 6][i]? = some (V.int k) ∧ k.toNat < 7 := by
      match i, hi with
      | 0, _ | 1, _ | 2, _ | 3, _ => exact ⟨_, rfl, by decide⟩
    refine v_ixL (SqL.of e2) (at_of rfl hk) ?_
    repeat walk_at "rd1"
    exact ⟨b, r, ns, _, S, k, rfl, hk6, B2, hbS, L2, fun v d H3 at3 dv sv B3 S3 => q v d H3 at3 dv sv B3 ((A1.but (fun x o h _ => h)).trans (S2.trans S3))⟩
  · repeat walk_at "rd1"
    refine drw hB 4 rfl (by decide) fun j H1 hj B1 S1 => ?_
    have L1 := hL.but S1 B1.bx
    repeat walk_at "rd1"
    refine ⟨j, rfl, by omega, by omega, fun D hD => ?_⟩
    have nDb : D ≠ b := (ne_of_none B1.bx hD).symm
    have nDS := L1.notin hD
    have hbD : b ∈ D :: S := List.mem_cons_of_mem _ hbS
    have S0 : SameBut b H (upd H1 D (.lst [])) := S1.trans (.of (same_upd hD))
    have hD0 : H D = none := S1.none nDb hD
    refine lc_it (it_range (lo := 0) (n := (j : Int).toNat)) (fun i H' => ∃ (at2 : Int) (vs : List V) (ds : List PyData), SameBut b H H' ∧ BoxAt K H' b r ns at2 ∧ H' D = some (.lst vs) ∧ vs.length = i ∧ DpAll K (hid (D :: S) H') vs ds ∧ strB.strBs ds = true)
      ⟨_, [], [], S0, B1.same (same_upd hD), upd_same, rfl, .nil, rfl⟩ (fun _ _ _ _ => trivial) ?_ ?_
    · rintro i x H2 hx ⟨at2, vs, ds, S2, B2, e2, l2, g2, sb2⟩
      have hi : i < j := by have := (rangeV_get hx).1; omega
      refine ⟨rfl, ?_⟩
      repeat walk_at "rd1"
      have L2 : Live S H2 := hL.but S2 B2.bx
      refine ⟨b, r, ns, _, rfl, B2, fun y H3 at3 fy B3 S3 => ?_⟩
      have L3 := L2.but S3 B3.bx
      have e3 := S3 _ _ e2 nDb
      have g3 := dss_but S3 hbD g2
      repeat walk_at "rd1"
      refine ⟨b, r, ns, _, D :: S, 1, rfl, by decide, B3, hbD, live_cons L3 e3, fun z dz H4 at4 hz sz B4 S4 => ?_⟩
      have L4 := L3.but S4 B4.bx
      have e4 := S4 _ _ e3 nDb
      have g4 := dss_but S4 hbD g3
      repeat walk_at "rd1"
      refine al (by simp) fun t H5 A5 => ?_
      have e5 := A5.same _ _ e4
      have dt := ds_tup A5 (live_cons L4 e4) (.cons (dp_flat (flatS_is fy).1) (.cons hz .nil))
      have g5 := dpAll_snoc A5.same g4 dt
      have sD : SameBut D H5 (upd H5 D (.lst (vs ++ [.ref t]))) := .upd
      have Su : SameBut b H (upd H5 D (.lst (vs ++ [.ref t]))) := (A5.but ((S2.trans S3).trans S4)).up hD0
      refine ⟨vs, e5, line1000' (by omega), at4, vs ++ [.ref t], _, Su, ?_, upd_same, by simp [l2], dss_but sD List.mem_cons_self g5, strBs_app sb2 ?_⟩
      · have B5 := B4.same A5.same
        refine ⟨?_, Su.seq hB.ne hB.rw, B5.ne, B5.nn⟩
        rw [upd_ne nDb.symm]; exact B5.bx
      · simp [strB.strBs, strB, (flatS_is fy).2, sz]
    · rintro H2 ⟨at2, vs, ds, S2, B2, e2, l2, g2, sb2⟩
      have L2 : Live S H2 := hL.but S2 B2.bx
      have GD : DpAll K (hid S H2) vs ds := dpAll_same (hid_sub fun x hx => List.mem_cons_of_mem _ hx) _ _ g2
      have hlv : vs.length ≤ 4 := by rw [l2]; simp [rangeV]; omega
      repeat walk_at "rd1"
      refine al (by simp) fun t1 Ha Aa => ?_
      have La := L2.same Aa.same
      have d1 := ds_tup (K := K) Aa L2 (.cons (.str "value") (.cons (.int 1) .nil))
      repeat walk_at "rd1"
      refine al (by simp) fun t2 Hb Ab => ?_
      have Lb := La.same Ab.same
      have d2 := ds_tup (K := K) Ab La (.cons (.str "zz") (.cons d1 .nil))
      repeat walk_at "rd1"
      refine al (by simp) fun t3 Hc Ac => ?_
      have Lc := Lb.same Ac.same
      have d3 := ds_tup (K := K) Ac Lb (.cons (.str "value") (.cons (.int 2) .nil))
      repeat walk_at "rd1"
      refine al (by simp) fun t4 Hd Ad => ?_
      have Ld := Lc.same Ad.same
      have d4 := ds_tup (K := K) Ad Lc (.cons (.str "zz") (.cons d3 .nil))
      repeat walk_at "rd1"
      refine al (by simp) fun q1 He Ae => ?_
      have Le := Ld.same Ae.same
      have l1 := LstD.new (K := K) Ae Ld (.cons (ds_same (Ac.same.trans Ad.same) d2) (.cons d4 .nil)) (by decide +kernel) (by simp)
      repeat walk_at "rd1"
      refine al (by simp) fun q2 Hf Af => ?_
      have Lf := Le.same Af.same
      have l2' := LstD.new (K := K) Af Le .nil rfl (by simp)
      repeat walk_at "rd1"
      refine al (by simp) fun q3 Hg Ag => ?_
      have Lg := Lf.same Ag.same
      have l3 := LstD.new (K := K) Ag Lf .nil rfl (by simp)
      repeat walk_at "rd1"
      refine al (by simp) fun q4 Hh Ah => ?_
      have Lh := Lg.same Ah.same
      have l4 := LstD.new (K := K) Ah Lg .nil rfl (by simp)
      repeat walk_at "rd1"
      refine al (by simp) fun t5 Hi Ai => ?_
      have Li := Lh.same Ai.same
      have d5 := ds_tup (K := K) Ai Lh (.cons (.str "a") (.cons (.int 1) .nil))
      repeat walk_at "rd1"
      refine al (by simp) fun q5 Hj Aj => ?_
      have Lj := Li.same Aj.same
      have l5 := LstD.new (K := K) Aj Li (.cons d5 .nil) (by decide +kernel) (by simp)
      repeat walk_at "rd1"
      refine al (by simp) fun p Hk Ak => ?_
      have sj := Ai.same.trans (Aj.same.trans Ak.same)
      have menu : ∀ v ∈ [V.ref q1, .ref q2, .ref q3, .ref q4, .ref q5], LstD K S Hk v := by
        intro v hv
        simp only [List.mem_cons, List.not_mem_nil, or_false] at hv
        rcases hv with rfl | rfl | rfl | rfl | rfl
        · exact l1.same (Af.same.trans (Ag.same.trans (Ah.same.trans sj)))
        · exact l2'.same (Ag.same.trans (Ah.same.trans sj))
        · exact l3.same (Ah.same.trans sj)
        · exact l4.same sj
        · exact l5.same Ak.same
      have sk : Same H2 Hk := (((((((Aa.same.trans Ab.same).trans Ac.same).trans Ad.same).trans Ae.same).trans Af.same).trans Ag.same).trans Ah.same).trans sj
      have Bk := B2.same sk
      have Sk : SameBut b H Hk := S2.trans (.of sk)
      have ek := sk _ _ e2
      have GDk := dss_same sk GD
      have Lk := L2.same sk
      repeat walk_at "rd1"
      refine drw Bk 5 rfl (by decide) fun i H3 hi B3 S3 => ?_
      have ep := S3 _ _ Ak.at_ (by rintro rfl; have := Ak.at_; rw [Bk.bx] at this; cases this)
      refine v_ixL (SqL.of ep) (at_of rfl (List.getElem?_eq_getElem hi)) ?_
      have lm := (menu _ (List.getElem_mem hi)).but S3 hbS
      generalize [V.ref q1, .ref q2, .ref q3, .ref q4, .ref q5][i] = mv at lm
      repeat walk_at "rd1"
      refine drw B3 4 rfl (by decide) fun i2 H4 hi2 B4 S4 => ?_
      obtain ⟨l, ys, es, rfl, e4, g4, sb4, hl4, _⟩ := lm.but S4 hbS
      have eD := S4 _ _ (S3 _ _ ek nDb) nDb
      have GD4 := dss_but S4 hbS (dss_but S3 hbS GDk)
      have L4 : Live S H4 := (Lk.but S3 B3.bx).but S4 B4.bx
      repeat walk_at "rd1"
      generalize decide (V.int (i2 : Int) = V.int 0) = bb
      cases bb with
      | false =>
        refine v_rep (k := 0) e4 (by decide) (by decide) (by omega) fun p1 H5 A5 => ?_
        refine v_catL (A5.same _ _ eD) A5.at_ (by simp; omega) fun p2 H6 A6 => ?_
        have dl := ds_lst A6 (L4.same A5.same) (dpAll_app (dss_same A5.same GD4) (show DpAll K (hid S H5) (List.replicate (0 : Int).toNat ys).flatten [] from .nil))
        exact q _ _ _ _ dl (by simp only [strB]; exact strBs_app sb2 rfl) ((B4.same A5.same).same A6.same) (A6.but (A5.but ((Sk.trans S3).trans S4)))
      | true =>
        refine v_rep (k := 1) e4 (by decide) (by decide) (by omega) fun p1 H5 A5 => ?_
        have ef : (List.replicate (1 : Int).toNat ys).flatten = ys := by simp
        rw [ef] at A5
        refine v_catL (A5.same _ _ eD) A5.at_ (by omega) fun p2 H6 A6 => ?_
        have dl := ds_lst A6 (L4.same A5.same) (dpAll_app (dss_same A5.same GD4) (dss_same A5.same g4))
        exact q _ _ _ _ dl (by simp only [strB]; exact strBs_app sb2 sb4) ((B4.same A5.same).same A6.same) (A6.but (A5.but ((Sk.trans S3).trans S4)))
  · repeat walk_at "rd1"
    refine drw hB 60 rfl (by decide) fun j H1 hj B1 S1 => ?_
    have L1 := hL.but S1 B1.bx
    repeat walk_at "rd1"
    refine w_b (fun h1 => ?_) (fun h1 => ?_)
    · repeat walk_at "rd1"
      refine al (by simp) fun t1 Ha Aa => ?_
      have La := L1.same Aa.same
      have G1 : DpAll K (hid S Ha) [.ref t1, .non, .str "x"] [.tuple [], .none, .str "x"] := .cons (ds_tup Aa L1 .nil) (.cons .non (.cons (.str _) .nil))
      repeat walk_at "rd1"
      refine al (by simp) fun t2 Hb Ab => ?_
      have Lb := La.same Ab.same
      have d2 := ds_tup (K := K) Ab La (.cons (.str "value") (.cons (.int 1) .nil))
      repeat walk_at "rd1"
      refine al (by simp) fun t3 Hc Ac => ?_
      have Lc := Lb.same Ac.same
      have d3 := ds_tup (K := K) Ac Lb (.cons (.str "emit") (.cons d2 .nil))
      repeat walk_at "rd1"
      refine al (by simp) fun t4 Hd Ad => ?_
      have Ld := Lc.same Ad.same
      have G4 := dpAll_snoc ((Ab.same.trans Ac.same).trans Ad.same) G1 (ds_tup Ad Lc (.cons d3 .nil))
      repeat walk_at "rd1"
      refine al (by simp) fun p Hj Aj => ?_
      have G5 := dss_same Aj.same G4
      have sj := (((Aa.same.trans Ab.same).trans Ac.same).trans Ad.same).trans Aj.same
      have Bj := B1.same sj
      have Sj : SameBut b H Hj := S1.trans (.of sj)
      repeat walk_at "rd1"
      refine drw Bj 4 rfl (by decide) fun i H3 hi B3 S3 => ?_
      have e3 := S3 _ _ Aj.at_ (by rintro rfl; have := Aj.at_; rw [Bj.bx] at this; cases this)
      have G6 := dss_but S3 hbS G5
      obtain ⟨v, d, hv, dv, sv⟩ := menu_get (i := i) G6 (by decide +kernel) hi
      refine v_ixL (SqL.of e3) (at_of rfl hv) ?_
      exact q v d H3 _ dv sv B3 (Sj.trans S3)
    · repeat walk_at "rd1"
      exact ⟨b, r, ns, _, S, dep - 1, rfl, by omega, B1, hbS, L1, fun v d H3 at3 dv sv B3 S3 => q v d H3 at3 dv sv B3 (S1.trans S3)⟩

theorem l_block_next {P : Program} {w : World} {K : PySem.W.Frag} {mg : Str → Option Value} {base : Heap} (T : Wd w K mg) (n : Nat) (c_l_some_part : Cal P w K mg base "_law_some_part" CX0 (12 + 2 * n) (sp_l_some_part K n)) : Cal P w K mg base "_law_some_block" CX0 (13 + 2 * n) (sp_l_some_block K (n + 1)) := by
  have c_l_draw := ok_l_draw (P := P) (w := w) (base := base) T
  have c_l_forms := ok_l_forms (P := P) (w := w) (base := base) T
  rw [show 13 + 2 * n = (12 + 2 * n) + 1 by omega]
  refine mk_cal T 28 rfl sc_l_some_block (m__law_some_block T) (fun _ _ _ _ _ _ us hl => match us, hl with | [_, _], _ => rfl) (fun vs H Q E h => ?_) (fun f cdv A outer s H vs Q E hr h => ?_)
  · obtain ⟨b, r, ns, at_, S, dep, rfl, _⟩ := h; rfl
  obtain ⟨b, r, ns, at_, S, dep, rfl, hn, hB, hbS, hL, q⟩ := h
  have hr0 := hr
  replace hr := hr.mono (show 12 ≤ 12 + 2 * n by omega)
  refine ⟨_, (pss_cons (ps_set (i := 2) sc_l_some_block.nd rfl (Or.inl rfl) (pe_lst pa_nil))
  (pss_cons (ps_if (pt_cmpR op_lt (pv 1) pe_int (nomark _)) (pss_one (ps_ret (pv 2))) pss_nil)
  (pss_cons (ps_for PassesOwn.never rfl (pi_range1 (by rfl) (m_range T) (pa_cons (pe_cal c_l_draw (hr.mono (by decide)) pass0 (pa_cons (pv 0) (pa_cons (pe_ix (ixS (K := K)) (pe_lst (pa_cons pe_int (pa_cons pe_int (pa_cons pe_int (pa_cons pe_int pa_nil))))) (pe_cal c_l_draw (hr.mono (by decide)) pass0 (pa_cons (pv 0) (pa_cons pe_int pa_nil))) (fun _ _ => rfl)) pa_nil))) pa_nil)) (pg_name (i := 3) sc_l_some_block.nd rfl (Or.inl rfl))
   (pss_cons (ps_set (i := 4) sc_l_some_block.nd rfl (Or.inl rfl) (pe_ix (ixS (K := K)) (pe_callTy (call_list_dK rfl) (by rfl) (m_list T) (by decide +kernel) (pa_cons (pe_cal0 c_l_forms (hr.mono (by decide)) pass0) pa_nil)) (pe_cal c_l_draw (hr.mono (by decide)) pass0 (pa_cons (pv 0) (pa_cons pe_int pa_nil))) (fun _ _ => rfl)))
  (pss_cons (ps_set (i := 5) sc_l_some_block.nd rfl (Or.inl rfl) (pe_tup (pa_cons (pv 4) pa_nil)))
  (pss_cons (ps_for PassesOwn.never rfl (pi_str (pe_dget (hu1 hr) (pe_cal0 c_l_forms (hr.mono (by decide)) pass0) (pv 4) (fun _ _ => rfl))) (pg_name (i := 6) sc_l_some_block.nd rfl (Or.inl rfl))
   (pss_one (ps_set (i := 5) sc_l_some_block.nd rfl (Or.inl rfl) (pe_op (opAdd (K := K)) (pv 5) (pe_tup (pa_cons (pe_cal c_l_some_part hr0 pass0 (pa_cons (pv 0) (pa_cons (pv 6) (pa_cons (pv 1) pa_nil)))) pa_nil))))))
  (pss_cons (ps_if (pt_cmpR (opEq (K := K) (hu64 hr)) (pe_cal c_l_draw (hr.mono (by decide)) pass0 (pa_cons (pv 0) (pa_cons pe_int pa_nil))) pe_int (nomark _)) (pss_one (ps_set (i := 5) sc_l_some_block.nd rfl (Or.inl rfl) (pe_ix (ixS (K := K)) (pe_lst (pa_cons (pe_slice (slA (K := K)) (pv 5) po_none (po_some (pe_un un_neg pe_int))) (pa_cons (pe_op (opAdd (K := K)) (pv 5) (pe_tup (pa_cons pe_int pa_nil))) (pa_cons (pe_callTy call_list_of (by rfl) (m_list T) (by decide +kernel) (pa_cons (pv 5) pa_nil)) (pa_cons (pe_op (opAdd (K := K)) (pe_tup (pa_cons pe_str pa_nil)) (pe_slice (slA (K := K)) (pv 5) (po_some pe_int) po_none)) pa_nil))))) (pe_cal c_l_draw (hr.mono (by decide)) pass0 (pa_cons (pv 0) (pa_cons pe_int pa_nil))) (fun _ _ => rfl)))) pss_nil)
  (pss_one (ps_expr (pe_bm PySem.F.plainAttrs_list PySem.F.slot_list_append PySem.F.type_list_append mt_append (pv 2) (pa_cons (pv 5) pa_nil)))))))))
  (pss_one (ps_ret (pv 2)))))), ?_⟩
  repeat walk_at "rd1"
  refine al (by simp) fun o H1 A1 => ?_
  have L1 := hL.same A1.same
  have B1 := hB.same A1.same
  have noS := hL.notin A1.nw
  have nob : o ≠ b := (ne_of_none hB.bx A1.nw).symm
  have hb' : b ∈ o :: S := List.mem_cons_of_mem _ hbS
  have S1 : SameBut b H H1 := .of A1.same
  repeat walk_at "rd1"
  refine w_b (fun h1 => ?_) (fun h1 => ?_)
  · repeat walk_at "rd1"
    exact q _ (.list []) _ _ (ds_lst A1 hL .nil) rfl B1 S1
  repeat walk_at "rd1"
  refine al (by simp) fun p H2 A2 => ?_
  have B2 := B1.same A2.same
  repeat walk_at "rd1"
  refine drw B2 4 rfl (by decide) fun i H3 hi B3 S3 => ?_
  have e3 := S3 _ _ A2.at_ (ne_of_none B1.bx A2.nw).symm
  have eo3 := S3 _ _ (A2.same _ _ A1.at_) nob
  replace S3 := (A2.but S1).trans S3
  obtain ⟨mm, hmm, hm1, hm2⟩ : ∃ mm : Nat, [V.int 3, V.int 3, V.int 4, V.int 2][i]? = some (V.int mm) ∧ 0 < mm ∧ mm ≤ 4 := by
    match i, hi with
    | 0, _ => exact ⟨3, rfl, by decide, by decide⟩
    | 1, _ => exact ⟨3, rfl, by decide, by decide⟩
    | 2, _ => exact ⟨4, rfl, by decide, by decide⟩
    | 3, _ => exact ⟨2, rfl, by decide, by decide⟩
  refine v_ixL (SqL.of e3) (at_of rfl hmm) ?_
  repeat walk_at "rd1"
  refine drw B3 mm rfl hm1 fun j H4 hj B4 S4 => ?_
  have eo4 := S4 _ _ eo3 nob
  replace S4 := S3.trans S4
  repeat walk_at "rd1"
  refine ⟨j, rfl, by omega, by omega, ?_⟩
  refine for_it (it_range (lo := 0) (n := (j : Int).toNat)) (fun i σ H' => ∃ (at2 : Int) (vs : List V) (ds : List PyData) (v3 v4 v5 v6 : Option V), σ = [some (.ref b), some (.int dep), some (.ref o), v3, v4, v5, v6] ∧ SameBut b H H' ∧ BoxAt K H' b r ns at2 ∧ H' o = some (.lst vs) ∧ vs.length = i ∧ DpAll K (hid (o :: S) H') vs ds ∧ strB.strBs ds = true)
    ⟨_, [], [], none, none, none, none, rfl, S4, B4, eo4, rfl, .nil, rfl⟩ (fun _ _ _ _ _ => trivial) ?_ ?_
  · rintro i x σ H5 hx ⟨at2, vs, ds, v3, v4, v5, v6, rfl, S5, B5, eo5, l5, g5, sb5⟩
    have hi : i < j := by have := (rangeV_get hx).1; omega
    have L5 : Live S H5 := hL.but S5 B5.bx
    repeat walk_at "rd1"
    refine ⟨rfl, fun p6 H6 A6 => ?_⟩
    repeat walk_at "rd1"
    refine ⟨p6, _, rfl, A6.at_, fun p7 hp7 => ?_⟩
    have A7 : Alloc H6 p7 (.lst ((rowsV formRows).map fun kv => kV kv.1)) (upd H6 p7 (.lst ((rowsV formRows).map fun kv => kV kv.1))) := ⟨hp7, rfl⟩
    generalize upd H6 p7 (.lst ((rowsV formRows).map fun kv => kV kv.1)) = H7 at A7 ⊢
    have s7 := A6.same.trans A7.same
    have B7 := B5.same s7
    repeat walk_at "rd1"
    refine drw B7 22 rfl (by decide) fun i8 H8 hi8 B8 S8 => ?_
    obtain ⟨wd, fm, hw, hf, hwl⟩ := form_at hi8
    have e8 := S8 _ _ A7.at_ (by rintro rfl; have := A7.at_; rw [B7.bx] at this; cases this)
    have eo8 := S8 _ _ (s7 _ _ eo5) nob
    have g8 := dss_but S8 hb' (dss_same s7 g5)
    have L8 := (L5.same s7).but S8 B8.bx
    replace S8 := (S5.trans (.of s7)).trans S8
    refine v_ixL (SqL.of e8) (at_of rfl hw) ?_
    have sw : strB (.str wd) = true := by simpa [strB] using hwl
    clear hw e8
    repeat walk_at "rd1"
    refine al (by simp) fun t9 H9 A9 => ?_
    have eo9 := A9.same _ _ eo8
    have g9 := dss_same A9.same g8
    have B9 := B8.same A9.same
    have L9 := L8.same A9.same
    have st9 : SqT K (hid (o :: S) H9) t9 [.str wd] := SqT.of (hid_new A9 (live_cons L8 eo8))
    replace S9 := A9.but S8
    repeat walk_at "rd1"
    refine ⟨rfl, fun p10 H10 A10 => ?_⟩
    repeat walk_at "rd1"
    have g10 : DGet H10 p10 (.str wd) (some (.str fm)) := by
      have := DGet.k (k := .inr wd) A10.at_
      rw [valV_forms, hf] at this
      exact this
    refine ⟨p10, .str fm, rfl, g10, ?_⟩
    obtain ⟨fl, fc⟩ := form_letters hf
    have fp := form_pos hf
    repeat walk_at "rd1"
    refine for_it (it_str (z := fm)) (fun k σ H' => ∃ (at2 : Int) (t : Addr) (xs : List V) (ps : List PyData) (v3 v6 : Option V), σ = [some (.ref b), some (.int dep), some (.ref o), v3, some (.str wd), some (.ref t), v6] ∧ SameBut b H H' ∧ BoxAt K H' b r ns at2 ∧ H' o = some (.lst vs) ∧ DpAll K (hid (o :: S) H') vs ds ∧ SqT K (hid (o :: S) H') t (.str wd :: xs) ∧ DpAll K (hid (o :: S) H') xs ps ∧ strB.strBs ps = true ∧ xs.length = k)
      ⟨_, t9, [], [], _, v6, rfl, A10.but S9, B9.same A10.same, A10.same _ _ eo9, dss_same A10.same g9, Same.seqT (hid_same A10.same) st9, .nil, rfl, rfl⟩ (fun _ _ _ _ _ => trivial) ?_ ?_
    · rintro k y σ H11 hy ⟨at3, t, xs, ps, v7, v8, rfl, S11, B11, eo11, g11, st, gx, sx, lx⟩
      obtain ⟨c, hc, rfl⟩ := signs_get hy
      have L11 : Live S H11 := hL.but S11 B11.bx
      have hk : k < 4 := by
        have h1 := (List.getElem?_eq_some_iff.mp hc).1
        have h2 : fm.length = fm.cps.toList.length := by simp [Str.length]
        omega
      repeat walk_at "rd1"
      refine ⟨b, r, ns, _, o :: S, c, dep, rfl, fc c (List.mem_of_getElem? hc), by simp at h1; omega, by simp at h1; omega, B11, hb', live_cons L11 eo11, fun v d H12 at4 dv sv B12 S12 => ?_⟩
      have eo12 := S12 _ _ eo11 nob
      have L12 := L11.but S12 B12.bx
      repeat walk_at "rd1"
      refine al (by simp) fun p13 H13 A13 => ?_
      have st13 := Same.seqT (hid_same A13.same) (Same.seqT (hid_but S12 hb') st)
      refine v_catT (sq_hid st13) (SqT.of A13.at_) (by simp; omega) (by simp) (by simp) fun t14 H14 A14 => ?_
      repeat walk_at "rd1"
      have eo13 := A13.same _ _ eo12
      refine ⟨_, t14, xs ++ [v], ps ++ [d], _, _, rfl, A14.but (A13.but (S11.trans S12)), (B12.same A13.same).same A14.same, A14.same _ _ eo13, dss_same A14.same (dss_same A13.same (dss_but S12 hb' g11)), SqT.of (hid_new A14 (live_cons (L12.same A13.same) eo13)), ?_, strBs_app sx (by simp [strB.strBs, sv]), by simp [lx]⟩
      exact dpAll_app (dss_same A14.same (dss_same A13.same (dss_but S12 hb' gx))) (.cons (ds_same (A13.same.trans A14.same) dv) .nil)
    · rintro σ H11 ⟨at3, t, xs, ps, v7, v8, rfl, S11, B11, eo11, g11, st, gx, sx, lx⟩
      have L11 : Live S H11 := hL.but S11 B11.bx
      have fin : ∀ (at4 : Int) (y : V) (d : PyData) (Hz : Hp), DS K (o :: S) Hz y d → strB d = true → SameBut b H Hz → BoxAt K Hz b r ns at4 → Hz o = some (.lst vs) → DpAll K (hid (o :: S) Hz) vs ds → ∃ (at2 : Int) (vs2 : List V) (ds2 : List PyData), SameBut b H (upd Hz o (.lst (vs ++ [y]))) ∧ BoxAt K (upd Hz o (.lst (vs ++ [y]))) b r ns at2 ∧ (upd Hz o (.lst (vs ++ [y]))) o = some (.lst vs2) ∧ vs2.length = i + 1 ∧ DpAll K (hid (o :: S) (upd Hz o (.lst (vs ++ [y])))) vs2 ds2 ∧ strB.strBs ds2 = true := by
        intro at4 y d Hz dy sy Sz Bz ez gz
        have sD : SameBut o Hz (upd Hz o (.lst (vs ++ [y]))) := .upd
        have Su : SameBut b H (upd Hz o (.lst (vs ++ [y]))) := Sz.up A1.nw
        refine ⟨at4, vs ++ [y], ds ++ [d], Su, ⟨?_, Su.seq hB.ne hB.rw, hB.ne, Bz.nn⟩, upd_same, by simp [l5], ?_, strBs_app sb5 (by simp [strB.strBs, sy])⟩
        · rw [upd_ne nob.symm]; exact Bz.bx
        · exact dss_but sD List.mem_cons_self (dpAll_app gz (.cons dy .nil))
      have dst : DS K (o :: S) H11 (.ref t) (.tuple (.str wd :: ps)) := .tup st (.cons (.str wd) gx)
      have sst : strB (.tuple (.str wd :: ps)) = true := by
        simp only [strB, strB.strBs, Bool.and_eq_true] at sw ⊢
        exact ⟨sw, sx⟩
      have hsg : (signsV fm).length = fm.length := by simp [signsV, Str.length]
      repeat walk_at "rd1"
      refine drw B11 80 rfl (by decide) fun i12 H12 hi12 B12 S12 => ?_
      have eo12 := S12 _ _ eo11 nob
      have L12 := L11.but S12 B12.bx
      have g12 := dss_but S12 hb' g11
      have st12 := Same.seqT (hid_but S12 hb') st
      have gx12 := dss_but S12 hb' gx
      have dst12 := ds_but S12 hb' dst
      replace S12 := S11.trans S12
      repeat walk_at "rd1"
      refine w_b (fun h2 => ?_) (fun h2 => ?_)
      · have Lo := live_cons L12 eo12
        have swx : strB.strBs (.str wd :: ps) = true := by simpa [strB] using sst
        have gall : DpAll K (hid (o :: S) H12) (.str wd :: xs) (.str wd :: ps) := .cons (.str wd) gx12
        have hxn : xs ≠ [] := by
          intro e
          rw [e, hsg] at lx
          simp at lx
          omega
        have hx4 : xs.length ≤ 4 := by rw [lx, hsg]; exact fl
        repeat walk_at "rd1"
        refine v_slm (sq_hid st12) (by simp) fun p1 Ha Aa => ?_
        have La := Lo.same Aa.same
        have G1 : DpAll K (hid (o :: S) Ha) [.ref p1] [.tuple (PyData.str wd :: ps).dropLast] := .cons (ds_tup Aa Lo (dpAll_dropLast gall)) .nil
        repeat walk_at "rd1"
        refine al (by simp) fun t2 Hb Ab => ?_
        have Lb := La.same Ab.same
        have sb1 := Aa.same.trans Ab.same
        refine v_catT (Same.seqT sb1 (sq_hid st12)) (SqT.of Ab.at_) (by simp; omega) (by simp) (by simp) fun p2 Hc Ac => ?_
        have Lc := Lb.same Ac.same
        have G2 := dpAll_snoc (Ab.same.trans Ac.same) G1 (ds_tup Ac Lb (dpAll_app (dss_same sb1 gall) (.cons (.int 1) .nil)))
        have sc := sb1.trans Ac.same
        repeat walk_at "rd1"
        refine ⟨t, _, rfl, .inr (Same.seqT sc (sq_hid st12)), fun p3 hp3 => ?_⟩
        have Ad : Alloc Hc p3 (.lst (.str wd :: xs)) (upd Hc p3 (.lst (.str wd :: xs))) := ⟨hp3, rfl⟩
        generalize upd Hc p3 (.lst (.str wd :: xs)) = Hd at Ad ⊢
        have Ld := Lc.same Ad.same
        have sd := sc.trans Ad.same
        have G3 := dpAll_snoc Ad.same G2 (ds_lst Ad Lc (dss_same sc gall))
        repeat walk_at "rd1"
        refine al (by simp) fun t4 He Ae => ?_
        have Le := Ld.same Ae.same
        have se := sd.trans Ae.same
        repeat walk_at "rd1"
        refine v_sl1 (Same.seqT se (sq_hid st12)) fun t5 Hf Af => ?_
        have Lf := Le.same Af.same
        have sf := se.trans Af.same
        refine v_catT (SqT.of (Af.same _ _ Ae.at_)) (SqT.of Af.at_) (by simp; omega) (by simp) hxn fun p4 Hg Ag => ?_
        have Lg := Lf.same Ag.same
        have G4 := dpAll_snoc ((Ae.same.trans Af.same).trans Ag.same) G3 (ds_tup Ag Lf (.cons (.str "nothing") (dss_same sf gx12)))
        have sg := sf.trans Ag.same
        repeat walk_at "rd1"
        refine al (by simp) fun p5 Hh Ah => ?_
        have sh := sg.trans Ah.same
        have G5 := dss_same Ah.same G4
        have Bh := B12.same sh
        have eoh := sh _ _ eo12
        have gh := dss_same sh g12
        repeat walk_at "rd1"
        refine drw Bh 4 rfl (by decide) fun i13 H13 hi13 B13 S13 => ?_
        have e13 := S13 _ _ Ah.at_ (by rintro rfl; have := Ah.at_; rw [Bh.bx] at this; cases this)
        have G6 := dss_but S13 hb' G5
        have eo13 := S13 _ _ eoh nob
        have g13 := dss_but S13 hb' gh
        have sB : strB.strBs [.tuple (PyData.str wd :: ps).dropLast, .tuple ((PyData.str wd :: ps) ++ [.int 1]), .list (.str wd :: ps), .tuple (.str "nothing" :: ps)] = true := by
          have h1 := strBs_dropLast swx
          have h2 : strB.strBs ((PyData.str wd :: ps) ++ [.int 1]) = true := strBs_app swx rfl
          have h3 : strB.strBs (PyData.str "nothing" :: ps) = true := by
            rw [strB.strBs, Bool.and_eq_true]; exact ⟨by decide +kernel, sx⟩
          have e : ∀ (a b c d : PyData), strB a = true → strB b = true → strB c = true → strB d = true → strB.strBs [a, b, c, d] = true := by
            intro a b c d h1 h2 h3 h4
            simp [strB.strBs, h1, h2, h3, h4]
          exact e _ _ _ _ (by rw [strB]; exact h1) (by rw [strB]; exact h2) (by rw [strB]; exact swx) (by rw [strB]; exact h3)
        obtain ⟨v, d, hv, dv, sv⟩ := menu_get (i := i13) G6 sB hi13
        refine v_ixL (SqL.of e13) (at_of rfl hv) ?_
        repeat walk_at "rd1"
        refine ⟨ty_lst (SqL.of eo13), ?_⟩
        repeat walk_at "rd1"
        refine v_app eo13 (line1000' (by omega)) ?_
        repeat walk_at "rd1"
        obtain ⟨a2, vs2, ds2, z⟩ := fin _ _ _ _ dv sv ((S12.trans (.of sh)).trans S13) B13 eo13 g13
        exact ⟨a2, vs2, ds2, _, _, _, _, rfl, z⟩
      · repeat walk_at "rd1"
        refine ⟨ty_lst (SqL.of eo12), ?_⟩
        repeat walk_at "rd1"
        refine v_app eo12 (line1000' (by omega)) ?_
        repeat walk_at "rd1"
        obtain ⟨a2, vs2, ds2, z⟩ := fin _ _ _ _ dst12 sst S12 B12 eo12 g12
        exact ⟨a2, vs2, ds2, _, _, _, _, rfl, z⟩
  · rintro σ H5 ⟨at2, vs, ds, v3, v4, v5, v6, rfl, S5, B5, eo5, l5, g5, sb5⟩
    repeat walk_at "rd1"
    exact q _ (.list ds) _ _ (ds_close eo5 noS g5) (by simpa [strB] using sb5) B5 S5
theorem ok_l_some_block {P : Program} {w : World} {K : PySem.W.Frag} {mg : Str → Option Value} {base : Heap} (T : Wd w K mg) : ∀ n : Nat, Cal P w K mg base "_law_some_block" CX0 (11 + 2 * n) (sp_l_some_block K n)
  | 0 => by
    refine mk_cal T 28 rfl sc_l_some_block (m__law_some_block T) (fun _ _ _ _ _ _ us hl => match us, hl with | [_, _], _ => rfl) (fun vs H Q E h => ?_) (fun f cdv A outer s H vs Q E hr h => ?_)
    · obtain ⟨b, r, ns, at_, S, dep, rfl, _⟩ := h; rfl
    · obtain ⟨b, r, ns, at_, S, dep, rfl, hn, _⟩ := h
      exact absurd hn (Nat.not_lt_zero _)
  | n + 1 => by
    have c := l_block_next T n (l_part_next T n (ok_l_some_block (P := P) (w := w) (base := base) T n))
    rw [show 13 + 2 * n = 11 + 2 * (n + 1) by omega] at c
    exact c

def sp_law (K : PySem.W.Frag) : Sp := fun vs H Q _ => ∃ (a : Addr) (ns : List Int), vs = [.ref a] ∧ SqL K H a (ns.map V.int) ∧ ns.length ≤ 63 ∧ ∀ H', Q (.bl true) H'
theorem ok_law {P : Program} {w : World} {K : PySem.W.Frag} {mg : Str → Option Value} {base : Heap} (T : Wd w K mg) {fL : Addr} {fdL : FuncData} (F : FunD K "law" "law" (defArgs s_law) (defBody s_law) (defScope s_law) [] [] fL fdL) : FnOk P w K mg base CX0 40 fL fdL ["_law_script"] (sp_law K) := by
  have c_l_row := ok_l_row (P := P) (w := w) (base := base) T
  have c_l_draw := ok_l_draw (P := P) (w := w) (base := base) T
  have c_is_program := ok_is_program (P := P) (w := w) (base := base) T
  refine mk_fn F sc_law (fun vs H Q E h => ?_) (fun f cdv A outer s H vs Q E hr h => ?_)
  · obtain ⟨a, ns, rfl, _⟩ := h; rfl
  have c_l_count := ok_l_count (P := P) (w := w) (base := base) T 6
  have c_l_some_block := ok_l_some_block (P := P) (w := w) (base := base) T 9
  obtain ⟨a, ns, rfl, hS, _, q⟩ := h
  refine ⟨_, (pss_cons (ps_set (i := 1) sc_law.nd rfl (Or.inl rfl) (pe_lst (pa_cons (pe_cal c_l_row (hr.mono (by decide)) pass0 (pa_cons (pv 0) (pa_cons pe_int (pa_cons pe_int pa_nil)))) (pa_cons pe_int pa_nil))))
  (pss_cons (ps_for PassesOwn.never rfl (pi_range1 (by rfl) (m_range T) (pa_cons pe_int pa_nil)) (pg_name (i := 2) sc_law.nd rfl (Or.inl rfl))
   (pss_cons (ps_set (i := 3) sc_law.nd rfl (Or.inl rfl) (pe_cal c_l_some_block (hr.mono (by decide)) pass0 (pa_cons (pv 1) (pa_cons (pe_ix (ixS (K := K)) (pe_lst (pa_cons pe_int (pa_cons pe_int (pa_cons pe_int (pa_cons pe_int pa_nil))))) (pe_cal c_l_draw (hr.mono (by decide)) pass0 (pa_cons (pv 1) (pa_cons pe_int pa_nil))) (fun _ _ => rfl)) pa_nil))))
  (pss_cons (ps_set (i := 4) sc_law.nd rfl (Or.inl rfl) (pe_cal c_is_program (hr.mono (by decide)) pass0 (pa_cons (pv 3) pa_nil)))
  (pss_one (ps_if (pw_or (pt_not (pt_val (pe_callB (call_isiK (K := K) .bl) (by rfl) (m_isinstance T) (by decide +kernel) (pa_cons (pv 4) (pa_cons (pe_tyB (n := Kd.nm .bl) (by rfl) (m_bool T) (by decide +kernel)) pa_nil))))) (pw_or1 (pt_cmpR (opNe (K := K) (hu64 hr)) (pv 4) (pe_cmpR op_le (pe_cal c_l_count (hr.mono (by decide)) pass0 (pa_cons (pv 3) (pa_cons pe_int pa_nil))) pe_int (nomark _)) (nomark _)))).pt (pss_one (ps_ret pe_bl)) pss_nil)))))
  (pss_cons (ps_set (i := 5) sc_law.nd rfl (Or.inl rfl) (pe_lst (pa_cons (pe_tup (pa_cons pe_str (pa_cons (pe_tup (pa_cons pe_str (pa_cons pe_int pa_nil))) pa_nil))) pa_nil)))
  (pss_cons (ps_for PassesOwn.never rfl (pi_range1 (by rfl) (m_range T) (pa_cons pe_int pa_nil)) (pg_name (i := 6) sc_law.nd rfl (Or.inl rfl))
   (pss_cons (ps_set (i := 4) sc_law.nd rfl (Or.inl rfl) (pe_cal c_is_program (hr.mono (by decide)) pass0 (pa_cons (pv 5) pa_nil)))
  (pss_cons (ps_if (pw_or (pt_not (pt_val (pe_callB (call_isiK (K := K) .bl) (by rfl) (m_isinstance T) (by decide +kernel) (pa_cons (pv 4) (pa_cons (pe_tyB (n := Kd.nm .bl) (by rfl) (m_bool T) (by decide +kernel)) pa_nil))))) (pw_or1 (pt_cmpR (opNe (K := K) (hu64 hr)) (pv 4) (pe_cmpR op_le (pe_cal c_l_count (hr.mono (by decide)) pass0 (pa_cons (pv 5) (pa_cons pe_int pa_nil))) pe_int (nomark _)) (nomark _)))).pt (pss_one (ps_ret pe_bl)) pss_nil)
  (pss_one (ps_set (i := 5) sc_law.nd rfl (Or.inl rfl) (pe_lst (pa_cons (pe_tup (pa_cons pe_str (pa_cons (pe_tup (pa_cons pe_str (pa_cons pe_bl pa_nil))) (pa_cons (pv 5) (pa_cons (pe_lst pa_nil) pa_nil))))) pa_nil)))))))
  (pss_cons (ps_set (i := 7) sc_law.nd rfl (Or.inl rfl) (pe_op (opAdd (K := K)) pe_int (pe_cal c_l_draw (hr.mono (by decide)) pass0 (pa_cons (pv 1) (pa_cons pe_int pa_nil)))))
  (pss_cons (ps_set (i := 8) sc_law.nd rfl (Or.inl rfl) (pe_lst (pa_cons (pe_tup (pa_cons pe_str (pa_cons pe_str (pa_cons (pe_op opMul (pe_lst (pa_cons (pe_tup (pa_cons pe_str (pa_cons (pe_tup (pa_cons pe_str (pa_cons pe_int pa_nil))) pa_nil))) pa_nil)) (pe_op op_sub (pv 7) pe_int)) pa_nil)))) (pa_cons (pe_tup (pa_cons pe_str (pa_cons pe_str pa_nil))) (pa_cons (pe_tup (pa_cons pe_str (pa_cons pe_str pa_nil))) pa_nil)))))
  (pss_cons (ps_set (i := 4) sc_law.nd rfl (Or.inl rfl) (pe_cal c_is_program (hr.mono (by decide)) pass0 (pa_cons (pv 8) pa_nil)))
  (pss_cons (ps_if (pw_or (pt_not (pt_val (pe_callB (call_isiK (K := K) .bl) (by rfl) (m_isinstance T) (by decide +kernel) (pa_cons (pv 4) (pa_cons (pe_tyB (n := Kd.nm .bl) (by rfl) (m_bool T) (by decide +kernel)) pa_nil))))) (pw_or1 (pt_cmpR (opNe (K := K) (hu64 hr)) (pv 4) (pe_cmpR op_le (pv 7) pe_int (nomark _)) (nomark _)))).pt (pss_one (ps_ret pe_bl)) pss_nil)
  (pss_cons (ps_setLc (i := 9) (own := [("_law_k", 6)]) (g := gName 6) rfl sc_law.nd rfl rfl (sw_true rfl rfl rfl (by decide +kernel)) (pi_range1 (by rfl) (m_range T) (pa_cons (pe_op (opAdd (K := K)) pe_int (pe_cal c_l_draw (hr.mono (by decide)) pass0 (pa_cons (pv 1) (pa_cons pe_int pa_nil)))) pa_nil)) (blkOk_by (own := [("_law_k", 6)]) (N := N_law) (sc := defScope s_law) (by decide +kernel)) (fun _ _ _ _ _ => pg_name (i := 6) sc_law.nd rfl (Or.inl rfl)) (fun _ _ _ _ _ => pts_nil) (fun _ _ _ _ _ => (pe_tup (pa_cons (pe_ix (ixS (K := K)) pe_str (pv 6) (fun _ _ => rfl)) (pa_cons (pe_tup (pa_cons pe_str (pa_cons (pv 6) pa_nil))) pa_nil)))))
  (pss_cons (ps_set (i := 4) sc_law.nd rfl (Or.inl rfl) (pe_cal c_is_program (hr.mono (by decide)) pass0 (pa_cons (pe_lst (pa_cons (pe_tup (pa_cons pe_str (pa_cons pe_str (pa_cons (pv 9) pa_nil)))) pa_nil)) pa_nil)))
  (pss_cons (ps_if (pw_or (pt_not (pt_val (pe_callB (call_isiK (K := K) .bl) (by rfl) (m_isinstance T) (by decide +kernel) (pa_cons (pv 4) (pa_cons (pe_tyB (n := Kd.nm .bl) (by rfl) (m_bool T) (by decide +kernel)) pa_nil))))) (pw_or1 (pt_cmpR (opNe (K := K) (hu64 hr)) (pv 4) (pe_cmpR op_le (pe_callB (callLen (K := K)) (by rfl) (m_len T) (by decide +kernel) (pa_cons (pv 9) pa_nil)) pe_int (nomark _)) (nomark _)))).pt (pss_one (ps_ret pe_bl)) pss_nil)
  (pss_cons (ps_for PassesOwn.never rfl (pi_list (pe_lst (pa_cons pe_non (pa_cons (pe_tup pa_nil) (pa_cons pe_int (pa_cons pe_str (pa_cons pe_dnewK (pa_cons (pe_lst (pa_cons (pe_lst pa_nil) pa_nil)) (pa_cons (pe_lst (pa_cons (pe_tup (pa_cons pe_str (pa_cons pe_str (pa_cons (pe_tup (pa_cons pe_str (pa_cons pe_int pa_nil))) pa_nil)))) (pa_cons pe_int pa_nil))) pa_nil))))))))) (pg_name (i := 10) sc_law.nd rfl (Or.inl rfl))
   (pss_one (ps_if (pt_cmpR op_notBl (pe_cal c_is_program (hr.mono (by decide)) pass0 (pa_cons (pv 10) pa_nil)) pe_bl (nomark _)) (pss_one (ps_ret pe_bl)) pss_nil)))
  (pss_one (ps_ret (pe_cmpR op_isB (pe_cal c_is_program (hr.mono (by decide)) pass0 (pa_cons (pe_lst pa_nil) pa_nil)) pe_bl (nomark _)))))))))))))))), ?_⟩
  repeat walk_at "rd1"
  refine ⟨a, ns, 0, 50, rfl, hS, by decide, by decide, by decide, fun r H1 row hr1 s1 e1 l1 => ?_⟩
  repeat walk_at "rd1"
  refine al (by simp) fun b H2 A2 => ?_
  have nrb : r ≠ b := ne_of_none e1 A2.nw
  have B0 : BoxAt K H2 b r row 0 := ⟨A2.at_, SqL.of (A2.same _ _ e1), nrb, Int.le_refl 0⟩
  repeat walk_at "rd1"
  refine ⟨6, rfl, by decide, by decide, ?_⟩
  refine for_it (it_range (lo := 0) (n := 6)) (fun i σ H' => ∃ (at_ : Int) (v2 v3 v4 : Option V), σ = [some (.ref a), some (.ref b), v2, v3, v4, none, none, none, none, none, none] ∧ BoxAt K H' b r row at_)
    ⟨0, none, none, none, rfl, B0⟩ (fun _ _ _ _ _ => trivial) ?_ ?_
  · rintro i x σ H3 hx ⟨at_, v2, v3, v4, rfl, B3⟩
    repeat walk_at "rd1"
    refine al (by simp) fun p H4 A4 => ?_
    repeat walk_at "rd1"
    refine drw (B3.same A4.same) 4 rfl (by decide) fun j H5 hj B5 S5 => ?_
    have e5 := S5 _ _ A4.at_ (ne_of_none B3.bx A4.nw).symm
    obtain ⟨k, hk, hk7⟩ : ∃ k : Int, [V.int 2, V.int 3, V.int 4, V.int 7][j]? = some (V.int k) ∧ (k + 1).toNat < 9 := by
      match j, hj with
      | 0, _ | 1, _ | 2, _ | 3, _ => exact ⟨_, rfl, by decide⟩
    refine v_ixL (SqL.of e5) (at_of rfl hk) ?_
    repeat walk_at "rd1"
    refine ⟨b, r, row, _, [b], k, rfl, hk7, B5, by simp, (fun x hx => by simp at hx; subst hx; exact ⟨_, B5.bx⟩), fun v d H6 at6 dv sv B6 S6 => ?_⟩
    have dd := ds_dp dv
    repeat walk_at "rd1"
    refine ⟨v, rfl, .inr ⟨d, dd, sv, fun H7 s7 => ?_⟩⟩
    repeat walk_at "rd1"
    refine ⟨v, 5, 1, rfl, by omega, by omega, .inr ⟨d, dp_same s7 _ _ dd, sv, fun H8 c s8 hc => ?_⟩⟩
    repeat walk_at "rd1"
    rw [prog_cnt hc, decide_eq_true (rfl : V.bl (decide (c ≤ 200)) = V.bl (decide (c ≤ 200)))]
    repeat walk_at "rd1"
    exact ⟨_, _, _, _, rfl, B6.same (s7.trans s8)⟩
  rintro σ H3 ⟨at_, v2, v3, v4, rfl, B3⟩
  repeat walk_at "rd1"
  refine al (by simp) fun t1 Ha Aa => ?_
  have d1 := dpAll_tupA (K := K) Aa (.cons (.str "value") (.cons (.int 1) .nil))
  repeat walk_at "rd1"
  refine al (by simp) fun t2 Hb Ab => ?_
  have d2 := dpAll_tupA (K := K) Ab (.cons (.str "emit") (.cons d1 .nil))
  repeat walk_at "rd1"
  refine al (by simp) fun t3 Hc Ac => ?_
  have d3 := dp_lstA (K := K) Ac (.cons d2 .nil)
  have B4 := ((B3.same Aa.same).same Ab.same).same Ac.same
  repeat walk_at "rd1"
  refine ⟨7, rfl, by decide, by decide, ?_⟩
  refine for_it (it_range (lo := 0) (n := 7)) (fun i σ H' => ∃ (v : V) (d : PyData) (u4 v6 : Option V), σ = [some (.ref a), some (.ref b), v2, v3, u4, some v, v6, none, none, none, none] ∧ BoxAt K H' b r row at_ ∧ Dp K H' v d ∧ strB d = true)
    ⟨_, _, v4, none, rfl, B4, d3, by decide +kernel⟩ (fun _ _ _ _ _ => trivial) ?_ ?_
  · rintro i x σ H5 hx ⟨v, d, u4, v6, rfl, B5, dd, sv⟩
    repeat walk_at "rd1"
    refine ⟨v, rfl, .inr ⟨d, dd, sv, fun H7 s7 => ?_⟩⟩
    repeat walk_at "rd1"
    refine ⟨v, 5, 1, rfl, by omega, by omega, .inr ⟨d, dp_same s7 _ _ dd, sv, fun H8 c s8 hc => ?_⟩⟩
    repeat walk_at "rd1"
    rw [prog_cnt hc, decide_eq_true (rfl : V.bl (decide (c ≤ 200)) = V.bl (decide (c ≤ 200)))]
    have s9 := s7.trans s8
    repeat walk_at "rd1"
    refine al (by simp) fun t1 Ha Aa => ?_
    have d1 := dpAll_tupA (K := K) Aa (.cons (.str "value") (.cons (.bl true) .nil))
    repeat walk_at "rd1"
    refine al (by simp) fun t2 Hb Ab => ?_
    have d2 := dp_lstA (K := K) Ab .nil
    repeat walk_at "rd1"
    refine al (by simp) fun t3 Hc Ac => ?_
    have d3 := dpAll_tupA (K := K) Ac (.cons (.str "if") (.cons (dp_same Ab.same _ _ d1) (.cons (dp_same ((s9.trans Aa.same).trans Ab.same) _ _ dd) (.cons d2 .nil))))
    repeat walk_at "rd1"
    refine al (by simp) fun t4 Hd Ad => ?_
    have d4 := dp_lstA (K := K) Ad (.cons d3 .nil)
    repeat walk_at "rd1"
    refine ⟨_, _, _, _, rfl, B5.same ((((s9.trans Aa.same).trans Ab.same).trans Ac.same).trans Ad.same), d4, ?_⟩
    have h1 : strB (.str "if") = true := by decide +kernel
    have h2 : strB (.tuple [.str "value", .bool true]) = true := by decide +kernel
    simp [strB, strB.strBs, sv]
    decide +kernel
  rintro σ H5 ⟨v, d, u4, v6, rfl, B5, dd, sv⟩
  clear dd sv d3 d2 d1
  repeat walk_at "rd1"
  refine drw B5 20 rfl (by decide) fun j H6 hj B6 S6 => ?_
  clear S6 B5 B4 Aa Ab Ac
  repeat walk_at "rd1"
  refine al (by simp) fun t1 Ha Aa => ?_
  have d1 := dpAll_tupA (K := K) Aa (.cons (.str "value") (.cons (.int 1) .nil))
  repeat walk_at "rd1"
  refine al (by simp) fun t2 Hb Ab => ?_
  have d2 := dpAll_tupA (K := K) Ab (.cons (.str "emit") (.cons d1 .nil))
  repeat walk_at "rd1"
  refine al (by simp) fun t3 Hc Ac => ?_
  have g3 : DpAll K Hc [.ref t2] [emitD] := .cons (dp_same Ac.same _ _ d2) .nil
  repeat walk_at "rd1"
  refine v_rep Ac.at_ (by omega) (by omega) (by simp) fun t4 Hd Ad => ?_
  have d4 := dp_lstA (K := K) Ad (dpAll_rep g3 (190 + (j : Int) - 3).toNat)
  repeat walk_at "rd1"
  refine al (by simp) fun t5 He Ae => ?_
  have d5 := dpAll_tupA (K := K) Ae (.cons (.str "effect") (.cons (.str "a") (.cons d4 .nil)))
  repeat walk_at "rd1"
  refine al (by simp) fun t6 Hf Af => ?_
  have d6 := dpAll_tupA (K := K) Af (.cons (.str "scope") (.cons (.str "b") .nil))
  repeat walk_at "rd1"
  refine al (by simp) fun t7 Hg Ag => ?_
  have d7 := dpAll_tupA (K := K) Ag (.cons (.str "scope") (.cons (.str "c") .nil))
  repeat walk_at "rd1"
  refine al (by simp) fun t8 Hh Ah => ?_
  have d8 : Dp K Hh (.ref t8) (longD (190 + (j : Int) - 3).toNat) := dp_lstA (K := K) Ah (.cons (dp_same (Af.same.trans Ag.same) _ _ d5) (.cons (dp_same Ag.same _ _ d6) (.cons d7 .nil)))
  have Bh := B6.same (Aa.same.trans (Ab.same.trans (Ac.same.trans (Ad.same.trans (Ae.same.trans (Af.same.trans (Ag.same.trans Ah.same)))))))
  repeat walk_at "rd1"
  refine ⟨_, rfl, .inr ⟨_, d8, str_long _, fun Hi si => ?_⟩⟩
  have Bi := Bh.same si
  have ep : progD (longD (190 + (j : Int) - 3).toNat) = decide (190 + (j : Int) ≤ 200) := by
    rw [prog_long]
    exact decide_eq_decide.mpr (by omega)
  repeat walk_at "rd1"
  rw [ep, decide_eq_true (rfl : V.bl (decide (190 + (j : Int) ≤ 200)) = V.bl (decide (190 + (j : Int) ≤ 200)))]
  clear d8 d7 d6 d5 d4 g3 d2 d1 Bh B6 ep
  repeat walk_at "rd1"
  refine drw Bi 4 rfl (by decide) fun j4 H7 hj4 B7 S7 => ?_
  clear S7
  repeat walk_at "rd1"
  refine ⟨_, rfl, by omega, by omega, fun D hD => ?_⟩
  have nDb : D ≠ b := (ne_of_none B7.bx hD).symm
  have hn6 : (6 + (j4 : Int)).toNat = 6 + j4 := by omega
  refine lc_it (it_range (lo := 0)) (fun i H' => ∃ (vs : List V), Same H7 H' ∧ H' D = some (.lst vs) ∧ vs.length = i ∧ DpAll K (hid [D] H') vs ((List.range i).map pairK))
    ⟨[], same_upd hD, upd_same, rfl, .nil⟩ (fun _ _ _ _ => trivial) ?_ ?_
  · rintro i x H8 hx ⟨vs, s8, e8, l8, g8⟩
    obtain ⟨hi, rfl⟩ := rangeV_get hx
    have hi9 : i < 9 := by omega
    refine ⟨rfl, ?_⟩
    repeat walk_at "rd1"
    refine v_ixS (by decide) (letter_at hi9) ?_
    repeat walk_at "rd1"
    refine al (by simp) fun t1 Ha Aa => ?_
    have L8 : Live [D] H8 := fun x hx => by simp at hx; subst hx; exact ⟨_, e8⟩
    have d1 := ds_tup (K := K) (S := [D]) Aa L8 (.cons (.str "value") (.cons (.int (0 + (i : Int))) .nil))
    repeat walk_at "rd1"
    refine al (by simp) fun t2 Hb Ab => ?_
    have d2 := ds_tup (K := K) (S := [D]) Ab (L8.same Aa.same) (.cons (.str ⟨#[97 + i]⟩) (.cons d1 .nil))
    have sb := Aa.same.trans Ab.same
    have eb := sb _ _ e8
    have sD : SameBut D Hb (upd Hb D (.lst (vs ++ [.ref t2]))) := .upd
    refine ⟨vs, eb, line1000' (by omega), vs ++ [.ref t2], ?_, upd_same, by simp [l8], ?_⟩
    · intro y o hy
      rw [upd_ne (ne_of_none hy hD)]
      exact sb _ _ (s8 _ _ hy)
    · rw [List.range_succ, List.map_append]
      exact dss_but sD (by simp) (dpAll_snoc sb g8 d2)
  rintro H8 ⟨vs, s8, e8, l8, g8⟩
  have hlen : (rangeV 0 (6 + (j4 : Int)).toNat).length = 6 + j4 := by simp [rangeV]; omega
  rw [hlen] at l8 g8
  obtain ⟨pp, ps⟩ := prog_pairs hj4
  have dl : Dp K H8 (.ref D) (.list ((List.range (6 + j4)).map pairK)) := .lst (SqL.of e8) (dpAll_same hid_le _ _ g8)
  repeat walk_at "rd1"
  refine al (by simp) fun t1 Ha Aa => ?_
  have d1 := dpAll_tupA (K := K) Aa (.cons (.str "store") (.cons (.str "a") (.cons dl .nil)))
  repeat walk_at "rd1"
  refine al (by simp) fun t2 Hb Ab => ?_
  have d2 := dp_lstA (K := K) Ab (.cons d1 .nil)
  repeat walk_at "rd1"
  have sps : strB (.list [.tuple [.str "store", .str "a", .list ((List.range (6 + j4)).map pairK)]]) = true := by
    have h1 : strB (.str "store") = true := by decide +kernel
    have h2 : strB (.str "a") = true := by decide +kernel
    rw [strB, strB.strBs, strB.strBs, strB, strB.strBs, strB.strBs, strB.strBs, strB.strBs, h1, h2, ps]
    rfl
  refine ⟨_, rfl, .inr ⟨_, d2, sps, fun Hc sc => ?_⟩⟩
  repeat walk_at "rd1"
  have ec : SqL K Hc D vs := SqL.of (sc _ _ (Ab.same _ _ (Aa.same _ _ e8)))
  refine v_lenL ec ?_
  repeat walk_at "rd1"
  have ep : progD (.list [.tuple [.str "store", .str "a", .list ((List.range (6 + j4)).map pairK)]]) = decide ((vs.length : Int) ≤ 8) := by
    rw [pp, l8]
    exact decide_eq_decide.mpr (by omega)
  rw [ep, decide_eq_true (rfl : V.bl (decide ((vs.length : Int) ≤ 8)) = V.bl (decide ((vs.length : Int) ≤ 8)))]
  clear ep sps d2 d1 dl g8 ps pp
  repeat walk_at "rd1"
  refine al (by simp) fun t1 Ha Aa => ?_
  have b1 : BadT K Ha (.ref t1) := .inl ⟨.tup, kd_tup Aa.at_, by decide⟩
  repeat walk_at "rd1"
  refine w_dnewK fun t2 Hb Ab => ?_
  have b2 : BadT K Hb (.ref t2) := .inl ⟨.dic, kd_dic Ab.at_, by decide⟩
  repeat walk_at "rd1"
  refine al (by simp) fun t3 Hd Ad => ?_
  have d3 := dp_lstA (K := K) Ad .nil
  repeat walk_at "rd1"
  refine al (by simp) fun t4 He Ae => ?_
  have b4 : BadT K He (.ref t4) := .inr ⟨_, dp_lstA Ae (.cons d3 .nil), by decide +kernel, by decide +kernel⟩
  repeat walk_at "rd1"
  refine al (by simp) fun t5 Hf Af => ?_
  have d5 := dpAll_tupA (K := K) Af (.cons (.str "value") (.cons (.int 1) .nil))
  repeat walk_at "rd1"
  refine al (by simp) fun t6 Hg Ag => ?_
  have d6 := dpAll_tupA (K := K) Ag (.cons (.str "let") (.cons (.str "a") (.cons d5 .nil)))
  repeat walk_at "rd1"
  refine al (by simp) fun t7 Hh Ah => ?_
  have b7 : BadT K Hh (.ref t7) := .inr ⟨_, dp_lstA Ah (.cons d6 (.cons (.int 3) .nil)), by decide +kernel, by decide +kernel⟩
  repeat walk_at "rd1"
  refine al (by simp) fun t8' Hi Ai => ?_
  have sgi := Af.same.trans (Ag.same.trans (Ah.same.trans Ai.same))
  have sdi := Ad.same.trans (Ae.same.trans sgi)
  have bad : ∀ v ∈ [V.non, .ref t1, .int 5, .str "let", .ref t2, .ref t4, .ref t7], BadT K Hi v := by
    intro v hv
    simp only [List.mem_cons, List.not_mem_nil, or_false] at hv
    rcases hv with rfl | rfl | rfl | rfl | rfl | rfl | rfl
    · exact .inl ⟨.non, kd_non, by decide⟩
    · exact b1.same (Ab.same.trans sdi)
    · exact .inl ⟨.int, kd_int, by decide⟩
    · exact .inl ⟨.str, kd_str, by decide⟩
    · exact b2.same sdi
    · exact b4.same sgi
    · exact b7.same Ai.same
  repeat walk_at "rd1"
  refine w_exR (SqL.of Ai.at_) ?_
  refine for_it (it_list (a := t8')) (fun i σ H' => (∃ v10 : Option V, σ = _ ++ [v10]) ∧ Same Hi H')
    ⟨⟨none, (List.dropLast_concat_getLast (by simp)).symm⟩, Same.refl _⟩ (fun i σ H' _ h => SqL.of (h.2 _ _ Ai.at_)) ?_ ?_
  · rintro i x σ H9 hx ⟨⟨v10, rfl⟩, s9⟩
    have bx := (bad x (List.mem_of_getElem? hx)).same s9
    repeat walk_at "rd1"
    refine ⟨x, rfl, ?_⟩
    rcases bx with ⟨kk, h, n⟩ | ⟨d, h, sb, e⟩
    · refine .inl ⟨kk, h, n, ?_⟩
      repeat walk_at "rd1"
      refine v_notB ?_
      repeat walk_at "rd1"
      exact ⟨⟨_, rfl⟩, s9⟩
    · refine .inr ⟨d, h, sb, fun H10 s10 => ?_⟩
      rw [e]
      repeat walk_at "rd1"
      refine v_notB ?_
      repeat walk_at "rd1"
      exact ⟨⟨_, rfl⟩, s9.trans s10⟩
  · rintro σ H9 ⟨⟨v10, rfl⟩, s9⟩
    repeat walk_at "rd1"
    refine al (by simp) fun p H10 A10 => ?_
    repeat walk_at "rd1"
    refine ⟨_, rfl, .inr ⟨_, dp_lstA A10 .nil, rfl, fun H11 s11 => ?_⟩⟩
    repeat walk_at "rd1"
    refine v_isB rfl ?_
    exact qb (q _) (by decide +kernel)


/-! ### the head by k_head (a top with dict displays), the facts by names -/
def Says2 (w : World) (K : PySem.W.Frag) : Prop := SaysX fa fn mo ts w K
theorem facts {P : Program} {w : World} {K : PySem.W.Frag} {h : Heap} {mg : Str → Option Value} {f : Addr} (X : K.In h) (G : h.Ns mainGlobals mg) (hfa : mg ("law" : Str) = some (.ref f)) (c : Says2 w K) :
    ∃ fd : FuncData, (∀ (s : Shared) (v : Value), BindsTo s fd ⟨[v], []⟩ [("_law_script", v)]) ∧ ∀ base : Heap, K.In base → base.Ns mainGlobals mg → FnOk P w K mg base CX0 40 f fd ["_law_script"] (sp_law K) := by
  have T : Wd w K mg := ⟨h, X, G, c⟩
  obtain ⟨fd, F⟩ := SaysX.d c |>.def_ 29 (d := dg "law" s_law) rfl
  have e := hfa.symm.trans (m_law T)
  cases e
  have b := FunD.bindsA (ps := ["_law_script"]) F fun _ _ _ _ _ _ us hl => match us, hl with | [_], _ => rfl
  refine ⟨fd, fun s v => b s [v] rfl, fun base _ _ => ?_⟩
  exact ok_law T F
theorem law_holds : PySem.Challenge.rw_ripplewell_k03_programs.Holds := by
  w_on; o_law; k_head
  case hw => w_witness2
  case hc =>
    refine L2.walk_ofE (l := PySem.Challenge.rw_ripplewell_k03_programs) (n := 63) (k := 40) (x := "_law_script") (CX := L2.CX0) rfl (by decide) (by kernel_rfl) ⟨rfl, by decide, by decide⟩ ?F (fun _ _ _ _ z => z)
    intro w mg fL h Y G hmg0
    have KX := PySem.W.kIn_of Y
    have hmg : mg ("law" : PySem.Str) = some (.ref fL) := hmg0
    obtain ⟨fd, hb, hF⟩ := facts (P := (PySem.Challenge.rw_ripplewell_k03_programs).prog) (w := w) KX G hmg (by unfold Says2 SaysX; kernel_rfl)
    exact ⟨_, fd, sp_law _, KX, hb, fun H a ns hl _ hS => ⟨a, ns, rfl, hS, hl, fun _ => rfl⟩, hF⟩


end Rp
theorem PySem.Challenge.cw_ripplewell_k03_programs_holds : PySem.Challenge.rw_ripplewell_k03_programs.Holds := by
  exact Rp.law_holds
#print axioms PySem.Challenge.cw_ripplewell_k03_programs_holds
