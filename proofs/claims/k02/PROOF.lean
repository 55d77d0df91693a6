import PyProof.Rows.All
import Wide.All
import OpenK.AllK
import Wide.FinOn
import HandS.ForMost
import HandS.IsInst
import HandS.More
import HandS.Flow
import HandS.Style
import HandS.TupAny
import HandS.Zip
import HandS.Exc
import HandS.Defaults
import HandS.RaiseMore
import HandS.Head0
import HandS.Head1
import HandS.Head2
import HandS.HeadEnd
import HandS.HeadHook1
import HandS.HeadHook2
import PySem.Challenge.RW_ripplewell_k02_equal_readings
set_option Elab.async false
set_option linter.all false
set_option maxRecDepth 100000
set_option maxHeartbeats 4000000
/-! My own layer over HandS: calls by a bundle, operators over several kinds, simple words. -/
namespace Rp
open PySem L2

/-! ### a def that stands and keeps its promise -/
structure Cal (P : Program) (w : World) (K : PySem.W.Frag) (mg : Str → Option Value) (base : Heap) (x : Str) (CX : CXT) (k : Nat) (sp : Sp) : Prop where
  ex : ∃ f fd ps, FnOk P w K mg base CX k f fd ps sp ∧ mg x = some (.ref f) ∧ PySem.W.keepIn K (.ref f) = true ∧ Binds K fd ps []
section
variable {X : Cx} {CX : CXT} {k : Nat} {sp : Sp} {E : XK} {x : Str} {p pos : Pos} {e : Expr} {es : List Expr} {t : TA}
theorem pe_cal (c : Cal X.prog X.w X.K X.mg X.base x CX k sp) (hr : Room k X.A) (hx : Passes CX X E) (ha : PA X (e :: es) t) (hg : Gl X x := by rfl)
    (hdb : (x == ("__debug__" : Str)) = false := by decide) (he : starEach (e :: es) X.env = (false, eval e X.env) :: starEach es X.env := by rfl) (hpl : (backTo pos (starEach es X.env)).any (·.1) = false := by rfl) :
    PE X (.Call (.Name x p) (e :: es) [] pos) (tCall sp [] E t) := by
  obtain ⟨f, fd, ps, F, hm, hk, hb⟩ := c.ex
  exact pe_call F hr hg hm hk hb .nil hx ha hdb he hpl
theorem pe_cal0 (c : Cal X.prog X.w X.K X.mg X.base x CX k sp) (hr : Room k X.A) (hx : Passes CX X E) (hg : Gl X x := by rfl) (hdb : (x == ("__debug__" : Str)) = false := by decide) :
    PE X (.Call (.Name x p) [] [] pos) (tCall sp [] E tNil) := by
  obtain ⟨f, fd, ps, F, hm, hk, hb⟩ := c.ex
  exact pe_call0 F hr hg hm hk hb .nil hx hdb
/-- a builtin class by its name, as a value -/
theorem pe_tyB {n : String} (hg : Gl X x) (hm : X.mg x = none) (hv : bootBuiltins x = some (.type n)) (hn : x ≠ "__name__" := by decide) (hd : (x == ("__debug__" : Str)) = false := by decide) : PE X (.Name x pos) (tC (.ty n)) :=
  pe_bltn hg hm hv rfl hn hd
theorem pe_gint {i : Int} (hg : Gl X x) (hm : ∃ t, X.mg x = some (.int i t)) (hd : (x == ("__debug__" : Str)) = false := by decide) : PE X (.Name x pos) (tC (.int i)) := by
  obtain ⟨t, hm⟩ := hm
  exact pe_glob hg hm ⟨t, rfl⟩ hd
theorem pe_gstr {z : Str} (hg : Gl X x) (hm : ∃ t, X.mg x = some (.str z t)) (hd : (x == ("__debug__" : Str)) = false := by decide) : PE X (.Name x pos) (tC (.str z)) := by
  obtain ⟨t, hm⟩ := hm
  exact pe_glob hg hm ⟨t, rfl⟩ hd

/-! ### operators over several kinds -/
def rMulS : R2 := fun x y H Q => ∃ z n, x = .str z ∧ y = .int n ∧ z.length ≤ 1 ∧ 0 ≤ n ∧ n ≤ 1000 ∧ Q (.str (Txt.mul z n)) H
theorem op_mulS : OpR X (binaryOp .Mult) rMulS := by
  intro pins s σ H x y v u Q I rx ry h
  obtain ⟨z, n, rfl, rfl, h1, h2, h3, q⟩ := h
  obtain ⟨t, rfl⟩ := rx
  obtain ⟨t', rfl⟩ := ry
  refine PySem.SB.mul (PyProof.Rows.mulOk_of 16 1048576 (by omega) (by omega) (by omega) (by decide) (by decide)) (fun t k => ?_)
  exact ⟨.str _, H, I.tok k, ⟨t, rfl⟩, q⟩
/-- v is True, v is False: v any value but an object of unknown kind -/
def rIsBv : R2 := fun x y H Q => ∃ b : Bool, y = .bl b ∧ flatV x = true ∧ Q (.bl (decide (x = .bl b))) H
theorem op_isB : OpR X (compareOp .Is) rIsBv := by
  intro pins s σ H x y v u Q I rx ry h
  obtain ⟨b, rfl, fx, q⟩ := h
  cases (show u = Value.bool b from ry)
  cases x with
  | non => cases (show v = Value.none from rx); exact wpAny_is_other rfl (fun z => by cases z) ⟨.bl false, H, I, rfl, by simpa using q⟩
  | bl a =>
    cases (show v = Value.bool a from rx)
    by_cases e : a = b
    · subst e; exact wpAny_is_self rfl ⟨.bl true, H, I, rfl, by simpa using q⟩
    · exact wpAny_is_other rfl (fun z => e (Value.bool.inj z)) ⟨.bl false, H, I, rfl, by simpa [e] using q⟩
  | int i => obtain ⟨t, rfl⟩ := rx; exact wpAny_is_other rfl (fun z => by cases z) ⟨.bl false, H, I, rfl, by simpa using q⟩
  | str i => obtain ⟨t, rfl⟩ := rx; exact wpAny_is_other rfl (fun z => by cases z) ⟨.bl false, H, I, rfl, by simpa using q⟩
  | _ => cases fx
end
end Rp
namespace Rp
open PySem L2
/-! ### kinds of things -/
inductive Kd where
  | non | bl | int | str | lst | tup | dic
  deriving DecidableEq
def Kd.nm : Kd → String
  | .non => "NoneType" | .bl => "bool" | .int => "int" | .str => "str" | .lst => "list" | .tup => "tuple" | .dic => "dict"
def Kd.isa : Kd → Kd → Bool
  | .bl, .int => true
  | .non, .non => true | .bl, .bl => true | .int, .int => true | .str, .str => true | .lst, .lst => true | .tup, .tup => true | .dic, .dic => true
  | _, _ => false
theorem kit_tab (a b : Kd) (hb : b ≠ .non) : kitB a.nm b.nm = some (a.isa b) := by
  cases b <;> first | exact absurd rfl hb | (cases a <;> decide +kernel)
def KdOf (K : PySem.W.Frag) (H : Hp) (x : V) (k : Kd) : Prop := TyX K H x (.type k.nm)
section
variable {K : PySem.W.Frag} {H : Hp}
theorem kd_non : KdOf K H .non .non := .base .non
theorem kd_bl {b : Bool} : KdOf K H (.bl b) .bl := .base (.bl b)
theorem kd_int {i : Int} : KdOf K H (.int i) .int := .base (.int i)
theorem kd_str {z : Str} : KdOf K H (.str z) .str := .base (.str z)
theorem kd_lst {a : Addr} {xs : List V} (e : H a = some (.lst xs)) : KdOf K H (.ref a) .lst := .base (.lst e)
theorem kd_tup {a : Addr} {xs : List V} (e : H a = some (.tup xs)) : KdOf K H (.ref a) .tup := .base (.tup e)
theorem kd_dic {a : Addr} {kvs : List (Key × V)} (e : H a = some (.dK kvs)) : KdOf K H (.ref a) .dic := .base (.dK e)
theorem kd_same {H' : Hp} {x : V} {k : Kd} (h : KdOf K H x k) (s : Same H H') : KdOf K H' x k := by
  have g : ∀ t, TyX K H x t → TyX K H' x t := by
    intro t h
    cases h with
    | base b =>
      cases b with
      | non => exact .base .non
      | bl y => exact .base (.bl y)
      | int i => exact .base (.int i)
      | str y => exact .base (.str y)
      | flt y => exact .base (.flt y)
      | lst e => exact .base (.lst (s _ _ e))
      | frz e => exact .base (.frz (s _ _ e))
      | tup e => exact .base (.tup (s _ _ e))
      | dK e => exact .base (.dK (s _ _ e))
      | dT e => exact .base (.dT (s _ _ e))
      | ins e cl ha hn htk hm => exact .base (.ins (s _ _ e) cl ha hn htk hm)
    | byt b => exact .byt b
    | set e => exact .set (s _ _ e)
    | kList e c => exact .kList e c
    | kTuple e c => exact .kTuple e c
    | kDict e c => exact .kDict e c
    | fTuple e => exact .fTuple (s _ _ e)
    | fDict e => exact .fDict (s _ _ e)
  exact g _ h
end
/-- isinstance(e, C), C a built-in class of these -/
def rIsiK (K : PySem.W.Frag) (k : Kd) : List V → Hp → VK → Prop := fun xs H Q => ∃ (x : V) (kk : Kd), xs = [x, .ty k.nm] ∧ KdOf K H x kk ∧ Q (.bl (kk.isa k)) H
theorem call_isiK {X : Cx} {K : PySem.W.Frag} (k : Kd) (hk : k ≠ .non := by decide) (hK : X.K = K := by rfl) : CallR X (.builtin "isinstance") (rIsiK K k) := by
  subst hK
  intro pins s σ H xs us Q I r h
  obtain ⟨x, kk, rfl, hx, q⟩ := h
  exact call_isi pins s σ H _ us Q I r ⟨x, .ty k.nm, _, _, _, rfl, .ty _, hx, kit_ty (kit_tab kk k hk), q⟩
/-! ### calls and operators by several rules -/
def rCatI : R2 := rI0 fun i j => .int (i + j)
def rCatS : R2 := fun x y H Q => ∃ i j, x = .str i ∧ y = .str j ∧ i.length + j.length ≤ sizeLine ∧ Q (.str (i ++ j)) H
def rAddX (K : PySem.W.Frag) : R2 := fun x y H Q => rCatI x y H Q ∨ rCatS x y H Q ∨ rCat x y H Q ∨ rCatA K x y H Q
theorem opAdd {X : Cx} {K : PySem.W.Frag} (hK : X.K = K := by rfl) : OpR X (binaryOp .Add) (rAddX K) := by
  subst hK
  exact OpR.or op_add (OpR.or op_add_str (OpR.or op_cat op_catA))
def rMulI : R2 := rI CMul fun i j => .int (i * j)
def rMulX : R2 := fun x y H Q => rMulI x y H Q ∨ rMulS x y H Q ∨ rRep x y H Q
theorem opMul {X : Cx} : OpR X (binaryOp .Mult) rMulX := OpR.or op_mul (OpR.or op_mulS op_rep)
def rEqX (K : PySem.W.Frag) : R2 := fun x y H Q => rEq x y H Q ∨ rEqD K x y H Q
def rNeX (K : PySem.W.Frag) : R2 := fun x y H Q => rNe x y H Q ∨ rNeD K x y H Q
theorem opEq {X : Cx} {K : PySem.W.Frag} (hu : X.A.units + 64 < cLine) (hK : X.K = K := by rfl) : OpR X (compareOp .Eq) (rEqX K) := by
  subst hK
  exact OpR.or op_eq (op_eqD hu)
theorem opNe {X : Cx} {K : PySem.W.Frag} (hu : X.A.units + 64 < cLine) (hK : X.K = K := by rfl) : OpR X (compareOp .NotEq) (rNeX K) := by
  subst hK
  exact OpR.or op_ne (op_neD hu)
def rInSg : R2 := fun x y H Q => ∃ (c : Nat) (z : Str), x = .str ⟨#[c]⟩ ∧ y = .str z ∧ Q (.bl (decide (c ∈ z.cps.toList))) H
def rNiSg : R2 := fun x y H Q => ∃ (c : Nat) (z : Str), x = .str ⟨#[c]⟩ ∧ y = .str z ∧ Q (.bl (!decide (c ∈ z.cps.toList))) H
def rInX (K : PySem.W.Frag) : R2 := fun x y H Q => rInSg x y H Q ∨ rIn K false x y H Q
def rNiX (K : PySem.W.Frag) : R2 := fun x y H Q => rNiSg x y H Q ∨ rIn K true x y H Q
theorem opIn {X : Cx} {K : PySem.W.Frag} (hK : X.K = K := by rfl) : OpR X (compareOp .In) (rInX K) := by
  subst hK
  exact OpR.or op_in_sign op_in_seq
theorem opNotIn {X : Cx} {K : PySem.W.Frag} (hK : X.K = K := by rfl) : OpR X (compareOp .NotIn) (rNiX K) := by
  subst hK
  exact OpR.or op_notIn_sign op_notIn_seq
def isNonV : V → Bool
  | .non => true
  | _ => false
theorem isNonV_eq (x : V) : isNonV x = decide (x = .non) := by cases x <;> simp [isNonV]
def rIsNX : R2 := fun x y H Q => y = .non ∧ Q (.bl (isNonV x)) H
def rNotNX : R2 := fun x y H Q => y = .non ∧ Q (.bl (!isNonV x)) H
theorem opIsN {X : Cx} : OpR X (compareOp .Is) rIsNX := by
  intro pins s σ H x y v u Q I rx ry h
  obtain ⟨e, q⟩ := h
  exact op_isN pins s σ H x y v u Q I rx ry ⟨e, by rw [← isNonV_eq]; exact q⟩
theorem opNotN {X : Cx} : OpR X (compareOp .IsNot) rNotNX := by
  intro pins s σ H x y v u Q I rx ry h
  obtain ⟨e, q⟩ := h
  exact op_notN pins s σ H x y v u Q I rx ry ⟨e, by rw [← isNonV_eq]; exact q⟩
def rLenX (K : PySem.W.Frag) : List V → Hp → VK → Prop := fun xs H Q => ∃ x n, xs = [x] ∧ LenV K x H n ∧ (n ≤ sizeLine → Q (.int n) H)
theorem callLen {X : Cx} {K : PySem.W.Frag} (hK : X.K = K := by rfl) : CallR X (.builtin "len") (rLenX K) := by
  subst hK
  intro pins s σ H xs us Q I r h
  obtain ⟨x, n, rfl, e, q⟩ := h
  refine call_len pins s σ H _ us Q I r ⟨x, n, rfl, e, q ?_⟩
  cases x with
  | str y => exact e.2 ▸ e.1
  | byt y => exact e.2 ▸ e.1
  | ref a =>
    rcases e with ⟨ys, h, rfl⟩ | ⟨ys, h, rfl⟩
    · obtain ⟨_, _, _, z⟩ := I.list h
      exact z
    · obtain ⟨_, _, _, z⟩ := I.tuple h
      exact z
  | _ => exact e.elim
def rStrX : List V → Hp → VK → Prop := fun xs H Q => (∃ i : Int, xs = [.int i] ∧ i.natAbs.log2 < 1920 ∧ Q (.str (toString i)) H) ∨ ∃ a, xs = [.str a] ∧ Q (.str a) H
theorem callStr {X : Cx} : CallR X (.type "str") rStrX := CallR.or call_str_int SkE.call_str_str
def rIntX : List V → Hp → VK → Prop := fun xs H Q => (∃ i, xs = [.int i] ∧ Q (.int i) H) ∨ ∃ k, xs = [.bl k] ∧ Q (.int (if k then 1 else 0)) H
theorem callInt {X : Cx} : CallR X (.type "int") rIntX := call_int1
def rAbsX : List V → Hp → VK → Prop := fun xs H Q => ∃ i, xs = [.int i] ∧ Q (.int (if i < 0 then -i else i)) H
theorem callAbs {X : Cx} : CallR X (.builtin "abs") rAbsX := call_abs
end Rp
namespace Rp
open PySem L2
/-! ### readings, step by step -/
/-- a new object o at p -/
structure Alloc (H : Hp) (p : Addr) (o : HO) (H' : Hp) : Prop where
  nw : H p = none
  eq : H' = upd H p o
theorem Alloc.same {H H' : Hp} {p : Addr} {o : HO} (A : Alloc H p o H') : Same H H' := by
  obtain ⟨h, rfl⟩ := A
  exact fun b u q => by rw [upd_ne (ne_of_none q h)]; exact q
theorem Alloc.at_ {H H' : Hp} {p : Addr} {o : HO} (A : Alloc H p o H') : H' p = some o := by
  obtain ⟨h, rfl⟩ := A
  exact upd_same
theorem al {xs : List V} {R : Addr → Hp → Prop} {H : Hp} {o : HO} (h : xs.length ≤ 1000000) (q : ∀ p H', Alloc H p o H' → R p H') : xs.length ≤ sizeLine ∧ ∀ p H', Alloc H p o H' → R p H' := ⟨Nat.le_trans h (by decide), q⟩
section
variable {K : PySem.W.Frag} {σ : St} {H : Hp} {i : Nat} {v x y : V} {ta tb te : TE} {Q : VK} {D : Ends} {t u : TS} {r : R2} {c d : TT} {B : Bool → Hp → Prop} {tl : TA} {QA : List V → Hp → Prop} {sp : Sp} {E : XK}
theorem w_var (h : σ[i]? = some (some v)) (q : Q v H) : tVar i σ H Q := ⟨v, h, q⟩
theorem w_c (q : Q v H) : tC v σ H Q := q
theorem w_op (q : ta σ H fun x H1 => tb σ H1 fun y H2 => r x y H2 Q) : tOp r ta tb σ H Q := q
theorem w_cb {r : List V → Hp → VK → Prop} (q : tl σ H fun vs H1 => r vs H1 Q) : tCB r tl σ H Q := q
theorem w_call (q : tl σ H fun vs H1 => sp (vs ++ []) H1 Q E) : tCall sp [] E tl σ H Q := q
theorem w_cons {tr : TA} (q : te σ H fun x H1 => tr σ H1 fun xs H2 => QA (x :: xs) H2) : tCons te tr σ H QA := q
theorem w_nil (q : QA [] H) : tNil σ H QA := q
theorem w_seq (q : t { D with nx := u D } σ H) : tSeq t u D σ H := q
theorem w_next (q : D.nx σ H) : tNext D σ H := q
theorem w_ret (q : te σ H D.rt) : tRet te D σ H := q
theorem w_set (q : te σ H fun x H1 => D.nx (σ.set i (some x)) H1) : tAsg te (gName i) D σ H := q
theorem w_drop (q : te σ H fun _ H1 => D.nx σ H1) : tDrop te D σ H := q
theorem w_if (q : c σ H fun b H1 => if b = true then t D σ H1 else u D σ H1) : tIfS c t u D σ H := q
theorem w_ifx (q : c σ H fun b H1 => if b = true then ta σ H1 Q else tb σ H1 Q) : tIf c ta tb σ H Q := q
theorem w_test (q : te σ H fun x H1 => ∃ k, x = .bl k ∧ B k H1) : tTest te σ H B := q
theorem w_tb (q : te σ H fun x H1 => ∃ k, x = .bl k ∧ B k H1) : tB te σ H B := q
theorem w_not (q : c σ H fun b H1 => B (!b) H1) : tNot c σ H B := q
theorem w_and (q : c σ H fun b H1 => if b = true then d σ H1 B else B false H1) : tAnd c d σ H B := q
theorem w_or (q : c σ H fun b H1 => if b = true then B true H1 else d σ H1 B) : tOr c d σ H B := q
theorem w_andV (q : ta σ H fun x H1 => ∃ k, x = .bl k ∧ if k = true then tb σ H1 Q else Q (.bl false) H1) : tAndV ta tb σ H Q := q
theorem w_orV (q : ta σ H fun x H1 => ∃ k, x = .bl k ∧ if k = true then Q (.bl true) H1 else tb σ H1 Q) : tOrV ta tb σ H Q := q
theorem w_notV (q : ta σ H fun x H1 => ∃ k, x = .bl k ∧ Q (.bl (!k)) H1) : tNotV ta σ H Q := q
theorem w_exb {b : Bool} {P : Bool → Prop} (q : P b) : ∃ k, (V.bl b) = .bl k ∧ P k := ⟨b, rfl, q⟩
theorem w_chain {r r' : R2} {tc : TE} (q : ta σ H fun x H1 => tb σ H1 fun y H2 => r x y H2 fun z H3 => ∃ k, z = .bl k ∧ (if k = true then tc σ H3 fun w' H4 => r' y w' H4 Q else Q (.bl false) H3)) : tChain r r' ta tb tc σ H Q := q
theorem qb {b b' : Bool} (q : Q (.bl b) H) (e : b = b') : Q (.bl b') H := e ▸ q
theorem qv {v v' : V} (q : Q v H) (e : v = v') : Q v' H := e ▸ q
theorem w_T {A C : Prop} (q : A) : if true = true then A else C := by rw [if_pos rfl]; exact q
theorem w_F {A C : Prop} (q : C) : if false = true then A else C := by rw [if_neg Bool.false_ne_true]; exact q
theorem w_nT {A C : Prop} (q : C) : if (!true) = true then A else C := w_F q
theorem w_nF {A C : Prop} (q : A) : if (!false) = true then A else C := w_T q
theorem w_b {b : Bool} {A C : Prop} (q1 : b = true → A) (q2 : b = false → C) : if b = true then A else C := by
  cases b with
  | true => exact w_T (q1 rfl)
  | false => exact w_F (q2 rfl)
-- operators on known values
theorem v_addI {i j : Int} (q : Q (.int (i + j)) H) : rAddX K (.int i) (.int j) H Q := .inl ⟨i, j, rfl, rfl, q⟩
theorem v_subI {i j : Int} (q : Q (.int (i - j)) H) : rI0 (fun i j => .int (i - j)) (.int i) (.int j) H Q := ⟨i, j, rfl, rfl, q⟩
theorem v_cmpI {f : Int → Int → V} {i j : Int} (q : Q (f i j) H) : rI0 f (.int i) (.int j) H Q := ⟨i, j, rfl, rfl, q⟩
theorem v_isN (q : Q (.bl (isNonV x)) H) : rIsNX x .non H Q := ⟨rfl, q⟩
theorem v_notN (q : Q (.bl (!isNonV x)) H) : rNotNX x .non H Q := ⟨rfl, q⟩
theorem w_bT {b : Bool} {A C : Prop} (e : b = true) (q : A) : if b = true then A else C := by rw [if_pos e]; exact q
theorem w_bF {b : Bool} {A C : Prop} (e : b = false) (q : C) : if b = true then A else C := by rw [e]; exact w_F q
theorem v_isB {b : Bool} (h : flatV x = true) (q : Q (.bl (decide (x = .bl b))) H) : rIsBv x (.bl b) H Q := ⟨b, rfl, h, q⟩
theorem v_int {i : Int} (q : Q (.int i) H) : rIntX [.int i] H Q := .inl ⟨i, rfl, q⟩
theorem v_intB {b : Bool} (q : Q (.int (if b then 1 else 0)) H) : rIntX [.bl b] H Q := .inr ⟨b, rfl, q⟩
theorem v_strI {i : Int} (h : i.natAbs.log2 < 1920) (q : Q (.str (toString i)) H) : rStrX [.int i] H Q := .inl ⟨i, rfl, h, q⟩
theorem v_strS {z : Str} (q : Q (.str z) H) : rStrX [.str z] H Q := .inr ⟨z, rfl, q⟩
theorem v_abs {i : Int} (q : Q (.int (if i < 0 then -i else i)) H) : rAbsX [.int i] H Q := ⟨i, rfl, q⟩
theorem v_neg {g : Int → V} {i : Int} (q : Q (g i) H) : rU g (.int i) H Q := ⟨i, rfl, q⟩
theorem w_un {r : V → Hp → VK → Prop} (q : ta σ H fun x H1 => r x H1 Q) : tUn r ta σ H Q := q
theorem v_mod {i j : Int} (h : 0 < j) (q : Q (.int (i % j)) H) : rI (fun _ j => 0 < j) (fun i j => .int (i % j)) (.int i) (.int j) H Q := ⟨i, j, rfl, rfl, h, q⟩
theorem v_fdiv {i j : Int} (h : CDiv i j) (q : Q (.int (i / j)) H) : rI CDiv (fun i j => .int (i / j)) (.int i) (.int j) H Q := ⟨i, j, rfl, rfl, h, q⟩
theorem v_mulI {i j : Int} (h : CMul i j) (q : Q (.int (i * j)) H) : rMulX (.int i) (.int j) H Q := .inl ⟨i, j, rfl, rfl, h, q⟩
theorem v_mulS {z : Str} {n : Int} (h1 : z.length ≤ 1) (h2 : 0 ≤ n) (h3 : n ≤ 1000) (q : Q (.str (Txt.mul z n)) H) : rMulX (.str z) (.int n) H Q := .inr (.inl ⟨z, n, rfl, rfl, h1, h2, h3, q⟩)
theorem v_cat {l b : Addr} {xs zs : List V} (h1 : H l = some (.lst xs)) (h2 : H b = some (.lst zs)) (h3 : xs.length + zs.length ≤ sizeLine) (q : ∀ p, H p = none → Q (.ref p) (upd H p (.lst (xs ++ zs)))) : rAddX K (.ref l) (.ref b) H Q := .inr (.inr (.inl ⟨l, b, xs, zs, rfl, rfl, h1, h2, h3, q⟩))
theorem v_ixL {p : Addr} {xs : List V} {i : Int} (h : SqL K H p xs) (h2 : atI xs i = some v) (q : Q v H) : rIx K (.ref p) (.int i) H Q := .inl ⟨p, xs, i, v, rfl, rfl, h, h2, q⟩
theorem v_ixT {p : Addr} {xs : List V} {i : Int} (h : SqT K H p xs) (h2 : atI xs i = some v) (q : Q v H) : rIx K (.ref p) (.int i) H Q := .inr (.inl ⟨p, xs, i, v, rfl, rfl, h, h2, q⟩)
theorem w_lst {xs : List V} (h : xs.length ≤ sizeLine) (q : ∀ p, H p = none → Q (.ref p) (upd H p (.lst xs))) : (fun (xs : List V) (H1 : Hp) => xs.length ≤ sizeLine ∧ ∀ p, H1 p = none → Q (.ref p) (upd H1 p (.lst xs))) xs H := ⟨h, q⟩
theorem w_tlst (q : tl σ H fun xs H1 => xs.length ≤ sizeLine ∧ ∀ p H', Alloc H1 p (.lst xs) H' → Q (.ref p) H') : tLst tl σ H Q := by
  have e : (fun (xs : List V) (H1 : Hp) => xs.length ≤ sizeLine ∧ ∀ p H', Alloc H1 p (.lst xs) H' → Q (.ref p) H') = fun xs H1 => xs.length ≤ sizeLine ∧ ∀ p, H1 p = none → Q (.ref p) (upd H1 p (.lst xs)) := by
    funext xs H1
    exact propext ⟨fun h => ⟨h.1, fun p hp => h.2 p _ ⟨hp, rfl⟩⟩, fun h => ⟨h.1, fun p H' ⟨hp, e⟩ => e ▸ h.2 p hp⟩⟩
  rw [e] at q
  exact q
theorem w_ttup (q : tl σ H fun xs H1 => xs.length ≤ sizeLine ∧ ∀ p H', Alloc H1 p (.tup xs) H' → Q (.ref p) H') : tTup tl σ H Q := by
  have e : (fun (xs : List V) (H1 : Hp) => xs.length ≤ sizeLine ∧ ∀ p H', Alloc H1 p (.tup xs) H' → Q (.ref p) H') = fun xs H1 => xs.length ≤ sizeLine ∧ ∀ p, H1 p = none → Q (.ref p) (upd H1 p (.tup xs)) := by
    funext xs H1
    exact propext ⟨fun h => ⟨h.1, fun p hp => h.2 p _ ⟨hp, rfl⟩⟩, fun h => ⟨h.1, fun p H' ⟨hp, e⟩ => e ▸ h.2 p hp⟩⟩
  rw [e] at q
  exact q
theorem w_asgE {g : TG} (q : te σ H fun x H1 => g x σ H1 D.nx) : tAsg te g D σ H := q
theorem w_sub {t : V → V → V → Hp → (Hp → Prop) → Prop} {q' : St → Hp → Prop} (q : ta σ H fun o H1 => tb σ H1 fun i H2 => t o i v H2 fun H3 => q' σ H3) : gSub ta tb t v σ H q' := q
theorem v_setL {p : Addr} {xs : List V} {k : Int} {j : Nat} {R : Hp → Prop} (h : H p = some (.lst xs)) (h2 : ixN xs.length k = some j) (q : R (upd H p (.lst (xs.set j v)))) : rSetL (.ref p) (.int k) v H R := ⟨p, xs, k, j, rfl, rfl, h, h2, q⟩
theorem w_bm {T : String} {r : V → List V → Hp → VK → Prop} (q : ta σ H fun x H1 => tyV K T x H1 ∧ tl σ H1 fun xs H2 => r x xs H2 Q) : tBM K T r ta tl σ H Q := q
theorem v_app {l : Addr} {xs : List V} (h : H l = some (.lst xs)) (h2 : xs.length < sizeLine) (q : Q .non (upd H l (.lst (xs ++ [y])))) : rAppend (.ref l) [y] H Q := ⟨l, xs, y, rfl, rfl, h, h2, q⟩
theorem v_eq (h : scal x y = true) (q : Q (.bl (decide (x = y))) H) : rEqX K x y H Q := .inl ⟨h, q⟩
theorem v_ne (h : scal x y = true) (q : Q (.bl (!decide (x = y))) H) : rNeX K x y H Q := .inl ⟨h, q⟩
theorem v_lenS {z : Str} (h : z.length ≤ sizeLine) (q : Q (.int z.length) H) : rLenX K [.str z] H Q := ⟨_, _, rfl, ⟨h, rfl⟩, fun _ => q⟩
theorem v_lenL {a : Addr} {xs : List V} (h : SqL K H a xs) (q : Q (.int xs.length) H) : rLenX K [.ref a] H Q := ⟨_, _, rfl, .inl ⟨xs, h, rfl⟩, fun _ => q⟩
theorem v_lenLb {a : Addr} {xs : List V} (h : SqL K H a xs) (q : xs.length ≤ sizeLine → Q (.int xs.length) H) : rLenX K [.ref a] H Q := ⟨_, _, rfl, .inl ⟨xs, h, rfl⟩, q⟩
theorem v_lenT {a : Addr} {xs : List V} (h : SqT K H a xs) (q : Q (.int xs.length) H) : rLenX K [.ref a] H Q := ⟨_, _, rfl, .inr ⟨xs, h, rfl⟩, fun _ => q⟩
theorem v_lenTb {a : Addr} {xs : List V} (h : SqT K H a xs) (q : xs.length ≤ sizeLine → Q (.int xs.length) H) : rLenX K [.ref a] H Q := ⟨_, _, rfl, .inr ⟨xs, h, rfl⟩, q⟩
theorem small_line {n : Nat} (h : n ≤ sizeLine) : n ≤ 16777216 := Nat.le_trans h (by decide)
theorem v_isi {k kk : Kd} (h : KdOf K H x kk) (q : Q (.bl (kk.isa k)) H) : rIsiK K k [x, .ty k.nm] H Q := ⟨x, kk, rfl, h, q⟩
theorem w_name {P : L2.St → Hp → Prop} (q : P (σ.set i (some v)) H) : gName i v σ H P := q
theorem v_pow {i j : Int} (h : CPow i j) (q : Q (.int (i ^ j.toNat)) H) : rI CPow (fun i j => .int (i ^ j.toNat)) (.int i) (.int j) H Q := ⟨i, j, rfl, rfl, h, q⟩
theorem hu64 {A : Around} {k : Nat} (hr : Room k A) : A.units + 64 < cLine := Nat.lt_of_le_of_lt (by omega) hr.un
def tTruT (K : PySem.W.Frag) (te : TE) : TT := fun σ H Q => te σ H fun x H1 => ∃ k, TruV K x H1 k ∧ Q k H1
theorem w_tru (q : te σ H fun x H1 => ∃ k, TruV K x H1 k ∧ B k H1) : tTruT K te σ H B := q
theorem w_notT (q : te σ H fun x H1 => ∃ k, TruV K x H1 k ∧ Q (.bl (!k)) H1) : tNotT K te σ H Q := q
theorem t_bl {b : Bool} {P : Bool → Prop} (q : P b) : ∃ k, TruV K (.bl b) H k ∧ P k := ⟨b, rfl, q⟩
theorem t_non {P : Bool → Prop} (q : P false) : ∃ k, TruV K .non H k ∧ P k := ⟨false, rfl, q⟩
theorem t_int {i : Int} {P : Bool → Prop} (q : P (i != 0)) : ∃ k, TruV K (.int i) H k ∧ P k := ⟨_, rfl, q⟩
theorem t_lst {a : Addr} {xs : List V} {P : Bool → Prop} (h : SqL K H a xs) (q : P (!xs.isEmpty)) : ∃ k, TruV K (.ref a) H k ∧ P k := ⟨_, .inl ⟨xs, h, rfl⟩, q⟩
theorem t_tup {a : Addr} {xs : List V} {P : Bool → Prop} (h : SqT K H a xs) (q : P (!xs.isEmpty)) : ∃ k, TruV K (.ref a) H k ∧ P k := ⟨_, .inr (.inl ⟨xs, h, rfl⟩), q⟩
end
theorem ty_lst {K : PySem.W.Frag} {a : Addr} {xs : List V} {H : Hp} (h : SqL K H a xs) : tyV K "list" (.ref a) H := .inl ⟨rfl, _, h⟩
section
variable {X : Cx} {K : PySem.W.Frag} {a : Expr} {ta : TE} {pos : Pos}
theorem pt_tru (ha : PE X a ta) (he : ∀ whole, isTrue a X.env whole = (do let v ← whole; standAt a.pos; holding [v] (truthy v)) := by intro _; rfl) (hK : X.K = K := by rfl) : PT X a (tTruT K ta) := by
  subst hK
  exact pt_truth ha he
theorem pe_nt (ha : PE X a ta) (hK : X.K = K := by rfl) : PE X (.UnaryOp .Not a pos) (tNotT K ta) := by
  subst hK
  exact pe_notT ha
end
end Rp
namespace Rp
open PySem L2
/-! ### what the small defs compute -/
def LETTERS : Str := "abcdefghijklmnopqrstuvwxyz"
def isIntV : V → Bool
  | .int _ => true
  | _ => false
def isValV : V → Bool
  | .non => true
  | .bl _ => true
  | .int i => decide (0 ≤ i) && decide (i < 1000)
  | .str z => decide (z.length ≤ 40)
  | _ => false
def isKeyV : V → Bool
  | .str z => (decide (1 ≤ z.length) && decide (z.length ≤ 8)) && z.cps.toList.all (fun c => decide (c ∈ LETTERS.cps.toList))
  | _ => false
/-- [sign in LETTERS for sign in z] -/
def signKeyV : V → V
  | .str z => .bl (decide (z.cps.getD 0 0 ∈ LETTERS.cps.toList))
  | _ => .non
def isBlV : V → Bool
  | .bl _ => true
  | _ => false
def sortV : V → Int
  | .non => 0
  | .bl _ => 1
  | .int _ => 2
  | _ => 3
def textV : V → Str
  | .non => "none"
  | .bl true => "true"
  | .bl false => "false"
  | .int i => toString i
  | .str z => z
  | _ => ""
def emptyV : V → Bool
  | .non => true
  | .bl b => !b
  | .int i => decide (i = 0)
  | .str z => decide (z = "")
  | _ => false
/-- a thing with its kind -/
inductive Kn (K : PySem.W.Frag) (H : Hp) : V → Kd → Prop where
  | non : Kn K H .non .non
  | bl (b : Bool) : Kn K H (.bl b) .bl
  | int (i : Int) : Kn K H (.int i) .int
  | str (z : Str) (h : z.length ≤ 1000) : Kn K H (.str z) .str
  | lst (a : Addr) (h : KdOf K H (.ref a) .lst) : Kn K H (.ref a) .lst
  | tup (a : Addr) (h : KdOf K H (.ref a) .tup) : Kn K H (.ref a) .tup
  | dic (a : Addr) (h : KdOf K H (.ref a) .dic) : Kn K H (.ref a) .dic
theorem Kn.same {K : PySem.W.Frag} {H H' : Hp} {v : V} {k : Kd} (h : Kn K H v k) (s : Same H H') : Kn K H' v k := by
  cases h with
  | non => exact .non
  | bl b => exact .bl b
  | int i => exact .int i
  | str z h => exact .str z h
  | lst a h => exact .lst a (kd_same h s)
  | tup a h => exact .tup a (kd_same h s)
  | dic a h => exact .dic a (kd_same h s)
theorem Kn.kd {K : PySem.W.Frag} {H : Hp} {v : V} {k : Kd} (h : Kn K H v k) : KdOf K H v k := by
  cases h with
  | non => exact kd_non
  | bl b => exact kd_bl
  | int i => exact kd_int
  | str z h => exact kd_str
  | lst a h => exact h
  | tup a h => exact h
  | dic a h => exact h
/-- a flat thing that may be shown -/
def Flat (v : V) : Prop := flatV v = true ∧ (∀ z, v = .str z → z.length ≤ 1000) ∧ (∀ i, v = .int i → -1000000 ≤ i ∧ i ≤ 1000000)
theorem same_upd {H : Hp} {p : Addr} {o : HO} (h : H p = none) : Same H (upd H p o) := fun b u q => by rw [upd_ne (ne_of_none q h)]; exact q
theorem line1000 {n : Nat} (h : n ≤ 1000000) : n ≤ sizeLine := Nat.le_trans h (by decide)
theorem line1000' {n : Nat} (h : n ≤ 1000000) : n < sizeLine := Nat.lt_of_le_of_lt h (by decide)
theorem Same.seqT {K : PySem.W.Frag} {H H' : Hp} {a : Addr} {xs : List V} (e : Same H H') (h : SqT K H a xs) : SqT K H' a xs := by
  rcases h with (h | ⟨o, h⟩) | h
  · exact .inl (.inl (e _ _ h))
  · exact .inl (.inr ⟨o, e _ _ h⟩)
  · exact .inr h
/-- all but b is as it was -/
def SameBut (b : Addr) (H H' : Hp) : Prop := ∀ x o, H x = some o → x ≠ b → H' x = some o
theorem SameBut.of {b : Addr} {H H' : Hp} (s : Same H H') : SameBut b H H' := fun x o h _ => s x o h
theorem SameBut.trans {b : Addr} {H H1 H2 : Hp} (s : SameBut b H H1) (t : SameBut b H1 H2) : SameBut b H H2 := fun x o h n => t x o (s x o h n) n
theorem SameBut.seq {K : PySem.W.Frag} {b a : Addr} {H H' : Hp} {xs : List V} (s : SameBut b H H') (n : a ≠ b) (h : SqL K H a xs) : SqL K H' a xs := by
  rcases h with (h | ⟨o, h⟩) | h
  · exact .inl (.inl (s _ _ h n))
  · exact .inl (.inr ⟨o, s _ _ h n⟩)
  · exact .inr h
theorem seq_keep {K : PySem.W.Frag} {b a : Addr} {H H' : Hp} {xs : List V} (h : SqL K H a xs) (hb : H b = none) (s : SameBut b H H') : SqL K H' a xs := by
  rcases h with (h | ⟨o, h⟩) | h
  · exact .inl (.inl (s _ _ h (ne_of_none h hb)))
  · exact .inl (.inr ⟨o, s _ _ h (ne_of_none h hb)⟩)
  · exact .inr h
theorem SameBut.upd {b : Addr} {H : Hp} {o : HO} : SameBut b H (upd H b o) := fun x u h n => by rw [upd_ne n]; exact h
theorem SameBut.none {b p : Addr} {H H' : Hp} (s : SameBut b H H') (n : p ≠ b) (h : H' p = Option.none) : H p = Option.none := by
  cases q : H p with
  | none => rfl
  | some o => rw [s p o q n] at h; cases h
theorem SameBut.up {b p : Addr} {H H' : Hp} {o : HO} (s : SameBut b H H') (h : H p = Option.none) : SameBut b H (L2.upd H' p o) := fun x u q n => by rw [upd_ne (ne_of_none q h)]; exact s x u q n
end Rp
namespace Rp
open PySem L2
/-! ### what a for or a comprehension walks, by the list of its items -/
structure ItOf (J : It) (xs : List V) (ok : Hp → Prop) : Prop where
  go : ∀ i H, ok H → i < xs.length → J.go i H
  yld : ∀ i H x H', ok H → i < xs.length → J.yld i H x H' → H' = H ∧ xs[i]? = some x
  stop : ∀ i H, ok H → xs.length ≤ i → J.stop i H
theorem it_list {K : PySem.W.Frag} {a : Addr} {xs : List V} : ItOf (Itl K a) xs (fun H => SqL K H a xs) where
  go := fun i H h hi => ⟨xs, xs[i], h, List.getElem?_eq_getElem hi⟩
  yld := fun i H x H' h _ y => ⟨y.1, y.2 xs h⟩
  stop := fun i H h hi => ⟨xs, h, hi⟩
theorem it_tup {K : PySem.W.Frag} {a : Addr} {xs : List V} : ItOf (Itt K a) xs (fun H => SqT K H a xs) where
  go := fun i H h hi => ⟨xs, xs[i], h, List.getElem?_eq_getElem hi⟩
  yld := fun i H x H' h _ y => ⟨y.1, y.2 xs h⟩
  stop := fun i H h hi => ⟨xs, h, hi⟩
def signsV (z : Str) : List V := z.cps.toList.map fun c => V.str ⟨#[c]⟩
theorem it_str {z : Str} : ItOf (Its z) (signsV z) (fun _ => True) where
  go := fun i H _ hi => by
    have e : (signsV z).length = z.cps.size := by simp [signsV]
    show i < z.cps.size
    omega
  yld := fun i H x H' _ _ y => by
    obtain ⟨e, c, hc, rfl⟩ := y
    refine ⟨e, ?_⟩
    simp [signsV, hc]
  stop := fun i H _ hi => by
    have e : (signsV z).length = z.cps.size := by simp [signsV]
    show z.cps.size ≤ i
    omega
theorem signKey_all (z : Str) : ((signsV z).filter fun _ => true).map signKeyV = (z.cps.toList.map fun c => decide (c ∈ LETTERS.cps.toList)).map V.bl := by
  rw [List.filter_eq_self.mpr (fun _ _ => rfl)]
  simp only [signsV, List.map_map]
  exact List.map_congr_left fun c _ => by simp [signKeyV]
theorem signKey_is (l : List Nat) : (l.map fun c => decide (c ∈ LETTERS.cps.toList)).all id = l.all fun c => decide (c ∈ LETTERS.cps.toList) := by
  simp [List.all_map]
def rangeV (lo : Int) (n : Nat) : List V := (List.range n).map fun (k : Nat) => V.int (lo + (k : Int))
theorem rangeV_get {lo : Int} {n i : Nat} {v : V} (h : (rangeV lo n)[i]? = some v) : i < n ∧ v = .int (lo + (i : Int)) := by
  obtain ⟨h1, h2⟩ := List.getElem?_eq_some_iff.mp h
  have e : (rangeV lo n).length = n := by simp [rangeV]
  refine ⟨by omega, ?_⟩
  rw [← h2]
  simp [rangeV]
theorem it_range {lo : Int} {n : Nat} : ItOf (Itr lo n) (rangeV lo n) (fun _ => True) where
  go := fun i H _ hi => by
    have e : (rangeV lo n).length = n := by simp [rangeV]
    show i < n
    omega
  yld := fun i H x H' _ hi y => by
    obtain ⟨e, hx⟩ := y
    have e2 : (rangeV lo n).length = n := by simp [rangeV]
    refine ⟨e, ?_⟩
    subst hx
    simp [rangeV, show i < n by omega]
  stop := fun i H _ hi => by
    have e : (rangeV lo n).length = n := by simp [rangeV]
    show n ≤ i
    omega

/-- an expression gives v, the heap at most grown -/
def ValS (te : TE) (σ : L2.St) (H : Hp) (v : V) : Prop := ∀ Q : VK, (∀ H', Same H H' → Q v H') → te σ H Q
def AnsS (t : TT) (σ : L2.St) (H : Hp) (b : Bool) : Prop := ∀ Q : Bool → Hp → Prop, (∀ H', Same H H' → Q b H') → t σ H Q
section
variable {J : It} {xs : List V} {ok : Hp → Prop} {g : TG} {tb : TS} {D : Ends} {σ : L2.St} {H : Hp} {tt : TT} {te : TE} {vs : List Nat} {Q : VK}
/-- a for over these items -/
theorem for_it (W : ItOf J xs ok) (Pv : Nat → L2.St → Hp → Prop) (h0 : Pv 0 σ H) (hok : ∀ i σ H, i ≤ xs.length → Pv i σ H → ok H)
    (hs : ∀ i x σ H, xs[i]? = some x → Pv i σ H → g x σ H fun σ2 H2 => tb { D with nx := Pv (i + 1), ct := Pv (i + 1), bk := D.nx } σ2 H2) (hd : ∀ σ H, Pv xs.length σ H → D.nx σ H) :
    ∃ W : Nat → Nat → L2.St → Hp → Prop, (∃ m, W 0 m σ H) ∧ ∀ i m σ H, W i m σ H →
      (J.stop i H ∧ D.nx σ H) ∨ (J.go i H ∧ ∃ N : L2.St → Hp → Prop, (∀ σ' H', N σ' H' → ∃ m', m' < m ∧ W (i + 1) m' σ' H') ∧ ∀ x H', J.yld i H x H' → g x σ H' fun σ2 H2 => tb { D with nx := N, ct := N, bk := D.nx } σ2 H2) := by
  refine ⟨fun i m σ H => m = xs.length - i ∧ i ≤ xs.length ∧ Pv i σ H, ⟨xs.length, by simp, Nat.zero_le _, h0⟩, ?_⟩
  rintro i m σ H ⟨rfl, hi, p⟩
  have q := hok i σ H hi p
  by_cases hlt : i < xs.length
  · refine .inr ⟨W.go i H q hlt, Pv (i + 1), fun σ' H' p' => ⟨xs.length - (i + 1), by omega, rfl, hlt, p'⟩, fun x H' y => ?_⟩
    obtain ⟨e, hx⟩ := W.yld i H x H' q hlt y
    subst e
    exact hs i x σ _ hx p
  · have e : i = xs.length := by omega
    subst e
    exact .inl ⟨W.stop _ H q (Nat.le_refl _), hd σ H p⟩
/-- a comprehension over these items -/
theorem lc_it {Qd : Hp → Prop} {Dl : Addr} (W : ItOf J xs ok) (Pv : Nat → Hp → Prop) (h0 : Pv 0 (upd H Dl (.lst []))) (hok : ∀ i H, i ≤ xs.length → Pv i H → ok H)
    (hs : ∀ i x H, xs[i]? = some x → Pv i H → g x (wipe σ vs) H fun σ2 H2 => wipe σ2 vs = wipe σ vs ∧ tt σ2 H2 fun b H3 =>
      if b = true then te σ2 H3 fun y H4 => ∃ acc, H4 Dl = some (.lst acc) ∧ acc.length < sizeLine ∧ Pv (i + 1) (upd H4 Dl (.lst (acc ++ [y]))) else Pv (i + 1) H3) (hd : ∀ H, Pv xs.length H → Qd H) :
    ∃ W : Nat → Nat → Hp → Prop, (∃ m, W 0 m (upd H Dl (.lst []))) ∧ ∀ i m H, W i m H →
      (J.stop i H ∧ Qd H) ∨ (J.go i H ∧ ∃ Nx : Hp → Prop, (∀ H', Nx H' → ∃ m', m' < m ∧ W (i + 1) m' H') ∧ ∀ x H', J.yld i H x H' → g x (wipe σ vs) H' fun σ2 H2 => wipe σ2 vs = wipe σ vs ∧ tt σ2 H2 fun b H3 =>
        if b = true then te σ2 H3 fun y H4 => ∃ acc, H4 Dl = some (.lst acc) ∧ acc.length < sizeLine ∧ Nx (upd H4 Dl (.lst (acc ++ [y]))) else Nx H3) := by
  refine ⟨fun i m H => m = xs.length - i ∧ i ≤ xs.length ∧ Pv i H, ⟨xs.length, by simp, Nat.zero_le _, h0⟩, ?_⟩
  rintro i m H ⟨rfl, hi, p⟩
  have q := hok i H hi p
  by_cases hlt : i < xs.length
  · refine .inr ⟨W.go i H q hlt, Pv (i + 1), fun H' p' => ⟨xs.length - (i + 1), by omega, rfl, hlt, p'⟩, fun x H' y => ?_⟩
    obtain ⟨e, hx⟩ := W.yld i H x H' q hlt y
    subst e
    exact hs i x _ hx p
  · have e : i = xs.length := by omega
    subst e
    exact .inl ⟨W.stop _ H q (Nat.le_refl _), hd H p⟩
/-- [f x for x in xs if p x], all of it reading alone -/
theorem lcp {j : Nat} {Q : Addr → Hp → Prop} (W : ItOf J xs ok) (hz : xs.length ≤ 1000000) (hok : ∀ H', Same H H' → ok H') (p : V → Bool) (f : V → V) (hw : ∀ x, wipe ((wipe σ vs).set j (some x)) vs = wipe σ vs)
    (ht : ∀ (i : Nat) (x : V) (H' : Hp), xs[i]? = some x → Same H H' → AnsS tt ((wipe σ vs).set j (some x)) H' (p x))
    (hv : ∀ (i : Nat) (x : V) (H' : Hp), xs[i]? = some x → Same H H' → p x = true → ValS te ((wipe σ vs).set j (some x)) H' (f x))
    (q : ∀ Dl H', H Dl = none → Same H H' → H' Dl = some (.lst ((xs.filter p).map f)) → Q Dl H') :
    ∀ Dl, H Dl = none → ∃ W : Nat → Nat → Hp → Prop, (∃ m, W 0 m (upd H Dl (.lst []))) ∧ ∀ i m H, W i m H →
      (J.stop i H ∧ Q Dl H) ∨ (J.go i H ∧ ∃ Nx : Hp → Prop, (∀ H', Nx H' → ∃ m', m' < m ∧ W (i + 1) m' H') ∧ ∀ x H', J.yld i H x H' → gName j x (wipe σ vs) H' fun σ2 H2 => wipe σ2 vs = wipe σ vs ∧ tt σ2 H2 fun b H3 =>
        if b = true then te σ2 H3 fun y H4 => ∃ acc, H4 Dl = some (.lst acc) ∧ acc.length < sizeLine ∧ Nx (upd H4 Dl (.lst (acc ++ [y]))) else Nx H3) := by
  intro Dl hD
  refine lc_it (σ := σ) W (fun i H' => Same H H' ∧ H' Dl = some (.lst (((xs.take i).filter p).map f))) ⟨same_upd hD, upd_same⟩ (fun i H' _ h => hok H' h.1) (fun i x H' hx h => ?_) (fun H' h => q Dl H' hD h.1 (by simpa using h.2))
  obtain ⟨s1, h1⟩ := h
  have hlt : i < xs.length := (List.getElem?_eq_some_iff.mp hx).1
  have ext : xs.take (i + 1) = xs.take i ++ [x] := by
    rw [List.take_add_one, hx]; rfl
  refine ⟨hw x, ht i x H' hx s1 _ fun H3 s3 => ?_⟩
  have e3 : H3 Dl = some (.lst (((xs.take i).filter p).map f)) := s3 _ _ h1
  cases hp : p x with
  | true =>
    refine w_T (hv i x H3 hx (s1.trans s3) hp _ fun H4 s4 => ⟨_, s4 _ _ e3, ?_, ?_, ?_⟩)
    · have a1 := List.length_filter_le p (xs.take i)
      rw [List.length_map]
      have a2 : (xs.take i).length ≤ i := by rw [List.length_take]; omega
      exact line1000' (by omega)
    · intro b o hb
      have nb : b ≠ Dl := ne_of_none hb hD
      rw [upd_ne nb]
      exact s4 _ _ (s3 _ _ (s1 _ _ hb))
    · rw [upd_same, ext, List.filter_append, List.filter_cons_of_pos hp, List.filter_nil, List.map_append]
      rfl
  | false =>
    refine w_F ⟨s1.trans s3, ?_⟩
    rw [ext, List.filter_append, List.filter_cons_of_neg (by simp [hp]), List.filter_nil, List.append_nil]
    exact e3
theorem w_yes {B : Bool → Hp → Prop} (q : B true H) : tYes σ H B := q
theorem ansS_yes : AnsS tYes σ H true := fun Q q => q H (Same.refl H)
theorem w_lc {wi : TI} (q : wi σ H fun J H1 => ∀ D, H1 D = none → ∃ W : Nat → Nat → Hp → Prop, (∃ m, W 0 m (upd H1 D (.lst []))) ∧ ∀ i m H, W i m H →
  (J.stop i H ∧ Q (.ref D) H) ∨ (J.go i H ∧ ∃ Nx : Hp → Prop, (∀ H', Nx H' → ∃ m', m' < m ∧ W (i + 1) m' H') ∧ ∀ x H', J.yld i H x H' → g x (wipe σ vs) H' fun σ2 H2 => wipe σ2 vs = wipe σ vs ∧ tt σ2 H2 fun b H3 =>
    if b = true then te σ2 H3 fun y H4 => ∃ acc, H4 D = some (.lst acc) ∧ acc.length < sizeLine ∧ Nx (upd H4 D (.lst (acc ++ [y]))) else Nx H3)) : tLc wi g tt te vs σ H Q := q
theorem w_iStr {R : It → Hp → Prop} (q : te σ H fun v H1 => ∃ x, v = .str x ∧ R (Its x) H1) : iStr te σ H R := q
theorem w_iList {K : PySem.W.Frag} {R : It → Hp → Prop} (q : te σ H fun x H1 => ∃ a, x = .ref a ∧ (∃ xs, SqL K H1 a xs) ∧ R (Itl K a) H1) : iList K te σ H R := q
theorem w_iTup {K : PySem.W.Frag} {R : It → Hp → Prop} (q : te σ H fun x H1 => ∃ a, x = .ref a ∧ (∃ xs, SqT K H1 a xs) ∧ R (Itt K a) H1) : iTup K te σ H R := q
theorem w_exS {z : Str} {P : Str → Prop} (q : P z) : ∃ x, V.str z = .str x ∧ P x := ⟨z, rfl, q⟩
theorem w_exR {K : PySem.W.Frag} {a : Addr} {P : Addr → Prop} (h : SqL K H a xs) (q : P a) : ∃ b, V.ref a = .ref b ∧ (∃ xs, SqL K H b xs) ∧ P b := ⟨a, rfl, ⟨xs, h⟩, q⟩
theorem w_exRT {K : PySem.W.Frag} {a : Addr} {P : Addr → Prop} (h : SqT K H a xs) (q : P a) : ∃ b, V.ref a = .ref b ∧ (∃ xs, SqT K H b xs) ∧ P b := ⟨a, rfl, ⟨xs, h⟩, q⟩
theorem w_iR1 {ta : TA} {R : It → Hp → Prop} (q : ta σ H fun vs H1 => ∃ j : Int, vs = [.int j] ∧ -(2 ^ 62) ≤ j ∧ j < 2 ^ 62 ∧ R (Itr 0 j.toNat) H1) : iRng1 ta σ H R := q
theorem w_iR2 {ta : TA} {R : It → Hp → Prop} (q : ta σ H fun vs H1 => ∃ i j : Int, vs = [.int i, .int j] ∧ (-(2 ^ 62) ≤ i ∧ i < 2 ^ 62 ∧ -(2 ^ 62) ≤ j ∧ j < 2 ^ 62) ∧ R (Itr i (j - i).toNat) H1) : iRng2 ta σ H R := q
theorem w_for {wi : TI} (q : wi σ H fun J H1 => ∃ W : Nat → Nat → L2.St → Hp → Prop, (∃ m, W 0 m σ H1) ∧ ∀ i m σ H, W i m σ H →
  (J.stop i H ∧ D.nx σ H) ∨ (J.go i H ∧ ∃ N : L2.St → Hp → Prop, (∀ σ' H', N σ' H' → ∃ m', m' < m ∧ W (i + 1) m' σ' H') ∧ ∀ x H', J.yld i H x H' → g x σ H' fun σ2 H2 => tb { D with nx := N, ct := N, bk := D.nx } σ2 H2)) : tFor wi g tb D σ H := q
theorem v_all {K : PySem.W.Frag} {a : Addr} {bs : List Bool} (h : SqL K H a (bs.map V.bl)) (q : Q (.bl (bs.all id)) H) : rAll K [.ref a] H Q := ⟨a, bs, rfl, h, q⟩
end
end Rp
namespace Rp
open PySem L2
/-! ### data in the heap: None, bools, ints, texts, lists and tuples of these -/
section
variable {K : PySem.W.Frag} {H H' : Hp}
mutual
theorem dp_same (s : Same H H') : ∀ (d : PyData) (v : V), Dp K H v d → Dp K H' v d
  | .none, _, h => by cases h; exact .non
  | .bool b, _, h => by cases h; exact .bl _
  | .int i, _, h => by cases h; exact .int _
  | .str x, _, h => by cases h; exact .str _
  | .list ds, _, h => by
    cases h with
    | lst a b => exact .lst (s.seq a) (dpAll_same s ds _ b)
  | .tuple ds, _, h => by
    cases h with
    | tup a b => exact .tup (Same.seqT s a) (dpAll_same s ds _ b)
  | .dict _, _, h => by cases h
theorem dpAll_same (s : Same H H') : ∀ (ds : List PyData) (vs : List V), DpAll K H vs ds → DpAll K H' vs ds
  | [], _, h => by cases h; exact .nil
  | d :: ds, _, h => by
    cases h with
    | cons a b => exact .cons (dp_same s d _ a) (dpAll_same s ds _ b)
end
theorem dpAll_len : ∀ {vs : List V} {ds : List PyData}, DpAll K H vs ds → vs.length = ds.length
  | [], [], _ => rfl
  | _ :: vs, _ :: ds, h => by
    cases h with
    | cons a b => exact congrArg Nat.succ (dpAll_len b)
  | [], _ :: _, h => by cases h
  | _ :: _, [], h => by cases h
theorem dpAll_get : ∀ {vs : List V} {ds : List PyData} {i : Nat}, DpAll K H vs ds → i < ds.length → ∃ v d, vs[i]? = some v ∧ ds[i]? = some d ∧ Dp K H v d
  | [], [], i, _, l => by simp at l
  | v :: vs, d :: ds, 0, h, _ => by
    cases h with
    | cons a b => exact ⟨v, d, rfl, rfl, a⟩
  | v :: vs, d :: ds, i + 1, h, l => by
    cases h with
    | cons a b => exact dpAll_get (i := i) b (by simpa using l)
  | [], _ :: _, _, h, _ => by cases h
  | _ :: _, [], _, h, _ => by cases h
def kdD : PyData → Kd
  | .none => .non
  | .bool _ => .bl
  | .int _ => .int
  | .str _ => .str
  | .list _ => .lst
  | .tuple _ => .tup
  | .dict _ => .dic
theorem kd_seqL {a : Addr} {xs : List V} (h : SqL K H a xs) : KdOf K H (.ref a) .lst := by
  rcases h with (h | ⟨o, h⟩) | ⟨o, its, n, hk, hc, _⟩
  · exact .base (.lst h)
  · exact .base (.frz h)
  · exact .kList hk hc
theorem kd_seqT {a : Addr} {xs : List V} (h : SqT K H a xs) : KdOf K H (.ref a) .tup := by
  rcases h with (h | ⟨o, h⟩) | ⟨o, its, n, hk, hc, _⟩
  · exact .base (.tup h)
  · exact .fTuple h
  · exact .kTuple hk hc
theorem kd_dp {d : PyData} {v : V} (h : Dp K H v d) : KdOf K H v (kdD d) := by
  cases h with
  | non => exact kd_non
  | bl b => exact kd_bl
  | int i => exact kd_int
  | str x => exact kd_str
  | lst a b => exact kd_seqL a
  | tup a b => exact kd_seqT a
end
/-- data of a flat thing -/
def datV : V → PyData
  | .bl b => .bool b
  | .int i => .int i
  | .str z => .str z
  | _ => .none
theorem dp_flat {K : PySem.W.Frag} {H : Hp} {v : V} (h : flatV v = true) : Dp K H v (datV v) := by
  cases v
  all_goals (first | (cases h; done) | skip)
  · exact .non
  · exact .bl _
  · exact .int _
  · exact .str _
def flatD : PyData → Bool
  | .none => true
  | .bool _ => true
  | .int _ => true
  | .str _ => true
  | _ => false
theorem dp_flatD {K : PySem.W.Frag} {H : Hp} {d : PyData} {v : V} (h : Dp K H v d) (f : flatD d = true) : flatV v = true ∧ datV v = d := by
  cases h with
  | non => exact ⟨rfl, rfl⟩
  | bl b => exact ⟨rfl, rfl⟩
  | int i => exact ⟨rfl, rfl⟩
  | str x => exact ⟨rfl, rfl⟩
  | lst a b => cases f
  | tup a b => cases f
theorem dat_inj {v u : V} (h1 : flatV v = true) (h2 : flatV u = true) (e : datV v = datV u) : v = u := by
  cases v
  all_goals (first | (cases h1; done) | skip)
  all_goals (cases u)
  all_goals (first | (cases h2; done) | skip)
  all_goals (first | rfl | (simp [datV] at e; done) | (simp [datV] at e; rw [e]))
mutual
/-- the same data, bools and ints told apart -/
def sam : PyData → PyData → Bool
  | .none, .none => true
  | .bool a, .bool b => a == b
  | .int i, .int j => i == j
  | .str x, .str y => x == y
  | .list xs, .list ys => samAll xs ys
  | .tuple xs, .tuple ys => samAll xs ys
  | .none, .bool _ | .none, .int _ | .none, .str _ | .none, .list _ | .none, .tuple _ | .none, .dict _ => false
  | .bool _, .none | .bool _, .int _ | .bool _, .str _ | .bool _, .list _ | .bool _, .tuple _ | .bool _, .dict _ => false
  | .int _, .none | .int _, .bool _ | .int _, .str _ | .int _, .list _ | .int _, .tuple _ | .int _, .dict _ => false
  | .str _, .none | .str _, .bool _ | .str _, .int _ | .str _, .list _ | .str _, .tuple _ | .str _, .dict _ => false
  | .list _, .none | .list _, .bool _ | .list _, .int _ | .list _, .str _ | .list _, .tuple _ | .list _, .dict _ => false
  | .tuple _, .none | .tuple _, .bool _ | .tuple _, .int _ | .tuple _, .str _ | .tuple _, .list _ | .tuple _, .dict _ => false
  | .dict _, _ => false
def samAll : List PyData → List PyData → Bool
  | [], [] => true
  | x :: xs, y :: ys => sam x y && samAll xs ys
  | [], _ :: _ => false
  | _ :: _, [] => false
end
theorem sam_flat {v u : V} (h1 : flatV v = true) (h2 : flatV u = true) : sam (datV v) (datV u) = decide (v = u) := by
  cases v
  all_goals (first | (cases h1; done) | skip)
  all_goals (cases u)
  all_goals (first | (cases h2; done) | skip)
  all_goals simp [sam, datV, Bool.beq_eq_decide_eq]
theorem samAll_len : ∀ {xs ys : List PyData}, samAll xs ys = true → xs.length = ys.length
  | [], [], _ => rfl
  | _ :: xs, _ :: ys, h => by
    simp only [samAll, Bool.and_eq_true] at h
    exact congrArg Nat.succ (samAll_len h.2)
  | [], _ :: _, h => by simp [samAll] at h
  | _ :: _, [], h => by simp [samAll] at h
/-- by places -/
theorem samAll_iff : ∀ {xs ys : List PyData}, xs.length = ys.length → (samAll xs ys = true ↔ ∀ (i : Nat) (x y : PyData), xs[i]? = some x → ys[i]? = some y → sam x y = true)
  | [], [], _ => by simp [samAll]
  | a :: xs, b :: ys, h => by
    have ih := samAll_iff (xs := xs) (ys := ys) (by simpa using h)
    simp only [samAll, Bool.and_eq_true, ih]
    constructor
    · rintro ⟨h1, h2⟩ i x y hx hy
      cases i with
      | zero => simp at hx hy; subst hx hy; exact h1
      | succ i => exact h2 i x y (by simpa using hx) (by simpa using hy)
    · intro h1
      exact ⟨h1 0 a b rfl rfl, fun i x y hx hy => h1 (i + 1) x y (by simpa using hx) (by simpa using hy)⟩
  | [], _ :: _, h => by simp at h
  | _ :: _, [], h => by simp at h
mutual
/-- no bools and ints in it -/
def noNum : PyData → Bool
  | .none => true
  | .str _ => true
  | .list xs => noNumAll xs
  | .tuple xs => noNumAll xs
  | _ => false
def noNumAll : List PyData → Bool
  | [] => true
  | x :: xs => noNum x && noNumAll xs
end
mutual
theorem eqv_sam : ∀ (d e : PyData), noNum d = true → PyData.eqv d e = sam d e
  | .none, e, _ => by cases e <;> rfl
  | .str x, e, _ => by cases e <;> simp [PyData.eqv, sam]
  | .list xs, e, h => by
    cases e <;> simp only [PyData.eqv, sam]
    exact eqvAll_sam xs _ (by simpa [noNum] using h)
  | .tuple xs, e, h => by
    cases e <;> simp only [PyData.eqv, sam]
    exact eqvAll_sam xs _ (by simpa [noNum] using h)
  | .bool _, _, h => by simp [noNum] at h
  | .int _, _, h => by simp [noNum] at h
  | .dict _, _, h => by simp [noNum] at h
theorem eqvAll_sam : ∀ (xs ys : List PyData), noNumAll xs = true → PyData.eqvAll xs ys = samAll xs ys
  | [], ys, _ => by cases ys <;> rfl
  | x :: xs, ys, h => by
    simp only [noNumAll, Bool.and_eq_true] at h
    cases ys with
    | nil => rfl
    | cons y ys => simp only [PyData.eqvAll, samAll]; rw [eqv_sam x y h.1, eqvAll_sam xs ys h.2]
end
theorem canLayAll_get : ∀ {xs : List PyData} {i : Nat} {x : PyData}, PyData.canLayAll0 xs = true → xs[i]? = some x → x.canLay0 = true
  | [], _, _, _, h => by simp at h
  | a :: xs, 0, x, h, e => by
    simp only [PyData.canLayAll0, Bool.and_eq_true] at h
    simp at e; subst e; exact h.1
  | a :: xs, i + 1, x, h, e => by
    simp only [PyData.canLayAll0, Bool.and_eq_true] at h
    exact canLayAll_get (i := i) h.2 (by simpa using e)
theorem depthAll_get : ∀ {xs : List PyData} {i : Nat} {x : PyData}, xs[i]? = some x → x.depth ≤ PyData.depthAll xs
  | [], _, _, h => by simp at h
  | a :: xs, 0, x, e => by
    simp at e; subst e
    simp only [PyData.depthAll]
    exact Nat.le_max_left _ _
  | a :: xs, i + 1, x, e => by
    have := depthAll_get (xs := xs) (i := i) (x := x) (by simpa using e)
    simp only [PyData.depthAll]
    exact Nat.le_trans this (Nat.le_max_right _ _)
theorem samAll_false {xs ys : List PyData} {i : Nat} {x y : PyData} (hx : xs[i]? = some x) (hy : ys[i]? = some y) (h : sam x y = false) : samAll xs ys = false := by
  cases q : samAll xs ys with
  | false => rfl
  | true =>
    have := (samAll_iff (samAll_len q)).mp q i x y hx hy
    rw [h] at this; cases this
theorem samAll_lenF {xs ys : List PyData} (h : xs.length ≠ ys.length) : samAll xs ys = false := by
  cases q : samAll xs ys with
  | false => rfl
  | true => exact absurd (samAll_len q) h
mutual
/-- no lists in it -/
def noLst : PyData → Bool
  | .list _ => false
  | .tuple xs => noLstAll xs
  | .dict _ => false
  | .none => true
  | .bool _ => true
  | .int _ => true
  | .str _ => true
def noLstAll : List PyData → Bool
  | [] => true
  | x :: xs => noLst x && noLstAll xs
end
section
variable {K : PySem.W.Frag} {H H' : Hp} {b : Addr} {zs : List V}
theorem SameBut.seqT (s : SameBut b H H') (hb : H b = some (.lst zs)) {a : Addr} {xs : List V} (h : SqT K H a xs) : SqT K H' a xs := by
  rcases h with (h | ⟨o, h⟩) | h
  · exact .inl (.inl (s _ _ h (ne_of h hb (by intro z; cases z))))
  · exact .inl (.inr ⟨o, s _ _ h (ne_of h hb (by intro z; cases z))⟩)
  · exact .inr h
mutual
theorem dp_but (s : SameBut b H H') (hb : H b = some (.lst zs)) : ∀ (d : PyData) (v : V), noLst d = true → Dp K H v d → Dp K H' v d
  | .none, _, _, h => by cases h; exact .non
  | .bool b, _, _, h => by cases h; exact .bl _
  | .int i, _, _, h => by cases h; exact .int _
  | .str x, _, _, h => by cases h; exact .str _
  | .list ds, _, n, h => by simp [noLst] at n
  | .tuple ds, _, n, h => by
    cases h with
    | tup x y => exact .tup (s.seqT hb x) (dpAll_but s hb ds _ (by simpa [noLst] using n) y)
  | .dict _, _, _, h => by cases h
theorem dpAll_but (s : SameBut b H H') (hb : H b = some (.lst zs)) : ∀ (ds : List PyData) (vs : List V), noLstAll ds = true → DpAll K H vs ds → DpAll K H' vs ds
  | [], _, _, h => by cases h; exact .nil
  | d :: ds, _, n, h => by
    simp only [noLstAll, Bool.and_eq_true] at n
    cases h with
    | cons x y => exact .cons (dp_but s hb d _ n.1 x) (dpAll_but s hb ds _ n.2 y)
end
end
theorem Alloc.dpT {K : PySem.W.Frag} {H H' : Hp} {p : Addr} {xs : List V} {ds : List PyData} (A : Alloc H p (.tup xs) H') (h : DpAll K H xs ds) : Dp K H' (.ref p) (.tuple ds) := .tup (SqT.of A.at_) (dpAll_same A.same _ _ h)
theorem dpAll_strs {K : PySem.W.Frag} {H : Hp} : ∀ {ks : List Str}, DpAll K H (ks.map V.str) (ks.map PyData.str)
  | [] => .nil
  | _ :: _ => .cons (.str _) dpAll_strs
theorem Alloc.but {b : Addr} {H0 H H' : Hp} {p : Addr} {o : HO} (s : SameBut b H0 H) (A : Alloc H p o H') : SameBut b H0 H' := s.trans (.of A.same)
end Rp

set_option Elab.async false
set_option linter.all false
set_option maxRecDepth 100000
set_option maxHeartbeats 4000000
namespace Rp
open PySem L2
local macro_rules | `(tactic| walk_at "rd1") => `(tactic| first
  | with_reducible refine w_seq ?_
  | with_reducible refine w_set ?_
  | with_reducible refine w_ret ?_
  | with_reducible refine w_if ?_
  | with_reducible refine w_op ?_
  | with_reducible refine w_c ?_
  | with_reducible refine w_var (by with_unfolding_all rfl) ?_
  | with_reducible refine w_cb ?_
  | with_reducible refine w_cons ?_
  | with_reducible refine w_nil ?_
  | with_reducible refine w_test ?_
  | with_reducible refine w_tb ?_
  | with_reducible refine w_not ?_
  | with_reducible refine w_and ?_
  | with_reducible refine w_or ?_
  | with_reducible refine w_andV ?_
  | with_reducible refine w_orV ?_
  | with_reducible refine w_notV ?_
  | with_reducible refine w_ifx ?_
  | with_reducible refine w_next ?_
  | with_reducible refine w_drop ?_
  | with_reducible refine w_chain ?_
  | with_reducible refine w_call ?_
  | with_reducible refine w_exb ?_
  | with_reducible refine w_T ?_
  | with_reducible refine w_F ?_
  | with_reducible refine w_nT ?_
  | with_reducible refine w_nF ?_
  | with_reducible refine v_addI ?_
  | with_reducible refine v_cmpI ?_
  | with_reducible refine v_isi kd_non ?_
  | with_reducible refine v_isi kd_bl ?_
  | with_reducible refine v_isi kd_int ?_
  | with_reducible refine v_isi kd_str ?_
  | with_reducible refine v_isi (by assumption) ?_
  | with_reducible refine v_isi (kd_dp (by assumption)) ?_
  | with_reducible refine v_isN ?_
  | with_reducible refine v_notN ?_
  | with_reducible refine w_un ?_
  | with_reducible refine v_neg ?_
  | with_reducible refine v_int ?_
  | with_reducible refine v_intB ?_
  | with_reducible refine v_abs ?_
  | with_reducible refine v_strS ?_
  | with_reducible refine w_tlst ?_
  | with_reducible refine w_ttup ?_
  | with_reducible refine w_asgE ?_
  | with_reducible refine w_sub ?_
  | with_reducible refine w_bm ?_
  | with_reducible refine w_lc ?_
  | with_reducible refine v_eq (by with_unfolding_all rfl) ?_
  | with_reducible refine v_ne (by with_unfolding_all rfl) ?_
  | with_reducible refine w_yes ?_
  | with_reducible refine w_name ?_
  | with_reducible refine w_tru ?_
  | with_reducible refine w_notT ?_
  | with_reducible refine t_bl ?_
  | with_reducible refine t_non ?_
  | with_reducible refine t_int ?_
  | with_reducible refine w_for ?_
  | with_reducible refine w_iStr ?_
  | with_reducible refine w_iList ?_
  | with_reducible refine w_iTup ?_
  | with_reducible refine w_iR1 ?_
  | with_reducible refine w_iR2 ?_
  | with_reducible refine w_exS ?_
  | with_reducible refine w_bT (by with_unfolding_all rfl) ?_
  | with_reducible refine w_bF (by with_unfolding_all rfl) ?_)
def top (i : Nat) : Stmt := PySem.Challenge.pw_ripplewell_k02_equal_readings.main.body.getD i (.Pass ⟨0, 0, 0, 0⟩)
abbrev s_sort : Stmt := top 1
abbrev N_sort : List Str := ["value"]
theorem sc_sort : FnScope N_sort ["value"] (defScope s_sort) := ⟨rfl, rfl, rfl, by decide +kernel, rfl, by decide +kernel, by decide +kernel⟩
abbrev s_equal : Stmt := top 2
abbrev N_equal : List Str := ["one", "two"]
theorem sc_equal : FnScope N_equal ["one", "two"] (defScope s_equal) := ⟨rfl, rfl, rfl, by decide +kernel, rfl, by decide +kernel, by decide +kernel⟩
abbrev s_same : Stmt := top 4
abbrev N_same : List Str := ["one", "two"]
theorem sc_same : FnScope N_same ["one", "two"] (defScope s_same) := ⟨rfl, rfl, rfl, by decide +kernel, rfl, by decide +kernel, by decide +kernel⟩
abbrev s_l_cell : Stmt := top 6
abbrev N_l_cell : List Str := ["_law_script", "_law_k"]
theorem sc_l_cell : FnScope N_l_cell ["_law_script", "_law_k"] (defScope s_l_cell) := ⟨rfl, rfl, rfl, by decide +kernel, rfl, by decide +kernel, by decide +kernel⟩
abbrev s_l_row : Stmt := top 7
abbrev N_l_row : List Str := ["_law_script", "_law_first", "_law_last", "_law_row_here", "_law_k", "_law_cell_here", "_law_turn"]
theorem sc_l_row : FnScope N_l_row ["_law_script", "_law_first", "_law_last"] (defScope s_l_row) := ⟨rfl, rfl, rfl, by decide +kernel, rfl, by decide +kernel, by decide +kernel⟩
abbrev s_l_draw : Stmt := top 8
abbrev N_l_draw : List Str := ["_law_box", "_law_many", "_law_at"]
theorem sc_l_draw : FnScope N_l_draw ["_law_box", "_law_many"] (defScope s_l_draw) := ⟨rfl, rfl, rfl, by decide +kernel, rfl, by decide +kernel, by decide +kernel⟩
abbrev s_l_value : Stmt := top 9
abbrev N_l_value : List Str := ["_law_box"]
theorem sc_l_value : FnScope N_l_value ["_law_box"] (defScope s_l_value) := ⟨rfl, rfl, rfl, by decide +kernel, rfl, by decide +kernel, by decide +kernel⟩
abbrev s_l_is_bool : Stmt := top 10
abbrev N_l_is_bool : List Str := ["_law_v"]
theorem sc_l_is_bool : FnScope N_l_is_bool ["_law_v"] (defScope s_l_is_bool) := ⟨rfl, rfl, rfl, by decide +kernel, rfl, by decide +kernel, by decide +kernel⟩
abbrev s_l_equal : Stmt := top 12
abbrev N_l_equal : List Str := ["_law_a", "_law_b"]
theorem sc_l_equal : FnScope N_l_equal ["_law_a", "_law_b"] (defScope s_l_equal) := ⟨rfl, rfl, rfl, by decide +kernel, rfl, by decide +kernel, by decide +kernel⟩
abbrev s_l_same : Stmt := top 15
abbrev N_l_same : List Str := ["_law_told", "_law_due", "_law_k"]
theorem sc_l_same : FnScope N_l_same ["_law_told", "_law_due"] (defScope s_l_same) := ⟨rfl, rfl, rfl, by decide +kernel, rfl, by decide +kernel, by decide +kernel⟩
abbrev s_l_drawn : Stmt := top 16
abbrev N_l_drawn : List Str := ["_law_box", "_law_kind"]
theorem sc_l_drawn : FnScope N_l_drawn ["_law_box"] (defScope s_l_drawn) := ⟨rfl, rfl, rfl, by decide +kernel, rfl, by decide +kernel, by decide +kernel⟩
abbrev s_law : Stmt := top 17
abbrev N_law : List Str := ["_law_script", "_law_box", "_law_readings", "_law_k", "_law_one", "_law_two", "_law_told"]
theorem sc_law : FnScope N_law ["_law_script"] (defScope s_law) := ⟨rfl, rfl, rfl, by decide +kernel, rfl, by decide +kernel, by decide +kernel⟩
abbrev dg (x : Str) (st : Stmt) : He.DefD := ⟨(x, none), x, x, defArgs st, defBody st, defScope st, [], []⟩
def fn : List He.DefD := [dg "_sort" s_sort, dg "equal" s_equal, dg "same" s_same, dg "_law_cell" s_l_cell, dg "_law_row" s_l_row, dg "_law_draw" s_l_draw, dg "_law_value" s_l_value, dg "_law_is_bool" s_l_is_bool, dg "_law_equal" s_l_equal, dg "_law_same" s_l_same, dg "_law_drawn" s_l_drawn, dg "law" s_law]
def fa : List He.Fa := [.free "isinstance", .free "bool", .free "int", .free "len", .free "range", .free "abs", .free "str", .free "list", .free "tuple", .glo "_sort", .glo "equal", .glo "same", .glo "_law_cell", .glo "_law_row", .glo "_law_draw", .glo "_law_value", .glo "_law_is_bool", .glo "_law_equal", .glo "_law_same", .glo "_law_drawn", .glo "law"]
structure Wd (K : PySem.W.Frag) (mg : Str → Option Value) : Prop where
  ex : ∃ h : Heap, K.In h ∧ h.Ns mainGlobals mg ∧ He.SaysD fa fn K
section
variable {K : PySem.W.Frag} {mg : Str → Option Value}
theorem m_isinstance (T : Wd K mg) : mg "isinstance" = none := by
  obtain ⟨h, X, G, c⟩ := T.ex
  exact He.free_ok X G (c.fact 0 (f := .free "isinstance") rfl)
theorem m_bool (T : Wd K mg) : mg "bool" = none := by
  obtain ⟨h, X, G, c⟩ := T.ex
  exact He.free_ok X G (c.fact 1 (f := .free "bool") rfl)
theorem m_int (T : Wd K mg) : mg "int" = none := by
  obtain ⟨h, X, G, c⟩ := T.ex
  exact He.free_ok X G (c.fact 2 (f := .free "int") rfl)
theorem m_len (T : Wd K mg) : mg "len" = none := by
  obtain ⟨h, X, G, c⟩ := T.ex
  exact He.free_ok X G (c.fact 3 (f := .free "len") rfl)
theorem m_range (T : Wd K mg) : mg "range" = none := by
  obtain ⟨h, X, G, c⟩ := T.ex
  exact He.free_ok X G (c.fact 4 (f := .free "range") rfl)
theorem m_abs (T : Wd K mg) : mg "abs" = none := by
  obtain ⟨h, X, G, c⟩ := T.ex
  exact He.free_ok X G (c.fact 5 (f := .free "abs") rfl)
theorem m_str (T : Wd K mg) : mg "str" = none := by
  obtain ⟨h, X, G, c⟩ := T.ex
  exact He.free_ok X G (c.fact 6 (f := .free "str") rfl)
theorem m_list (T : Wd K mg) : mg "list" = none := by
  obtain ⟨h, X, G, c⟩ := T.ex
  exact He.free_ok X G (c.fact 7 (f := .free "list") rfl)
theorem m_tuple (T : Wd K mg) : mg "tuple" = none := by
  obtain ⟨h, X, G, c⟩ := T.ex
  exact He.free_ok X G (c.fact 8 (f := .free "tuple") rfl)
theorem m__sort (T : Wd K mg) : mg "_sort" = some (.ref (He.ga K "_sort")) := by
  obtain ⟨h, X, G, c⟩ := T.ex
  exact He.glo_ok X G (c.fact 9 (f := .glo "_sort") rfl)
theorem m_equal (T : Wd K mg) : mg "equal" = some (.ref (He.ga K "equal")) := by
  obtain ⟨h, X, G, c⟩ := T.ex
  exact He.glo_ok X G (c.fact 10 (f := .glo "equal") rfl)
theorem m_same (T : Wd K mg) : mg "same" = some (.ref (He.ga K "same")) := by
  obtain ⟨h, X, G, c⟩ := T.ex
  exact He.glo_ok X G (c.fact 11 (f := .glo "same") rfl)
theorem m__law_cell (T : Wd K mg) : mg "_law_cell" = some (.ref (He.ga K "_law_cell")) := by
  obtain ⟨h, X, G, c⟩ := T.ex
  exact He.glo_ok X G (c.fact 12 (f := .glo "_law_cell") rfl)
theorem m__law_row (T : Wd K mg) : mg "_law_row" = some (.ref (He.ga K "_law_row")) := by
  obtain ⟨h, X, G, c⟩ := T.ex
  exact He.glo_ok X G (c.fact 13 (f := .glo "_law_row") rfl)
theorem m__law_draw (T : Wd K mg) : mg "_law_draw" = some (.ref (He.ga K "_law_draw")) := by
  obtain ⟨h, X, G, c⟩ := T.ex
  exact He.glo_ok X G (c.fact 14 (f := .glo "_law_draw") rfl)
theorem m__law_value (T : Wd K mg) : mg "_law_value" = some (.ref (He.ga K "_law_value")) := by
  obtain ⟨h, X, G, c⟩ := T.ex
  exact He.glo_ok X G (c.fact 15 (f := .glo "_law_value") rfl)
theorem m__law_is_bool (T : Wd K mg) : mg "_law_is_bool" = some (.ref (He.ga K "_law_is_bool")) := by
  obtain ⟨h, X, G, c⟩ := T.ex
  exact He.glo_ok X G (c.fact 16 (f := .glo "_law_is_bool") rfl)
theorem m__law_equal (T : Wd K mg) : mg "_law_equal" = some (.ref (He.ga K "_law_equal")) := by
  obtain ⟨h, X, G, c⟩ := T.ex
  exact He.glo_ok X G (c.fact 17 (f := .glo "_law_equal") rfl)
theorem m__law_same (T : Wd K mg) : mg "_law_same" = some (.ref (He.ga K "_law_same")) := by
  obtain ⟨h, X, G, c⟩ := T.ex
  exact He.glo_ok X G (c.fact 18 (f := .glo "_law_same") rfl)
theorem m__law_drawn (T : Wd K mg) : mg "_law_drawn" = some (.ref (He.ga K "_law_drawn")) := by
  obtain ⟨h, X, G, c⟩ := T.ex
  exact He.glo_ok X G (c.fact 19 (f := .glo "_law_drawn") rfl)
theorem m_law (T : Wd K mg) : mg "law" = some (.ref (He.ga K "law")) := by
  obtain ⟨h, X, G, c⟩ := T.ex
  exact He.glo_ok X G (c.fact 20 (f := .glo "law") rfl)
theorem mk_cal {P : Program} {w : World} {base : Heap} {x : Str} {st : Stmt} {N ps : List Str} {k : Nat} {sp : Sp} (T : Wd K mg) (i : Nat) (h : fn[i]? = some (dg x st)) (S : FnScope N ps (defScope st)) (hg : mg x = some (.ref (He.ga K x)))
    (b : ∀ (kV doc pm : Value) (an : Option Addr) (cdv ct : Value) (us : List Value), us.length = ps.length → bindArgs (PySem.W.fnOf x x (defArgs st) (defBody st) (defScope st) .none kV doc pm an cdv ct) ⟨us, []⟩ = pure (ps.zip us))
    (len : ∀ vs H Q E, sp vs H Q E → vs.length = ps.length)
    (hbody : ∀ (fa : Addr) (cdv : Value) (A : Around) (outer : List Env) (s : Shared) (H : Hp) (vs : List V) (Q : VK) (E : XK), Room k (A.deeper (PyProof.Rows.envOfC x (defScope st) s.heap.objs.size fa cdv)) → sp vs H Q E →
      ∃ t, PSs (cxOf CX0 P w K mg base N x (defScope st) fa cdv A outer s H E).nox (defBody st) t ∧ t { nx := fun _ H' => Q .non H', rt := Q } (L2.start N vs) H) : Cal P w K mg base x CX0 (k + 1) sp := by
  obtain ⟨h', X, G, c⟩ := T.ex
  obtain ⟨fd, F⟩ := c.def_ i h
  refine ⟨He.ga K x, fd, ps, FunD.ok F S len (fun cdv A outer s H vs Q E hr hs => ?_), hg, F.kp, FunD.bindsN F b⟩
  obtain ⟨t, ht, q⟩ := hbody _ cdv A outer s H vs Q E hr hs
  exact ⟨t, ht.nox, q⟩
theorem mk_fn {P : Program} {w : World} {base : Heap} {x : Str} {st : Stmt} {N ps : List Str} {k : Nat} {sp : Sp} {f : Addr} {fd : FuncData} (F : FunD K x x (defArgs st) (defBody st) (defScope st) [] [] f fd) (S : FnScope N ps (defScope st))
    (len : ∀ vs H Q E, sp vs H Q E → vs.length = ps.length)
    (hbody : ∀ (fa : Addr) (cdv : Value) (A : Around) (outer : List Env) (s : Shared) (H : Hp) (vs : List V) (Q : VK) (E : XK), Room k (A.deeper (PyProof.Rows.envOfC x (defScope st) s.heap.objs.size fa cdv)) → sp vs H Q E →
      ∃ t, PSs (cxOf CX0 P w K mg base N x (defScope st) fa cdv A outer s H E).nox (defBody st) t ∧ t { nx := fun _ H' => Q .non H', rt := Q } (L2.start N vs) H) : FnOk P w K mg base CX0 (k + 1) f fd ps sp := by
  refine FunD.ok F S len (fun cdv A outer s H vs Q E hr hs => ?_)
  obtain ⟨t, ht, q⟩ := hbody _ cdv A outer s H vs Q E hr hs
  exact ⟨t, ht.nox, q⟩
end

/-! ### values.py -/
def sp_sort : Sp := fun vs H Q _ => ∃ v, vs = [v] ∧ flatV v = true ∧ Q (.int (sortV v)) H
theorem ok_sort {P : Program} {w : World} {K : PySem.W.Frag} {mg : Str → Option Value} {base : Heap} (T : Wd K mg) : Cal P w K mg base "_sort" CX0 1 sp_sort := by
  refine mk_cal T 0 rfl sc_sort (m__sort T) (fun _ _ _ _ _ _ us hl => match us, hl with | [_], _ => rfl) (fun vs H Q E h => ?_) (fun f cdv A outer s H vs Q E hr h => ?_)
  · obtain ⟨v, rfl, _⟩ := h; rfl
  obtain ⟨v, rfl, hf, q⟩ := h
  refine ⟨_, (pss_cons (ps_if (pt_cmpR opIsN (pv 0) pe_non (nomark _)) (pss_one (ps_ret pe_int)) pss_nil)
  (pss_cons (ps_if (pt_val (pe_callB (call_isiK (K := K) .bl) (by rfl) (m_isinstance T) (by decide +kernel) (pa_cons (pv 0) (pa_cons (pe_tyB (n := Kd.nm .bl) (by rfl) (m_bool T) (by decide +kernel)) pa_nil)))) (pss_one (ps_ret pe_int)) pss_nil)
  (pss_cons (ps_if (pt_val (pe_callB (call_isiK (K := K) .int) (by rfl) (m_isinstance T) (by decide +kernel) (pa_cons (pv 0) (pa_cons (pe_tyB (n := Kd.nm .int) (by rfl) (m_int T) (by decide +kernel)) pa_nil)))) (pss_one (ps_ret pe_int)) pss_nil)
  (pss_one (ps_ret pe_int))))), ?_⟩
  cases v
  all_goals (first | (cases hf; done) | skip)
  all_goals (repeat walk_at "rd1")
  all_goals exact q
def sp_equal : Sp := fun vs H Q _ => ∃ v u, vs = [v, u] ∧ flatV v = true ∧ flatV u = true ∧ Q (.bl (decide (v = u))) H
theorem ok_equal {P : Program} {w : World} {K : PySem.W.Frag} {mg : Str → Option Value} {base : Heap} (T : Wd K mg) : Cal P w K mg base "equal" CX0 2 sp_equal := by
  have c_sort := ok_sort (P := P) (w := w) (base := base) T
  refine mk_cal T 1 rfl sc_equal (m_equal T) (fun _ _ _ _ _ _ us hl => match us, hl with | [_, _], _ => rfl) (fun vs H Q E h => ?_) (fun f cdv A outer s H vs Q E hr h => ?_)
  · obtain ⟨v, u, rfl, _⟩ := h; rfl
  have hu := hu64 hr
  obtain ⟨v, u, rfl, hv, hu', q⟩ := h
  refine ⟨_, (pss_one (ps_ret (pe_and (pe_cmpR (opEq (K := K) (hu64 hr)) (pe_cal c_sort (hr.mono (by decide)) pass0 (pa_cons (pv 0) pa_nil)) (pe_cal c_sort (hr.mono (by decide)) pass0 (pa_cons (pv 1) pa_nil)) (nomark _)) (pe_one (pe_cmpR (opEq (K := K) (hu64 hr)) (pv 0) (pv 1) (nomark _)))))), ?_⟩
  repeat walk_at "rd1"
  refine ⟨_, rfl, hv, ?_⟩
  repeat walk_at "rd1"
  refine ⟨_, rfl, hu', ?_⟩
  try (refine v_eq rfl ?_)
  repeat walk_at "rd1"
  cases v
  all_goals (first | (cases hv; done) | skip)
  all_goals (cases u)
  all_goals (first | (cases hu'; done) | skip)
  all_goals (repeat walk_at "rd1")
  all_goals (first | exact q | exact qb q (by simp) | exact v_eq rfl q)
/-! ### the law's own draws -/
def sp_l_cell (K : PySem.W.Frag) : Sp := fun vs H Q _ => ∃ (a : Addr) (ns : List Int) (k : Int), vs = [.ref a, .int k] ∧ SqL K H a (ns.map V.int) ∧ 0 ≤ k ∧ ∀ n : Int, n = ns.getD k.toNat 0 → Q (.int n) H
theorem ok_l_cell {P : Program} {w : World} {K : PySem.W.Frag} {mg : Str → Option Value} {base : Heap} (T : Wd K mg) : Cal P w K mg base "_law_cell" CX0 1 (sp_l_cell K) := by
  refine mk_cal T 3 rfl sc_l_cell (m__law_cell T) (fun _ _ _ _ _ _ us hl => match us, hl with | [_, _], _ => rfl) (fun vs H Q E h => ?_) (fun f cdv A outer s H vs Q E hr h => ?_)
  · obtain ⟨a, ns, k, rfl, _⟩ := h; rfl
  obtain ⟨a, ns, k, rfl, hS, hk, q⟩ := h
  refine ⟨_, (pss_cons (ps_if (pt_cmpR op_lt (pv 1) (pe_callB (callLen (K := K)) (by rfl) (m_len T) (by decide +kernel) (pa_cons (pv 0) pa_nil)) (nomark _)) (pss_one (ps_ret (pe_ix ix_seq (pv 0) (pv 1) (fun _ _ => rfl)))) pss_nil)
  (pss_one (ps_ret pe_int))), ?_⟩
  repeat walk_at "rd1"
  refine v_lenL hS ?_
  repeat walk_at "rd1"
  refine w_b (fun h1 => ?_) (fun h1 => ?_)
  all_goals (repeat walk_at "rd1")
  · simp at h1
    have hi : k.toNat < ns.length := by omega
    refine v_ixL hS (v := .int (ns.getD k.toNat 0)) ?_ (q _ rfl)
    have e : k = ((k.toNat : Nat) : Int) := by omega
    rw [e]
    refine atI_nat ?_
    rw [List.getElem?_map, List.getElem?_eq_getElem hi, List.getD_eq_getElem?_getD, Int.toNat_natCast, List.getElem?_eq_getElem hi]
    rfl
  · simp at h1
    refine q 0 ?_
    have hi : ns.length ≤ k.toNat := by omega
    simp [List.getElem?_eq_none hi, List.getD_eq_getElem?_getD]
def sp_l_row (K : PySem.W.Frag) : Sp := fun vs H Q _ => ∃ (a : Addr) (ns : List Int) (x y : Int), vs = [.ref a, .int x, .int y] ∧ SqL K H a (ns.map V.int) ∧ 0 ≤ x ∧ x ≤ y ∧ y ≤ 100 ∧
  ∀ (p : Addr) (H' : Hp) (row : List Int), H p = none → Same H H' → H' p = some (.lst (row.map V.int)) → row.length ≤ 60 * (y - x).toNat → Q (.ref p) H'
theorem ok_l_row {P : Program} {w : World} {K : PySem.W.Frag} {mg : Str → Option Value} {base : Heap} (T : Wd K mg) : Cal P w K mg base "_law_row" CX0 2 (sp_l_row K) := by
  have c_l_cell := ok_l_cell (P := P) (w := w) (base := base) T
  refine mk_cal T 4 rfl sc_l_row (m__law_row T) (fun _ _ _ _ _ _ us hl => match us, hl with | [_, _, _], _ => rfl) (fun vs H Q E h => ?_) (fun f cdv A outer s H vs Q E hr h => ?_)
  · obtain ⟨a, ns, x, y, rfl, _⟩ := h; rfl
  obtain ⟨a, ns, x, y, rfl, hS, h0, h1, h2, q⟩ := h
  refine ⟨_, (pss_cons (ps_set (i := 3) sc_l_row.nd rfl (Or.inl rfl) (pe_lst pa_nil))
  (pss_cons (ps_for PassesOwn.never rfl (pi_range2 (by rfl) (m_range T) (pa_cons (pv 1) (pa_cons (pv 2) pa_nil))) (pg_name (i := 4) sc_l_row.nd rfl (Or.inl rfl))
   (pss_cons (ps_set (i := 5) sc_l_row.nd rfl (Or.inl rfl) (pe_cal c_l_cell (hr.mono (by decide)) pass0 (pa_cons (pv 0) (pa_cons (pv 4) pa_nil))))
  (pss_cons (ps_set (i := 5) sc_l_row.nd rfl (Or.inl rfl) (pe_op (opAdd (K := K)) (pe_callB callAbs (by rfl) (m_abs T) (by decide +kernel) (pa_cons (pe_op opMul pe_int (pv 5)) pa_nil)) (pe_callTy callInt (by rfl) (m_int T) (by decide +kernel) (pa_cons (pe_cmpR op_lt (pv 5) pe_int (nomark _)) pa_nil))))
  (pss_one (ps_if (pt_cmpR op_gt (pv 5) (pe_op op_pow pe_int pe_int) (nomark _)) (pss_one (ps_for PassesOwn.never rfl (pi_range1 (by rfl) (m_range T) (pa_cons pe_int pa_nil)) (pg_name (i := 6) sc_l_row.nd rfl (Or.inl rfl))
   (pss_one (ps_if (pt_cmpR op_gt (pv 5) pe_int (nomark _)) (pss_cons (ps_expr (pe_bm PySem.F.plainAttrs_list PySem.F.slot_list_append PySem.F.type_list_append mt_append (pv 3) (pa_cons (pe_op op_mod (pe_callTy callInt (by rfl) (m_int T) (by decide +kernel) (pa_cons (pv 5) pa_nil)) pe_int) pa_nil)))
  (pss_one (ps_set (i := 5) sc_l_row.nd rfl (Or.inl rfl) (pe_op op_fdiv (pv 5) pe_int)))) pss_nil)))) (pss_one (ps_for PassesOwn.never rfl (pi_range1 (by rfl) (m_range T) (pa_cons pe_int pa_nil)) (pg_name (i := 6) sc_l_row.nd rfl (Or.inl rfl))
   (pss_cons (ps_set (i := 5) sc_l_row.nd rfl (Or.inl rfl) (pe_op op_mod (pe_callTy callInt (by rfl) (m_int T) (by decide +kernel) (pa_cons (pe_op (opAdd (K := K)) (pe_op (opAdd (K := K)) (pe_op opMul (pv 5) pe_int) (pe_op opMul pe_int (pe_op (opAdd (K := K)) (pv 4) (pv 6)))) pe_int) pa_nil)) pe_int))
  (pss_one (ps_expr (pe_bm PySem.F.plainAttrs_list PySem.F.slot_list_append PySem.F.type_list_append mt_append (pv 3) (pa_cons (pe_op op_mod (pe_callTy callInt (by rfl) (m_int T) (by decide +kernel) (pa_cons (pe_op op_fdiv (pv 5) pe_int) pa_nil)) pe_int) pa_nil))))))))))))
  (pss_one (ps_ret (pv 3))))), ?_⟩
  repeat walk_at "rd1"
  refine ⟨by decide, fun p HA AA => ?_⟩
  obtain ⟨hp, rfl⟩ := AA
  repeat walk_at "rd1"
  refine ⟨x, y, rfl, ⟨by omega, by omega, by omega, by omega⟩, ?_⟩
  refine for_it (it_range (lo := x) (n := (y - x).toNat)) (fun i σ H' => ∃ (row : List Int) (v1 v2 v3 : Option V), σ = [some (.ref a), some (.int x), some (.int y), some (.ref p), v1, v2, v3] ∧ Same H H' ∧ H' p = some (.lst (row.map V.int)) ∧ row.length ≤ 60 * i)
    ⟨[], none, none, none, rfl, same_upd hp, upd_same, Nat.le_refl _⟩ (fun _ _ _ _ _ => trivial) ?_ ?_
  · rintro i v σ H' hv ⟨row, v1, v2, v3, rfl, s1, e1, l1⟩
    obtain ⟨k, hk, rfl⟩ : ∃ k : Int, 0 ≤ k ∧ v = .int k := by
      simp [rangeV] at hv
      obtain ⟨_, _, rfl⟩ := hv
      exact ⟨_, by omega, rfl⟩
    repeat walk_at "rd1"
    refine ⟨a, ns, k, rfl, Same.seq s1 hS, hk, fun n _ => ?_⟩
    repeat walk_at "rd1"
    refine v_mulI (.inl ⟨by decide, by decide⟩) ?_
    repeat walk_at "rd1"
    refine v_pow ⟨by decide, by decide, by decide⟩ ?_
    repeat walk_at "rd1"
    refine w_b (fun hc => ?_) (fun hc => ?_)
    · repeat walk_at "rd1"
      refine ⟨60, rfl, by decide, by decide, ?_⟩
      refine for_it (it_range (lo := 0) (n := 60)) (fun j σ H2 => ∃ (row2 : List Int) (c : Int) (v4 : Option V), σ = [some (.ref a), some (.int x), some (.int y), some (.ref p), some (.int k), some (.int c), v4] ∧ Same H H2 ∧ H2 p = some (.lst (row2.map V.int)) ∧ row2.length ≤ 60 * i + j)
        ⟨row, _, v3, rfl, s1, e1, l1⟩ (fun _ _ _ _ _ => trivial) ?_ ?_
      · rintro j v σ H2 hv2 ⟨row2, c, v4, rfl, s2, e2, l2⟩
        have hj : j < 60 := by simpa [rangeV] using (List.getElem?_eq_some_iff.mp hv2).1
        have hi : i < 100 := by have := (List.getElem?_eq_some_iff.mp hv).1; simp [rangeV] at this; omega
        repeat walk_at "rd1"
        refine w_b (fun hd => ?_) (fun hd => ?_)
        all_goals (repeat walk_at "rd1")
        · refine ⟨ty_lst (SqL.of e2), ?_⟩
          repeat walk_at "rd1"
          refine v_mod (by decide) ?_
          repeat walk_at "rd1"
          refine v_app e2 (line1000' (by rw [List.length_map]; omega)) ?_
          repeat walk_at "rd1"
          refine v_fdiv ⟨by decide, by decide⟩ ?_
          repeat walk_at "rd1"
          refine ⟨row2 ++ [c % 840], c / 840, _, rfl, ?_, ?_, ?_⟩
          · intro b o hb; rw [upd_ne (ne_of_none hb hp)]; exact s2 _ _ hb
          · rw [upd_same, List.map_append]; rfl
          · rw [List.length_append, List.length_singleton]; omega
        · exact ⟨row2, c, _, rfl, s2, e2, by omega⟩
      · rintro σ H2 ⟨row2, c, v4, rfl, s2, e2, l2⟩
        exact ⟨row2, _, _, _, rfl, s2, e2, by simp [rangeV] at l2; omega⟩
    · repeat walk_at "rd1"
      refine ⟨10, rfl, by decide, by decide, ?_⟩
      refine for_it (it_range (lo := 0) (n := 10)) (fun j σ H2 => ∃ (row2 : List Int) (c : Int) (v4 : Option V), σ = [some (.ref a), some (.int x), some (.int y), some (.ref p), some (.int k), some (.int c), v4] ∧ Same H H2 ∧ H2 p = some (.lst (row2.map V.int)) ∧ row2.length ≤ 60 * i + j)
        ⟨row, _, v3, rfl, s1, e1, l1⟩ (fun _ _ _ _ _ => trivial) ?_ ?_
      · rintro j v σ H2 hv2 ⟨row2, c, v4, rfl, s2, e2, l2⟩
        have hj : j < 10 := by simpa [rangeV] using (List.getElem?_eq_some_iff.mp hv2).1
        have hi : i < 100 := by have := (List.getElem?_eq_some_iff.mp hv).1; simp [rangeV] at this; omega
        obtain ⟨kt, rfl⟩ : ∃ kt : Int, v = .int kt := by
          simp [rangeV] at hv2
          obtain ⟨_, _, rfl⟩ := hv2
          exact ⟨_, rfl⟩
        repeat walk_at "rd1"
        refine v_mulI (.inr ⟨by decide, by decide⟩) ?_
        repeat walk_at "rd1"
        refine v_mulI (.inl ⟨by decide, by decide⟩) ?_
        repeat walk_at "rd1"
        refine v_mod (by decide) ?_
        repeat walk_at "rd1"
        refine ⟨ty_lst (SqL.of e2), ?_⟩
        repeat walk_at "rd1"
        refine v_fdiv ⟨by decide, by decide⟩ ?_
        repeat walk_at "rd1"
        refine v_mod (by decide) ?_
        repeat walk_at "rd1"
        refine v_app e2 (line1000' (by rw [List.length_map]; omega)) ?_
        repeat walk_at "rd1"
        refine ⟨row2 ++ [?z], _, _, rfl, ?a, ?e, ?l⟩
        case e => rw [upd_same, List.map_append]; rfl
        case a => intro b o hb; rw [upd_ne (ne_of_none hb hp)]; exact s2 _ _ hb
        case l => rw [List.length_append, List.length_singleton]; omega
      · rintro σ H2 ⟨row2, c, v4, rfl, s2, e2, l2⟩
        exact ⟨row2, _, _, _, rfl, s2, e2, by simp [rangeV] at l2; omega⟩
  · rintro σ H' ⟨row, v1, v2, v3, rfl, s1, e1, l1⟩
    repeat walk_at "rd1"
    refine q p H' row hp s1 e1 ?_
    simpa [rangeV] using l1
/-- the law's box: a row of ints that nobody changes, and the place -/
structure BoxAt (K : PySem.W.Frag) (H : Hp) (b r : Addr) (ns : List Int) (at_ : Int) : Prop where
  bx : H b = some (.lst [.ref r, .int at_])
  rw : SqL K H r (ns.map V.int)
  ne : r ≠ b
  nn : 0 ≤ at_
theorem BoxAt.same {K : PySem.W.Frag} {H H' : Hp} {b r : Addr} {ns : List Int} {at_ : Int} (h : BoxAt K H b r ns at_) (s : Same H H') : BoxAt K H' b r ns at_ := ⟨s _ _ h.bx, s.seq h.rw, h.ne, h.nn⟩
def sp_l_draw (K : PySem.W.Frag) : Sp := fun vs H Q _ => ∃ (b r : Addr) (ns : List Int) (at_ many : Int), vs = [.ref b, .int many] ∧ BoxAt K H b r ns at_ ∧ 0 < many ∧
  ∀ v : Int, 0 ≤ v → v < many → BoxAt K (upd H b (.lst [.ref r, .int (at_ + 1)])) b r ns (at_ + 1) → Q (.int v) (upd H b (.lst [.ref r, .int (at_ + 1)]))
theorem ok_l_draw {P : Program} {w : World} {K : PySem.W.Frag} {mg : Str → Option Value} {base : Heap} (T : Wd K mg) : Cal P w K mg base "_law_draw" CX0 1 (sp_l_draw K) := by
  refine mk_cal T 5 rfl sc_l_draw (m__law_draw T) (fun _ _ _ _ _ _ us hl => match us, hl with | [_, _], _ => rfl) (fun vs H Q E h => ?_) (fun f cdv A outer s H vs Q E hr h => ?_)
  · obtain ⟨b, r, ns, at_, many, rfl, _⟩ := h; rfl
  obtain ⟨b, r, ns, at_, many, rfl, ⟨hb, hr', hne, hn⟩, hm, q⟩ := h
  refine ⟨_, (pss_cons (ps_set (i := 2) sc_l_draw.nd rfl (Or.inl rfl) (pe_ix ix_seq (pv 0) pe_int (fun _ _ => rfl)))
  (pss_cons (ps_asg (pe_op (opAdd (K := K)) (pv 2) pe_int) (pg_sub (pv 0) pe_int set_list))
  (pss_cons (ps_if (pt_cmpR op_lt (pv 2) (pe_callB (callLen (K := K)) (by rfl) (m_len T) (by decide +kernel) (pa_cons (pe_ix ix_seq (pv 0) pe_int (fun _ _ => rfl)) pa_nil)) (nomark _)) (pss_one (ps_ret (pe_op op_mod (pe_callTy callInt (by rfl) (m_int T) (by decide +kernel) (pa_cons (pe_ix ix_seq (pe_ix ix_seq (pv 0) pe_int (fun _ _ => rfl)) (pv 2) (fun _ _ => rfl)) pa_nil)) (pv 1)))) pss_nil)
  (pss_one (ps_ret (pe_op op_mod (pe_callTy callInt (by rfl) (m_int T) (by decide +kernel) (pa_cons (pe_op (opAdd (K := K)) (pe_op opMul (pv 2) pe_int) pe_int) pa_nil)) (pv 1))))))), ?_⟩
  repeat walk_at "rd1"
  refine v_ixL (SqL.of hb) rfl ?_
  repeat walk_at "rd1"
  refine v_setL hb rfl ?_
  have hb2 : upd H b (.lst [.ref r, .int (at_ + 1)]) b = some (.lst [.ref r, .int (at_ + 1)]) := upd_same
  have hr2 : SqL K (upd H b (.lst [.ref r, .int (at_ + 1)])) r (ns.map V.int) := by
    rcases hr' with (h | ⟨o, h⟩) | h
    · exact .inl (.inl (by rw [upd_ne hne]; exact h))
    · exact .inl (.inr ⟨o, by rw [upd_ne hne]; exact h⟩)
    · exact .inr h
  have hB : BoxAt K (upd H b (.lst [.ref r, .int (at_ + 1)])) b r ns (at_ + 1) := ⟨hb2, hr2, hne, by omega⟩
  show tSeq _ _ _ _ (upd H b (.lst [.ref r, .int (at_ + 1)]))
  repeat walk_at "rd1"
  refine v_ixL (SqL.of hb2) rfl ?_
  repeat walk_at "rd1"
  refine v_lenL hr2 ?_
  repeat walk_at "rd1"
  refine w_b (fun h1 => ?_) (fun h1 => ?_)
  all_goals (repeat walk_at "rd1")
  · simp at h1
    have hi : at_.toNat < ns.length := by omega
    refine v_ixL (SqL.of hb2) rfl ?_
    repeat walk_at "rd1"
    refine v_ixL hr2 (v := .int ns[at_.toNat]) ?_ ?_
    · refine at_of (j := at_.toNat) (by omega) ?_
      rw [List.getElem?_map, List.getElem?_eq_getElem hi]
      rfl
    · repeat walk_at "rd1"
      refine v_mod hm ?_
      exact q _ (Int.emod_nonneg _ (by omega)) (Int.emod_lt_of_pos _ hm) hB
  · refine v_mulI (.inr ⟨by decide, by decide⟩) ?_
    repeat walk_at "rd1"
    refine v_mod hm ?_
    exact q _ (Int.emod_nonneg _ (by omega)) (Int.emod_lt_of_pos _ hm) hB
/-- a value of the menus -/
def GoodV (v : V) : Prop := flatV v = true ∧ isValV v = true ∧ (datV v).canLay0 = true
def menu16 : List V := [.non, .bl false, .bl true, .int 0, .int 1, .int 2, .int 3, .int 7, .int 999, .str "", .str "a", .str "b", .str "ab", .str "1", .str (Txt.mul "x" 39), .str (Txt.mul "y" 40)]
theorem menu_good : ∀ v ∈ menu16, GoodV v := by
  intro v hv
  simp only [menu16, List.mem_cons, List.not_mem_nil, or_false] at hv
  rcases hv with rfl | rfl | rfl | rfl | rfl | rfl | rfl | rfl | rfl | rfl | rfl | rfl | rfl | rfl | rfl | rfl
  all_goals exact ⟨rfl, by decide +kernel, by decide +kernel⟩
def sp_l_value (K : PySem.W.Frag) : Sp := fun vs H Q _ => ∃ (b r : Addr) (ns : List Int) (at_ : Int), vs = [.ref b] ∧ BoxAt K H b r ns at_ ∧
  ∀ (v : V) (H' : Hp), GoodV v → BoxAt K H' b r ns (at_ + 1) → (∀ x o, H x = some o → x ≠ b → H' x = some o) → Q v H'
theorem ok_l_value {P : Program} {w : World} {K : PySem.W.Frag} {mg : Str → Option Value} {base : Heap} (T : Wd K mg) : Cal P w K mg base "_law_value" CX0 2 (sp_l_value K) := by
  have c_l_draw := ok_l_draw (P := P) (w := w) (base := base) T
  refine mk_cal T 6 rfl sc_l_value (m__law_value T) (fun _ _ _ _ _ _ us hl => match us, hl with | [_], _ => rfl) (fun vs H Q E h => ?_) (fun f cdv A outer s H vs Q E hr h => ?_)
  · obtain ⟨b, r, ns, at_, rfl, _⟩ := h; rfl
  obtain ⟨b, r, ns, at_, rfl, hB, q⟩ := h
  refine ⟨_, (pss_one (ps_ret (pe_ix ix_seq (pe_lst (pa_cons pe_non (pa_cons pe_bl (pa_cons pe_bl (pa_cons pe_int (pa_cons pe_int (pa_cons pe_int (pa_cons pe_int (pa_cons pe_int (pa_cons pe_int (pa_cons pe_str (pa_cons pe_str (pa_cons pe_str (pa_cons pe_str (pa_cons pe_str (pa_cons (pe_op opMul pe_str pe_int) (pa_cons (pe_op opMul pe_str pe_int) pa_nil))))))))))))))))) (pe_cal c_l_draw (hr.mono (by decide)) pass0 (pa_cons (pv 0) (pa_cons pe_int pa_nil))) (fun _ _ => rfl)))), ?_⟩
  repeat walk_at "rd1"
  refine v_mulS (by decide) (by decide) (by decide) ?_
  repeat walk_at "rd1"
  refine v_mulS (by decide) (by decide) (by decide) ?_
  repeat walk_at "rd1"
  refine ⟨by show 16 ≤ sizeLine; decide, fun p HA AA => ?_⟩
  obtain ⟨hp, rfl⟩ := AA
  repeat walk_at "rd1"
  have s1 : Same H (upd H p (.lst menu16)) := same_upd hp
  have hB1 := hB.same s1
  refine ⟨b, r, ns, at_, 16, rfl, hB1, by decide, fun v h0 h1 hB2 => ?_⟩
  have npb : p ≠ b := (ne_of_none hB.bx hp).symm
  obtain ⟨j, rfl⟩ : ∃ j : Nat, v = (j : Int) := ⟨v.toNat, by omega⟩
  have hj : j < menu16.length := by show j < 16; omega
  refine v_ixL (xs := menu16) (SqL.of (by rw [upd_ne npb]; exact upd_same)) (at_of rfl (List.getElem?_eq_getElem hj)) ?_
  refine q _ _ (menu_good _ (List.getElem_mem hj)) hB2 (fun x o hx hxb => ?_)
  rw [upd_ne hxb]
  exact s1 _ _ hx
/-! ### the law's own readings of values -/
def sp_l_is_bool : Sp := fun vs H Q _ => ∃ v, vs = [v] ∧ flatV v = true ∧ Q (.bl (isBlV v)) H
theorem ok_l_is_bool {P : Program} {w : World} {K : PySem.W.Frag} {mg : Str → Option Value} {base : Heap} (T : Wd K mg) : Cal P w K mg base "_law_is_bool" CX0 1 sp_l_is_bool := by
  refine mk_cal T 7 rfl sc_l_is_bool (m__law_is_bool T) (fun _ _ _ _ _ _ us hl => match us, hl with | [_], _ => rfl) (fun vs H Q E h => ?_) (fun f cdv A outer s H vs Q E hr h => ?_)
  · obtain ⟨v, rfl, _⟩ := h; rfl
  obtain ⟨v, rfl, hf, q⟩ := h
  refine ⟨_, (pss_one (ps_ret (pe_or (pe_cmpR op_isB (pv 0) pe_bl (nomark _)) (pe_one (pe_cmpR op_isB (pv 0) pe_bl (nomark _)))))), ?_⟩
  repeat walk_at "rd1"
  refine v_isB hf ?_
  cases v
  all_goals (first | (cases hf; done) | skip)
  all_goals (repeat walk_at "rd1")
  · exact v_isB rfl q
  · rename_i b
    cases b
    all_goals (repeat walk_at "rd1")
    · exact v_isB rfl q
    · exact q
  · exact v_isB rfl q
  · exact v_isB rfl q
def sp_l_equal : Sp := fun vs H Q _ => ∃ v u, vs = [v, u] ∧ flatV v = true ∧ flatV u = true ∧ Q (.bl (decide (v = u))) H
theorem ok_l_equal {P : Program} {w : World} {K : PySem.W.Frag} {mg : Str → Option Value} {base : Heap} (T : Wd K mg) : Cal P w K mg base "_law_equal" CX0 2 sp_l_equal := by
  have c_l_is_bool := ok_l_is_bool (P := P) (w := w) (base := base) T
  refine mk_cal T 8 rfl sc_l_equal (m__law_equal T) (fun _ _ _ _ _ _ us hl => match us, hl with | [_, _], _ => rfl) (fun vs H Q E h => ?_) (fun f cdv A outer s H vs Q E hr h => ?_)
  · obtain ⟨v, u, rfl, _⟩ := h; rfl
  have hu := hu64 hr
  obtain ⟨v, u, rfl, hv, hu', q⟩ := h
  refine ⟨_, (pss_cons (ps_if (pw_or (pt_cmpR opIsN (pv 0) pe_non (nomark _)) (pw_or1 (pt_cmpR opIsN (pv 1) pe_non (nomark _)))).pt (pss_one (ps_ret (pe_and (pe_cmpR opIsN (pv 0) pe_non (nomark _)) (pe_one (pe_cmpR opIsN (pv 1) pe_non (nomark _)))))) pss_nil)
  (pss_cons (ps_if (pw_or (pt_val (pe_callB (call_isiK (K := K) .str) (by rfl) (m_isinstance T) (by decide +kernel) (pa_cons (pv 0) (pa_cons (pe_tyB (n := Kd.nm .str) (by rfl) (m_str T) (by decide +kernel)) pa_nil)))) (pw_or1 (pt_val (pe_callB (call_isiK (K := K) .str) (by rfl) (m_isinstance T) (by decide +kernel) (pa_cons (pv 1) (pa_cons (pe_tyB (n := Kd.nm .str) (by rfl) (m_str T) (by decide +kernel)) pa_nil)))))).pt (pss_one (ps_ret (pe_and (pe_callB (call_isiK (K := K) .str) (by rfl) (m_isinstance T) (by decide +kernel) (pa_cons (pv 0) (pa_cons (pe_tyB (n := Kd.nm .str) (by rfl) (m_str T) (by decide +kernel)) pa_nil))) (pe_and (pe_callB (call_isiK (K := K) .str) (by rfl) (m_isinstance T) (by decide +kernel) (pa_cons (pv 1) (pa_cons (pe_tyB (n := Kd.nm .str) (by rfl) (m_str T) (by decide +kernel)) pa_nil))) (pe_one (pe_cmpR (opEq (K := K) (hu64 hr)) (pv 0) (pv 1) (nomark _))))))) pss_nil)
  (pss_one (ps_ret (pe_and (pe_cmpR (opEq (K := K) (hu64 hr)) (pe_cal c_l_is_bool (hr.mono (by decide)) pass0 (pa_cons (pv 0) pa_nil)) (pe_cal c_l_is_bool (hr.mono (by decide)) pass0 (pa_cons (pv 1) pa_nil)) (nomark _)) (pe_one (pe_cmpR (opEq (K := K) (hu64 hr)) (pv 0) (pv 1) (nomark _)))))))), ?_⟩
  cases v
  all_goals (first | (cases hv; done) | skip)
  all_goals (cases u)
  all_goals (first | (cases hu'; done) | skip)
  all_goals (repeat walk_at "rd1")
  all_goals (first | exact q | exact qb q (by simp [isNonV]) | skip)
  all_goals (refine ⟨_, rfl, rfl, ?_⟩)
  all_goals (repeat walk_at "rd1")
  all_goals (refine ⟨_, rfl, rfl, ?_⟩)
  all_goals (try (refine v_eq rfl ?_))
  all_goals (repeat walk_at "rd1")
  all_goals (first | exact q | exact qb q (by simp) | exact v_eq rfl q)

/-! ### readings -/
/-- a reading -/
inductive RD where
  | value (v : V)
  | absent
  | keys (ks : List Str)
  | error (m : Str)
def RD.dat : RD → PyData
  | .value v => .tuple [.str "value", datV v]
  | .absent => .tuple [.str "absent"]
  | .keys ks => .tuple [.str "keys", .tuple (ks.map .str)]
  | .error m => .tuple [.str "error", .str m]
def RD.ok : RD → Prop
  | .value v => flatV v = true ∧ (datV v).canLay0 = true
  | .absent => True
  | .keys ks => ∀ k ∈ ks, PyData.strOk k = true
  | .error m => PyData.strOk m = true
theorem canLay_strs : ∀ {ks : List Str}, (∀ k ∈ ks, PyData.strOk k = true) → PyData.canLayAll0 (ks.map .str) = true
  | [], _ => rfl
  | k :: ks, h => by
    simp only [List.map_cons, PyData.canLayAll0, PyData.canLay0, Bool.and_eq_true]
    exact ⟨h k (List.mem_cons_self ..), canLay_strs fun x hx => h x (List.mem_cons_of_mem _ hx)⟩
theorem depth_strs : ∀ {ks : List Str}, PyData.depthAll (ks.map .str) = 0
  | [] => rfl
  | k :: ks => by simp only [List.map_cons, PyData.depthAll, PyData.depth, depth_strs (ks := ks)]; rfl
theorem noNum_strs : ∀ {ks : List Str}, noNumAll (ks.map .str) = true
  | [] => rfl
  | k :: ks => by simp only [List.map_cons, noNumAll, noNum, noNum_strs (ks := ks)]; rfl
theorem rd_value {K : PySem.W.Frag} {H : Hp} {x v : V} (h : Dp K H x (RD.value v).dat) (f : flatV v = true) : ∃ a, x = .ref a ∧ SqT K H a [.str "value", v] := by
  cases h with
  | tup s r =>
    cases r with
    | cons r1 r2 =>
      cases r2 with
      | cons r3 r4 =>
        cases r4
        cases r1
        have fd : flatD (datV v) = true := by cases v <;> first | rfl | cases f
        obtain ⟨f2, e⟩ := dp_flatD r3 fd
        have := dat_inj f2 f e
        subst this
        exact ⟨_, rfl, s⟩
theorem rd_absent {K : PySem.W.Frag} {H : Hp} {x : V} (h : Dp K H x RD.absent.dat) : ∃ a, x = .ref a ∧ SqT K H a [.str "absent"] := by
  cases h with
  | tup s r =>
    cases r with
    | cons r1 r2 =>
      cases r2
      cases r1
      exact ⟨_, rfl, s⟩
theorem rd_keys {K : PySem.W.Frag} {H : Hp} {x : V} {ks : List Str} (h : Dp K H x (RD.keys ks).dat) : ∃ a t, x = .ref a ∧ SqT K H a [.str "keys", t] := by
  cases h with
  | tup s r =>
    cases r with
    | cons r1 r2 =>
      cases r2 with
      | cons r3 r4 =>
        cases r4
        cases r1
        exact ⟨_, _, rfl, s⟩
theorem rd_error {K : PySem.W.Frag} {H : Hp} {x : V} {m : Str} (h : Dp K H x (RD.error m).dat) : ∃ a, x = .ref a ∧ SqT K H a [.str "error", .str m] := by
  cases h with
  | tup s r =>
    cases r with
    | cons r1 r2 =>
      cases r2 with
      | cons r3 r4 =>
        cases r4
        cases r1
        cases r3
        exact ⟨_, rfl, s⟩
def RD.tag : RD → Str
  | .value _ => "value"
  | .absent => "absent"
  | .keys _ => "keys"
  | .error _ => "error"
theorem rd_tag {K : PySem.W.Frag} {H : Hp} {x : V} {d : RD} (h : Dp K H x d.dat) (o : d.ok) : ∃ a xs, x = .ref a ∧ SqT K H a (.str d.tag :: xs) := by
  cases d with
  | value v => obtain ⟨a, e, s⟩ := rd_value h o.1; exact ⟨a, _, e, s⟩
  | absent => obtain ⟨a, e, s⟩ := rd_absent h; exact ⟨a, _, e, s⟩
  | keys ks => obtain ⟨a, t, e, s⟩ := rd_keys h; exact ⟨a, _, e, s⟩
  | error m => obtain ⟨a, e, s⟩ := rd_error h; exact ⟨a, _, e, s⟩
theorem sam_tag {d e : RD} (h : d.tag ≠ e.tag) : sam d.dat e.dat = false := by
  cases d <;> cases e <;> first | exact absurd rfl h | rfl
theorem rd_shaped {d : RD} (o : d.ok) (nv : ∀ v, d ≠ .value v) : SeqAt.shaped d.dat = true := by
  have go : ∀ p : PyData, p.canLay0 = true → p.depth ≤ 64 → SeqAt.shaped p = true := fun p h1 h2 => by
    simp only [SeqAt.shaped, Bool.and_eq_true, decide_eq_true_eq]; exact ⟨h1, h2⟩
  cases d with
  | value v => exact absurd rfl (nv v)
  | absent => exact go _ (by decide +kernel) (by decide +kernel)
  | keys ks =>
    refine go _ ?_ ?_
    · simp only [RD.dat, PyData.canLay0, PyData.canLayAll0, Bool.and_true, Bool.and_eq_true]
      exact ⟨by decide +kernel, canLay_strs o⟩
    · simp only [RD.dat, PyData.depth, PyData.depthAll, depth_strs]; decide
  | error m =>
    refine go _ ?_ ?_
    · simp only [RD.dat, PyData.canLay0, PyData.canLayAll0, Bool.and_true, Bool.and_eq_true]
      exact ⟨by decide +kernel, o⟩
    · simp only [RD.dat, PyData.depth, PyData.depthAll]; decide
theorem rd_noNum {d : RD} (nv : ∀ v, d ≠ .value v) : noNum d.dat = true := by
  cases d with
  | value v => exact absurd rfl (nv v)
  | absent => rfl
  | keys ks => simp only [RD.dat, noNum, noNumAll, noNum_strs]; rfl
  | error m => rfl
theorem tag_value {d : RD} (h : d.tag = ("value" : Str)) : ∃ v, d = .value v := by
  cases d with
  | value v => exact ⟨v, rfl⟩
  | absent => exact absurd (show ("absent" : Str) = "value" from h) (by decide +kernel)
  | keys ks => exact absurd (show ("keys" : Str) = "value" from h) (by decide +kernel)
  | error m => exact absurd (show ("error" : Str) = "value" from h) (by decide +kernel)
def sp_same (K : PySem.W.Frag) : Sp := fun vs H Q _ => ∃ (x y : V) (d e : RD), vs = [x, y] ∧ Dp K H x d.dat ∧ Dp K H y e.dat ∧ d.ok ∧ e.ok ∧ Q (.bl (sam d.dat e.dat)) H
theorem ok_same {P : Program} {w : World} {K : PySem.W.Frag} {mg : Str → Option Value} {base : Heap} (T : Wd K mg) : Cal P w K mg base "same" CX0 3 (sp_same K) := by
  have c_equal := ok_equal (P := P) (w := w) (base := base) T
  refine mk_cal T 2 rfl sc_same (m_same T) (fun _ _ _ _ _ _ us hl => match us, hl with | [_, _], _ => rfl) (fun vs H Q E h => ?_) (fun f cdv A outer s H vs Q E hr h => ?_)
  · obtain ⟨x, y, d, e, rfl, _⟩ := h; rfl
  have hu := hu64 hr
  obtain ⟨x, y, d, e, rfl, hx, hy, od, oe, q⟩ := h
  refine ⟨_, (pss_cons (ps_if (pt_cmpR (opNe (K := K) (hu64 hr)) (pe_ix ix_seq (pv 0) pe_int (fun _ _ => rfl)) (pe_ix ix_seq (pv 1) pe_int (fun _ _ => rfl)) (nomark _)) (pss_one (ps_ret pe_bl)) pss_nil)
  (pss_cons (ps_if (pt_cmpR (opEq (K := K) (hu64 hr)) (pe_ix ix_seq (pv 0) pe_int (fun _ _ => rfl)) pe_str (nomark _)) (pss_one (ps_ret (pe_cal c_equal (hr.mono (by decide)) pass0 (pa_cons (pe_ix ix_seq (pv 0) pe_int (fun _ _ => rfl)) (pa_cons (pe_ix ix_seq (pv 1) pe_int (fun _ _ => rfl)) pa_nil))))) pss_nil)
  (pss_one (ps_ret (pe_cmpR (opEq (K := K) (hu64 hr)) (pv 0) (pv 1) (nomark _)))))), ?_⟩
  obtain ⟨a, xs, rfl, sx⟩ := rd_tag hx od
  obtain ⟨b, ys, rfl, sy⟩ := rd_tag hy oe
  repeat walk_at "rd1"
  refine v_ixT sx (at_of (j := 0) rfl rfl) ?_
  repeat walk_at "rd1"
  refine v_ixT sy (at_of (j := 0) rfl rfl) ?_
  try (refine v_ne rfl ?_)
  repeat walk_at "rd1"
  refine w_b (fun h1 => ?_) (fun h1 => ?_)
  all_goals (repeat walk_at "rd1")
  · exact qb q (sam_tag (by simpa using h1))
  have et : d.tag = e.tag := by simpa using h1
  refine v_ixT sx (at_of (j := 0) rfl rfl) ?_
  repeat walk_at "rd1"
  try (refine v_eq rfl ?_)
  repeat walk_at "rd1"
  refine w_b (fun h2 => ?_) (fun h2 => ?_)
  all_goals (repeat walk_at "rd1")
  · have h3 : d.tag = ("value" : Str) := by simpa using h2
    obtain ⟨v, rfl⟩ := tag_value h3
    obtain ⟨u, rfl⟩ := tag_value (et.symm.trans h3)
    obtain ⟨a', e1, sx'⟩ := rd_value hx od.1
    obtain ⟨b', e2, sy'⟩ := rd_value hy oe.1
    cases e1
    cases e2
    refine v_ixT sx' (at_of (j := 1) rfl rfl) ?_
    repeat walk_at "rd1"
    refine v_ixT sy' (at_of (j := 1) rfl rfl) ?_
    repeat walk_at "rd1"
    refine ⟨v, u, rfl, od.1, oe.1, qb q ?_⟩
    show (sam (.str "value") (.str "value") && (sam (datV v) (datV u) && true)) = _
    rw [sam_flat od.1 oe.1, Bool.and_true]
    exact Bool.true_and _
  · have nt : d.tag ≠ ("value" : Str) := by simpa using h2
    have nd : ∀ v, d ≠ .value v := by rintro v rfl; exact nt rfl
    have ne : ∀ v, e ≠ .value v := by rintro v rfl; exact nt et
    refine .inr ⟨d.dat, e.dat, hx, hy, rd_shaped od nd, rd_shaped oe ne, qb q (eqv_sam _ _ (rd_noNum nd)).symm⟩

/-- the law's own sameness: lists and tuples by places -/
def sp_l_same (K : PySem.W.Frag) (n : Nat) : Sp := fun vs H Q _ => ∃ (x y : V) (d e : PyData), vs = [x, y] ∧ Dp K H x d ∧ Dp K H y e ∧ e.depth < n ∧ d.canLay0 = true ∧ e.canLay0 = true ∧ ∀ H', Same H H' → Q (.bl (sam d e)) H'
theorem l_same_next {P : Program} {w : World} {K : PySem.W.Frag} {mg : Str → Option Value} {base : Heap} (T : Wd K mg) (n : Nat) (c_l_same : Cal P w K mg base "_law_same" CX0 (n + 3) (sp_l_same K n)) : Cal P w K mg base "_law_same" CX0 (n + 1 + 3) (sp_l_same K (n + 1)) := by
  have c_l_equal := ok_l_equal (P := P) (w := w) (base := base) T
  refine mk_cal T 9 rfl sc_l_same (m__law_same T) (fun _ _ _ _ _ _ us hl => match us, hl with | [_, _], _ => rfl) (fun vs H Q E h => ?_) (fun f cdv A outer s H vs Q E hr h => ?_)
  · obtain ⟨x, y, d, e, rfl, _⟩ := h; rfl
  have hu := hu64 hr
  have hr0 : Room (n + 3) _ := hr
  replace hr : Room 3 _ := hr0.mono (by omega)
  obtain ⟨x, y, d, e, rfl, hx, hy, hn, ld, le, q⟩ := h
  refine ⟨_, (pss_cons (ps_if (pw_or (pt_val (pe_callB (call_isiK (K := K) .tup) (by rfl) (m_isinstance T) (by decide +kernel) (pa_cons (pv 1) (pa_cons (pe_tyB (n := Kd.nm .tup) (by rfl) (m_tuple T) (by decide +kernel)) pa_nil)))) (pw_or1 (pt_val (pe_callB (call_isiK (K := K) .lst) (by rfl) (m_isinstance T) (by decide +kernel) (pa_cons (pv 1) (pa_cons (pe_tyB (n := Kd.nm .lst) (by rfl) (m_list T) (by decide +kernel)) pa_nil)))))).pt (pss_cons (ps_if (pw_or (pt_cmpR (opNe (K := K) (hu64 hr)) (pe_callB (call_isiK (K := K) .tup) (by rfl) (m_isinstance T) (by decide +kernel) (pa_cons (pv 1) (pa_cons (pe_tyB (n := Kd.nm .tup) (by rfl) (m_tuple T) (by decide +kernel)) pa_nil))) (pe_callB (call_isiK (K := K) .tup) (by rfl) (m_isinstance T) (by decide +kernel) (pa_cons (pv 0) (pa_cons (pe_tyB (n := Kd.nm .tup) (by rfl) (m_tuple T) (by decide +kernel)) pa_nil))) (nomark _)) (pw_or1 (pt_cmpR (opNe (K := K) (hu64 hr)) (pe_callB (call_isiK (K := K) .lst) (by rfl) (m_isinstance T) (by decide +kernel) (pa_cons (pv 1) (pa_cons (pe_tyB (n := Kd.nm .lst) (by rfl) (m_list T) (by decide +kernel)) pa_nil))) (pe_callB (call_isiK (K := K) .lst) (by rfl) (m_isinstance T) (by decide +kernel) (pa_cons (pv 0) (pa_cons (pe_tyB (n := Kd.nm .lst) (by rfl) (m_list T) (by decide +kernel)) pa_nil))) (nomark _)))).pt (pss_one (ps_ret pe_bl)) pss_nil)
  (pss_cons (ps_if (pt_cmpR (opNe (K := K) (hu64 hr)) (pe_callB (callLen (K := K)) (by rfl) (m_len T) (by decide +kernel) (pa_cons (pv 0) pa_nil)) (pe_callB (callLen (K := K)) (by rfl) (m_len T) (by decide +kernel) (pa_cons (pv 1) pa_nil)) (nomark _)) (pss_one (ps_ret pe_bl)) pss_nil)
  (pss_cons (ps_for PassesOwn.never rfl (pi_range1 (by rfl) (m_range T) (pa_cons (pe_callB (callLen (K := K)) (by rfl) (m_len T) (by decide +kernel) (pa_cons (pv 1) pa_nil)) pa_nil)) (pg_name (i := 2) sc_l_same.nd rfl (Or.inl rfl))
   (pss_one (ps_if (pt_not (pt_val (pe_cal c_l_same hr0 pass0 (pa_cons (pe_ix ix_seq (pv 0) (pv 2) (fun _ _ => rfl)) (pa_cons (pe_ix ix_seq (pv 1) (pv 2) (fun _ _ => rfl)) pa_nil))))) (pss_one (ps_ret pe_bl)) pss_nil)))
  (pss_one (ps_ret pe_bl))))) pss_nil)
  (pss_cons (ps_if (pw_or (pt_val (pe_callB (call_isiK (K := K) .tup) (by rfl) (m_isinstance T) (by decide +kernel) (pa_cons (pv 0) (pa_cons (pe_tyB (n := Kd.nm .tup) (by rfl) (m_tuple T) (by decide +kernel)) pa_nil)))) (pw_or1 (pt_val (pe_callB (call_isiK (K := K) .lst) (by rfl) (m_isinstance T) (by decide +kernel) (pa_cons (pv 0) (pa_cons (pe_tyB (n := Kd.nm .lst) (by rfl) (m_list T) (by decide +kernel)) pa_nil)))))).pt (pss_one (ps_ret pe_bl)) pss_nil)
  (pss_one (ps_ret (pe_cal c_l_equal (hr.mono (by decide)) pass0 (pa_cons (pv 0) (pa_cons (pv 1) pa_nil))))))), ?_⟩
  have sub : ∀ {ds es : List PyData} {xs ys : List V}, DpAll K H xs ds → DpAll K H ys es → PyData.depthAll es < n → PyData.canLayAll0 ds = true → PyData.canLayAll0 es = true → ∀ i : Nat, i < ds.length → i < es.length →
      ∃ x y d e, xs[i]? = some x ∧ ys[i]? = some y ∧ ds[i]? = some d ∧ es[i]? = some e ∧ ∀ (H' : Hp) (Q' : VK) (E' : XK), Same H H' → (∀ H'', Same H' H'' → Q' (.bl (sam d e)) H'') → sp_l_same K n [x, y] H' Q' E' := by
    intro ds es xs ys hd he hn ld le i h1 h2
    obtain ⟨x, d, e1, e2, dx⟩ := dpAll_get hd h1
    obtain ⟨y, e, e3, e4, dy⟩ := dpAll_get he h2
    refine ⟨x, y, d, e, e1, e3, e2, e4, fun H' Q' E' s k => ⟨x, y, d, e, rfl, dp_same s _ _ dx, dp_same s _ _ dy, ?_, canLayAll_get ld e2, canLayAll_get le e4, k⟩⟩
    exact Nat.lt_of_le_of_lt (depthAll_get e4) hn
  cases e with
  | dict _ => cases hy
  | tuple es =>
    cases d with
    | dict _ => cases hx
    | tuple ds =>
      cases hx with
      | tup sx rx =>
      cases hy with
      | tup sy ry =>
      rename_i a xs b ys
      have lx := dpAll_len rx
      have ly := dpAll_len ry
      simp only [PyData.depth] at hn
      simp only [PyData.canLay0] at ld le
      have hkx : KdOf K H (.ref a) (kdD (.tuple ds)) := kd_dp (.tup sx rx)
      have hky : KdOf K H (.ref b) (kdD (.tuple es)) := kd_dp (.tup sy ry)
      repeat walk_at "rd1"
      try (refine v_ne rfl ?_)
      repeat walk_at "rd1"
      try (refine v_ne rfl ?_)
      repeat walk_at "rd1"
      refine v_lenT sx ?_
      repeat walk_at "rd1"
      refine v_lenT sy ?_
      try (refine v_ne rfl ?_)
      repeat walk_at "rd1"
      refine w_b (fun h1 => ?_) (fun h1 => ?_)
      all_goals (repeat walk_at "rd1")
      · refine qb (q _ (Same.refl _)) ?_
        show samAll ds es = false
        exact samAll_lenF (by simp at h1; omega)
      have hle : xs.length = ys.length := by simp at h1; omega
      refine v_lenTb sy fun hys => ?_
      have hys := small_line hys
      repeat walk_at "rd1"
      refine ⟨_, rfl, by omega, by omega, ?_⟩
      refine for_it (it_range (lo := 0) (n := ys.length)) (fun i σ H' => (∃ v2 : Option V, σ = [some (.ref a), some (.ref b), v2]) ∧ Same H H' ∧ ∀ (j : Nat) (d e : PyData), j < i → ds[j]? = some d → es[j]? = some e → sam d e = true) ⟨⟨none, rfl⟩, Same.refl _, fun _ _ _ h => absurd h (Nat.not_lt_zero _)⟩ (fun _ _ _ _ _ => trivial) ?_ ?_
      · rintro i v σ H' hv ⟨⟨v2, rfl⟩, s1, ih⟩
        have hi : i < ys.length := by simpa [rangeV] using (List.getElem?_eq_some_iff.mp hv).1
        obtain ⟨_, rfl⟩ := rangeV_get hv
        obtain ⟨x', y', d', e', ex, ey, ed, ee, hs⟩ := sub rx ry (by omega) ld le i (by omega) (by omega)
        repeat walk_at "rd1"
        refine v_ixT (Same.seqT s1 sx) (at_of (j := i) (by omega) ex) ?_
        repeat walk_at "rd1"
        refine v_ixT (Same.seqT s1 sy) (at_of (j := i) (by omega) ey) ?_
        repeat walk_at "rd1"
        refine hs _ _ _ s1 fun H2 s2 => ?_
        repeat walk_at "rd1"
        refine w_b (fun h2 => ?_) (fun h2 => ?_)
        all_goals (repeat walk_at "rd1")
        · refine qb (q _ (s1.trans s2)) ?_
          show samAll ds es = false
          exact samAll_false ed ee (by simpa using h2)
        · refine ⟨⟨_, rfl⟩, s1.trans s2, fun j d e hj h3 h4 => ?_⟩
          by_cases hji : j = i
          · subst hji
            rw [ed] at h3; rw [ee] at h4
            cases h3; cases h4
            simpa using h2
          · exact ih j d e (by omega) h3 h4
      · rintro σ H' ⟨⟨v2, rfl⟩, s1, ih⟩
        repeat walk_at "rd1"
        refine qb (q _ s1) ?_
        show samAll ds es = true
        refine (samAll_iff (by omega)).mpr fun i d e h3 h4 => ih i d e ?_ h3 h4
        have := (List.getElem?_eq_some_iff.mp h3).1
        simp [rangeV]
        omega
    | _ =>
      all_goals (repeat walk_at "rd1")
      all_goals (try (refine v_ne rfl ?_))
      all_goals (repeat walk_at "rd1")
      all_goals exact q _ (Same.refl _)
  | list es =>
    cases d with
    | dict _ => cases hx
    | list ds =>
      cases hx with
      | lst sx rx =>
      cases hy with
      | lst sy ry =>
      rename_i a xs b ys
      have lx := dpAll_len rx
      have ly := dpAll_len ry
      simp only [PyData.depth] at hn
      simp only [PyData.canLay0] at ld le
      have hkx : KdOf K H (.ref a) (kdD (.list ds)) := kd_dp (.lst sx rx)
      have hky : KdOf K H (.ref b) (kdD (.list es)) := kd_dp (.lst sy ry)
      repeat walk_at "rd1"
      try (refine v_ne rfl ?_)
      repeat walk_at "rd1"
      try (refine v_ne rfl ?_)
      repeat walk_at "rd1"
      refine v_lenL sx ?_
      repeat walk_at "rd1"
      refine v_lenL sy ?_
      try (refine v_ne rfl ?_)
      repeat walk_at "rd1"
      refine w_b (fun h1 => ?_) (fun h1 => ?_)
      all_goals (repeat walk_at "rd1")
      · refine qb (q _ (Same.refl _)) ?_
        show samAll ds es = false
        exact samAll_lenF (by simp at h1; omega)
      have hle : xs.length = ys.length := by simp at h1; omega
      refine v_lenLb sy fun hys => ?_
      have hys := small_line hys
      repeat walk_at "rd1"
      refine ⟨_, rfl, by omega, by omega, ?_⟩
      refine for_it (it_range (lo := 0) (n := ys.length)) (fun i σ H' => (∃ v2 : Option V, σ = [some (.ref a), some (.ref b), v2]) ∧ Same H H' ∧ ∀ (j : Nat) (d e : PyData), j < i → ds[j]? = some d → es[j]? = some e → sam d e = true) ⟨⟨none, rfl⟩, Same.refl _, fun _ _ _ h => absurd h (Nat.not_lt_zero _)⟩ (fun _ _ _ _ _ => trivial) ?_ ?_
      · rintro i v σ H' hv ⟨⟨v2, rfl⟩, s1, ih⟩
        have hi : i < ys.length := by simpa [rangeV] using (List.getElem?_eq_some_iff.mp hv).1
        obtain ⟨_, rfl⟩ := rangeV_get hv
        obtain ⟨x', y', d', e', ex, ey, ed, ee, hs⟩ := sub rx ry (by omega) ld le i (by omega) (by omega)
        repeat walk_at "rd1"
        refine v_ixL (Same.seq s1 sx) (at_of (j := i) (by omega) ex) ?_
        repeat walk_at "rd1"
        refine v_ixL (Same.seq s1 sy) (at_of (j := i) (by omega) ey) ?_
        repeat walk_at "rd1"
        refine hs _ _ _ s1 fun H2 s2 => ?_
        repeat walk_at "rd1"
        refine w_b (fun h2 => ?_) (fun h2 => ?_)
        all_goals (repeat walk_at "rd1")
        · refine qb (q _ (s1.trans s2)) ?_
          show samAll ds es = false
          exact samAll_false ed ee (by simpa using h2)
        · refine ⟨⟨_, rfl⟩, s1.trans s2, fun j d e hj h3 h4 => ?_⟩
          by_cases hji : j = i
          · subst hji
            rw [ed] at h3; rw [ee] at h4
            cases h3; cases h4
            simpa using h2
          · exact ih j d e (by omega) h3 h4
      · rintro σ H' ⟨⟨v2, rfl⟩, s1, ih⟩
        repeat walk_at "rd1"
        refine qb (q _ s1) ?_
        show samAll ds es = true
        refine (samAll_iff (by omega)).mpr fun i d e h3 h4 => ih i d e ?_ h3 h4
        have := (List.getElem?_eq_some_iff.mp h3).1
        simp [rangeV]
        omega
    | _ =>
      all_goals (repeat walk_at "rd1")
      all_goals (try (refine v_ne rfl ?_))
      all_goals (repeat walk_at "rd1")
      all_goals exact q _ (Same.refl _)
  | _ =>
    all_goals cases d
    all_goals (try (cases hx; done))
    all_goals (repeat walk_at "rd1")
    all_goals (try (exact q _ (Same.refl _)))
    all_goals (cases hx; cases hy; refine ⟨_, _, rfl, rfl, rfl, qb (q _ (Same.refl _)) ?_⟩; simp [sam, Bool.beq_eq_decide_eq])
theorem ok_l_same {P : Program} {w : World} {K : PySem.W.Frag} {mg : Str → Option Value} {base : Heap} (T : Wd K mg) : ∀ n : Nat, Cal P w K mg base "_law_same" CX0 (n + 3) (sp_l_same K n)
  | 0 => by
    refine mk_cal T 9 rfl sc_l_same (m__law_same T) (fun _ _ _ _ _ _ us hl => match us, hl with | [_, _], _ => rfl) (fun vs H Q E h => ?_) (fun f cdv A outer s H vs Q E hr h => ?_)
    · obtain ⟨x, y, d, e, rfl, _⟩ := h; rfl
    · obtain ⟨x, y, d, e, rfl, hx, hy, hn, _⟩ := h
      exact absurd hn (Nat.not_lt_zero _)
  | n + 1 => l_same_next T n (ok_l_same T n)

/-! ### drawn readings -/
theorem noLst_strs : ∀ {ks : List Str}, noLstAll (ks.map .str) = true
  | [] => rfl
  | k :: ks => by simp only [List.map_cons, noLstAll, noLst, noLst_strs (ks := ks)]; rfl
theorem rd_noLst {d : RD} (o : d.ok) : noLst d.dat = true := by
  cases d with
  | value v =>
    simp only [RD.dat, noLst, noLstAll, Bool.and_true, Bool.true_and]
    cases v <;> first | rfl | cases o.1
  | absent => rfl
  | keys ks => simp only [RD.dat, noLst, noLstAll, noLst_strs]; rfl
  | error m => rfl
def sp_l_drawn (K : PySem.W.Frag) : Sp := fun vs H Q _ => ∃ (b r : Addr) (ns : List Int) (at_ : Int), vs = [.ref b] ∧ BoxAt K H b r ns at_ ∧
  ∀ (v : V) (d : RD) (H' : Hp) (at2 : Int), Dp K H' v d.dat → d.ok → BoxAt K H' b r ns at2 → SameBut b H H' → Q v H'
theorem ok_l_drawn {P : Program} {w : World} {K : PySem.W.Frag} {mg : Str → Option Value} {base : Heap} (T : Wd K mg) : Cal P w K mg base "_law_drawn" CX0 3 (sp_l_drawn K) := by
  have c_l_draw := ok_l_draw (P := P) (w := w) (base := base) T
  have c_l_value := ok_l_value (P := P) (w := w) (base := base) T
  refine mk_cal T 10 rfl sc_l_drawn (m__law_drawn T) (fun _ _ _ _ _ _ us hl => match us, hl with | [_], _ => rfl) (fun vs H Q E h => ?_) (fun f cdv A outer s H vs Q E hr h => ?_)
  · obtain ⟨b, r, ns, at_, rfl, _⟩ := h; rfl
  obtain ⟨b, r, ns, at_, rfl, hB, q⟩ := h
  refine ⟨_, (pss_cons (ps_set (i := 1) sc_l_drawn.nd rfl (Or.inl rfl) (pe_cal c_l_draw (hr.mono (by decide)) pass0 (pa_cons (pv 0) (pa_cons pe_int pa_nil))))
  (pss_cons (ps_if (pt_cmpR op_lt (pv 1) pe_int (nomark _)) (pss_one (ps_ret (pe_tup (pa_cons pe_str (pa_cons (pe_cal c_l_value (hr.mono (by decide)) pass0 (pa_cons (pv 0) pa_nil)) pa_nil))))) pss_nil)
  (pss_cons (ps_if (pt_cmpR (opEq (K := K) (hu64 hr)) (pv 1) pe_int (nomark _)) (pss_one (ps_ret (pe_tup (pa_cons pe_str pa_nil)))) pss_nil)
  (pss_cons (ps_if (pt_cmpR (opEq (K := K) (hu64 hr)) (pv 1) pe_int (nomark _)) (pss_one (ps_ret (pe_tup (pa_cons pe_str (pa_cons (pe_ix ix_seq (pe_lst (pa_cons (pe_tup pa_nil) (pa_cons (pe_tup (pa_cons pe_str pa_nil)) (pa_cons (pe_tup (pa_cons pe_str pa_nil)) (pa_cons (pe_tup (pa_cons pe_str (pa_cons pe_str pa_nil))) (pa_cons (pe_tup (pa_cons pe_str (pa_cons pe_str pa_nil))) (pa_cons (pe_tup (pa_cons pe_str (pa_cons pe_str (pa_cons pe_str pa_nil)))) pa_nil))))))) (pe_cal c_l_draw (hr.mono (by decide)) pass0 (pa_cons (pv 0) (pa_cons pe_int pa_nil))) (fun _ _ => rfl)) pa_nil))))) pss_nil)
  (pss_one (ps_ret (pe_tup (pa_cons pe_str (pa_cons (pe_ix ix_seq (pe_lst (pa_cons pe_str (pa_cons pe_str (pa_cons pe_str (pa_cons pe_str (pa_cons pe_str (pa_cons pe_str pa_nil))))))) (pe_cal c_l_draw (hr.mono (by decide)) pass0 (pa_cons (pv 0) (pa_cons pe_int pa_nil))) (fun _ _ => rfl)) pa_nil))))))))), ?_⟩
  repeat walk_at "rd1"
  refine ⟨b, r, ns, at_, 6, rfl, hB, by decide, fun k h0 h1 hB2 => ?_⟩
  have S2 : SameBut b H (upd H b (.lst [.ref r, .int (at_ + 1)])) := .upd
  generalize upd H b (.lst [.ref r, .int (at_ + 1)]) = H2 at hB2 S2
  repeat walk_at "rd1"
  refine w_b (fun h2 => ?_) (fun h2 => ?_)
  all_goals (repeat walk_at "rd1")
  · refine ⟨b, r, ns, at_ + 1, rfl, hB2, fun v H3 gv hB3 s3 => ?_⟩
    repeat walk_at "rd1"
    refine ⟨by show 2 ≤ sizeLine; decide, fun t HA AA => ?_⟩
    obtain ⟨ht, rfl⟩ := AA
    refine q (.ref t) (.value v) _ _ (.tup (SqT.of upd_same) (.cons (.str _) (.cons (dp_flat gv.1) .nil))) ⟨gv.1, gv.2.2⟩ (hB3.same (same_upd ht)) ((S2.trans s3).trans (.of (same_upd ht)))
  refine w_b (fun h3 => ?_) (fun h3 => ?_)
  all_goals (repeat walk_at "rd1")
  · refine ⟨by show 1 ≤ sizeLine; decide, fun t HA AA => ?_⟩
    obtain ⟨ht, rfl⟩ := AA
    exact q (.ref t) .absent _ _ (.tup (SqT.of upd_same) (.cons (.str _) .nil)) trivial (hB2.same (same_upd ht)) (S2.trans (.of (same_upd ht)))
  refine w_b (fun h4 => ?_) (fun h4 => ?_)
  all_goals (repeat walk_at "rd1")
  · refine al (by simp) fun t1 G1 A1 => ?_
    repeat walk_at "rd1"
    refine al (by simp) fun t2 G2 A2 => ?_
    repeat walk_at "rd1"
    refine al (by simp) fun t3 G3 A3 => ?_
    repeat walk_at "rd1"
    refine al (by simp) fun t4 G4 A4 => ?_
    repeat walk_at "rd1"
    refine al (by simp) fun t5 G5 A5 => ?_
    repeat walk_at "rd1"
    refine al (by simp) fun t6 G6 A6 => ?_
    repeat walk_at "rd1"
    refine al (by simp) fun L G7 A7 => ?_
    have d1 := dp_same (A2.same.trans (A3.same.trans (A4.same.trans (A5.same.trans (A6.same.trans A7.same))))) _ _ (A1.dpT (dpAll_strs (K := K) (ks := [])))
    have d2 := dp_same (A3.same.trans (A4.same.trans (A5.same.trans (A6.same.trans A7.same)))) _ _ (A2.dpT (dpAll_strs (K := K) (ks := ["a"])))
    have d3 := dp_same (A4.same.trans (A5.same.trans (A6.same.trans A7.same))) _ _ (A3.dpT (dpAll_strs (K := K) (ks := ["ab"])))
    have d4 := dp_same (A5.same.trans (A6.same.trans A7.same)) _ _ (A4.dpT (dpAll_strs (K := K) (ks := ["a", "b"])))
    have d5 := dp_same (A6.same.trans A7.same) _ _ (A5.dpT (dpAll_strs (K := K) (ks := ["b", "a"])))
    have d6 := dp_same A7.same _ _ (A6.dpT (dpAll_strs (K := K) (ks := ["b", "a", "ab"])))
    have s7 : Same H2 G7 := A1.same.trans (A2.same.trans (A3.same.trans (A4.same.trans (A5.same.trans (A6.same.trans A7.same)))))
    have eL := A7.at_
    have menu : ∀ v ∈ [V.ref t1, .ref t2, .ref t3, .ref t4, .ref t5, .ref t6], ∃ ks : List Str, Dp K G7 v (.tuple (ks.map .str)) ∧ ∀ k ∈ ks, PyData.strOk k = true := by
      intro v hv
      simp only [List.mem_cons, List.not_mem_nil, or_false] at hv
      rcases hv with rfl | rfl | rfl | rfl | rfl | rfl
      · exact ⟨_, d1, by decide +kernel⟩
      · exact ⟨_, d2, by decide +kernel⟩
      · exact ⟨_, d3, by decide +kernel⟩
      · exact ⟨_, d4, by decide +kernel⟩
      · exact ⟨_, d5, by decide +kernel⟩
      · exact ⟨_, d6, by decide +kernel⟩
    repeat walk_at "rd1"
    refine ⟨b, r, ns, at_ + 1, 6, rfl, hB2.same s7, by decide, fun j j0 j1 hB8 => ?_⟩
    have S8 : SameBut b G7 (upd G7 b (.lst [.ref r, .int (at_ + 1 + 1)])) := .upd
    have eL8 := S8 _ _ eL (by rintro rfl; rw [(hB2.same s7).bx] at eL; cases eL)
    generalize upd G7 b (.lst [.ref r, .int (at_ + 1 + 1)]) = G8 at hB8 S8 eL8
    obtain ⟨m, rfl⟩ : ∃ m : Nat, j = (m : Int) := ⟨j.toNat, by omega⟩
    have hm : m < [V.ref t1, .ref t2, .ref t3, .ref t4, .ref t5, .ref t6].length := by show m < 6; omega
    refine v_ixL (SqL.of eL8) (at_of rfl (List.getElem?_eq_getElem hm)) ?_
    obtain ⟨ks, dk, ok⟩ := menu _ (List.getElem_mem hm)
    have dk8 := dp_but S8 (hB2.same s7).bx _ _ (by simp only [noLst, noLst_strs]) dk
    repeat walk_at "rd1"
    refine al (by simp) fun t G9 A9 => ?_
    exact q (.ref t) (.keys ks) _ _ (A9.dpT (.cons (.str _) (.cons dk8 .nil))) ok (hB8.same A9.same) (A9.but ((S2.trans (.of s7)).trans S8))
  · refine al (by simp) fun L G7 A7 => ?_
    have eL := A7.at_
    repeat walk_at "rd1"
    refine ⟨b, r, ns, at_ + 1, 6, rfl, hB2.same A7.same, by decide, fun j j0 j1 hB8 => ?_⟩
    have S8 : SameBut b G7 (upd G7 b (.lst [.ref r, .int (at_ + 1 + 1)])) := .upd
    have eL8 := S8 _ _ eL (by rintro rfl; rw [(hB2.same A7.same).bx] at eL; cases eL)
    generalize upd G7 b (.lst [.ref r, .int (at_ + 1 + 1)]) = G8 at hB8 S8 eL8
    obtain ⟨m, rfl⟩ : ∃ m : Nat, j = (m : Int) := ⟨j.toNat, by omega⟩
    have hm : m < [V.str "disposed", .str "a", .str "1", .str "none", .str "", .str "made later"].length := by show m < 6; omega
    refine v_ixL (SqL.of eL8) (at_of rfl (List.getElem?_eq_getElem hm)) ?_
    obtain ⟨z, ez, ok⟩ : ∃ z : Str, [V.str "disposed", .str "a", .str "1", .str "none", .str "", .str "made later"][m] = .str z ∧ PyData.strOk z = true := by
      have hv := List.getElem_mem hm
      simp only [List.mem_cons, List.not_mem_nil, or_false] at hv
      rcases hv with h | h | h | h | h | h
      all_goals exact ⟨_, h, by decide +kernel⟩
    rw [ez]
    repeat walk_at "rd1"
    refine al (by simp) fun t G9 A9 => ?_
    exact q (.ref t) (.error z) _ _ (A9.dpT (.cons (.str _) (.cons (.str _) .nil))) ok (hB8.same A9.same) (A9.but ((S2.trans (.of A7.same)).trans S8))

def sp_law (K : PySem.W.Frag) : Sp := fun vs H Q _ => ∃ (a : Addr) (ns : List Int), vs = [.ref a] ∧ SqL K H a (ns.map V.int) ∧ ns.length ≤ 63 ∧ ∀ H', Q (.bl true) H'
theorem rd_depth {d : RD} : d.dat.depth < 3 := by
  cases d with
  | value v =>
    have h : (datV v).depth = 0 := by cases v <;> rfl
    simp only [RD.dat, PyData.depth, PyData.depthAll, h]; decide
  | absent => decide
  | keys ks => simp only [RD.dat, PyData.depth, PyData.depthAll, depth_strs]; decide
  | error m => simp only [RD.dat, PyData.depth, PyData.depthAll]; decide
theorem rd_canLay {d : RD} (o : d.ok) : d.dat.canLay0 = true := by
  cases d with
  | value v =>
    simp only [RD.dat, PyData.canLay0, PyData.canLayAll0, Bool.and_true, Bool.and_eq_true]
    exact ⟨by decide +kernel, o.2⟩
  | absent => decide +kernel
  | keys ks =>
    simp only [RD.dat, PyData.canLay0, PyData.canLayAll0, Bool.and_true, Bool.and_eq_true]
    exact ⟨by decide +kernel, canLay_strs o⟩
  | error m =>
    simp only [RD.dat, PyData.canLay0, PyData.canLayAll0, Bool.and_true, Bool.and_eq_true]
    exact ⟨by decide +kernel, o⟩
theorem ok_law {P : Program} {w : World} {K : PySem.W.Frag} {mg : Str → Option Value} {base : Heap} (T : Wd K mg) {fL : Addr} {fdL : FuncData} (F : FunD K "law" "law" (defArgs s_law) (defBody s_law) (defScope s_law) [] [] fL fdL) : FnOk P w K mg base CX0 7 fL fdL ["_law_script"] (sp_law K) := by
  have c_l_row := ok_l_row (P := P) (w := w) (base := base) T
  have c_l_drawn := ok_l_drawn (P := P) (w := w) (base := base) T
  have c_same := ok_same (P := P) (w := w) (base := base) T
  refine mk_fn F sc_law (fun vs H Q E h => ?_) (fun f cdv A outer s H vs Q E hr h => ?_)
  · obtain ⟨a, ns, rfl, _⟩ := h; rfl
  have c_l_same := ok_l_same (P := P) (w := w) (base := base) T 3
  obtain ⟨a, ns, rfl, hS, _, q⟩ := h
  refine ⟨_, (pss_cons (ps_set (i := 1) sc_law.nd rfl (Or.inr rfl) (pe_lst (pa_cons (pe_cal c_l_row (hr.mono (by decide)) pass0 (pa_cons (pv 0) (pa_cons pe_int (pa_cons pe_int pa_nil)))) (pa_cons pe_int pa_nil))))
  (pss_cons (ps_setLc (i := 2) (own := [("_law_k", 3)]) (g := gName 3) rfl sc_law.nd rfl rfl (sw_true rfl rfl rfl (by decide +kernel)) (pi_range1 (by rfl) (m_range T) (pa_cons pe_int pa_nil)) (blkOk_by (own := [("_law_k", 3)]) (N := N_law) (sc := defScope s_law) (by decide +kernel)) (fun _ _ _ _ _ => pg_name (i := 3) sc_law.nd rfl (Or.inl rfl)) (fun _ _ _ _ _ => pts_nil) (fun _ _ _ _ _ => (pe_cal c_l_drawn (hr.mono (by decide)) pass0 (pa_cons (pv 1) pa_nil))))
  (pss_cons (ps_for PassesOwn.never rfl (pi_list (pv 2)) (pg_name (i := 4) sc_law.nd rfl (Or.inl rfl))
   (pss_one (ps_for PassesOwn.never rfl (pi_list (pv 2)) (pg_name (i := 5) sc_law.nd rfl (Or.inl rfl))
   (pss_cons (ps_set (i := 6) sc_law.nd rfl (Or.inl rfl) (pe_cal c_same (hr.mono (by decide)) pass0 (pa_cons (pv 4) (pa_cons (pv 5) pa_nil))))
  (pss_one (ps_if (pw_or (pt_not (pt_val (pe_callB (call_isiK (K := K) .bl) (by rfl) (m_isinstance T) (by decide +kernel) (pa_cons (pv 6) (pa_cons (pe_tyB (n := Kd.nm .bl) (by rfl) (m_bool T) (by decide +kernel)) pa_nil))))) (pw_or1 (pt_cmpR (opNe (K := K) (hu64 hr)) (pv 6) (pe_cal c_l_same (hr.mono (by decide)) pass0 (pa_cons (pv 4) (pa_cons (pv 5) pa_nil))) (nomark _)))).pt (pss_one (ps_ret pe_bl)) pss_nil))))))
  (pss_one (ps_ret pe_bl))))), ?_⟩
  repeat walk_at "rd1"
  refine ⟨a, ns, 0, 4, rfl, hS, by decide, by decide, by decide, fun r H1 row hr1 s1 e1 l1 => ?_⟩
  repeat walk_at "rd1"
  refine al (by simp) fun b H2 A2 => ?_
  have hb := A2.nw
  have nrb : r ≠ b := ne_of_none e1 hb
  have B0 : BoxAt K H2 b r row 0 := ⟨A2.at_, SqL.of (A2.same _ _ e1), nrb, Int.le_refl 0⟩
  repeat walk_at "rd1"
  refine ⟨12, rfl, by decide, by decide, fun D hD => ?_⟩
  have nDb : D ≠ b := (ne_of_none B0.bx hD).symm
  have S0 : SameBut b H1 H2 := .of A2.same
  have hD1 : H1 D = none := S0.none nDb hD
  have box : ∀ {H' : Hp} {at_ : Int}, SameBut b H1 H' → H' b = some (.lst [.ref r, .int at_]) → 0 ≤ at_ → BoxAt K H' b r row at_ := fun s h1 h2 => ⟨h1, SqL.of (s _ _ e1 nrb), nrb, h2⟩
  refine lc_it (it_range (lo := 0) (n := 12)) (fun i H' => ∃ (at_ : Int) (vs : List V), SameBut b H1 H' ∧ H' b = some (.lst [.ref r, .int at_]) ∧ 0 ≤ at_ ∧ H' D = some (.lst vs) ∧ vs.length = i ∧ ∀ v ∈ vs, ∃ d : RD, Dp K H' v d.dat ∧ d.ok)
    ⟨0, [], S0.up hD1, (same_upd hD) _ _ B0.bx, Int.le_refl 0, upd_same, rfl, fun _ h => nomatch h⟩ (fun _ _ _ _ => trivial) ?_ ?_
  · rintro i x H3 hx ⟨at_, vs, S3, b3, n3, e3, l3, g3⟩
    have hi : i < 12 := (rangeV_get hx).1
    refine ⟨rfl, ?_⟩
    repeat walk_at "rd1"
    refine ⟨b, r, row, at_, rfl, box S3 b3 n3, fun v d H4 at4 dv od B4 s4 => ?_⟩
    have e4 := s4 _ _ e3 nDb
    refine ⟨vs, e4, line1000' (by omega), at4, vs ++ [v], (S3.trans s4).up hD1, ?_, B4.nn, upd_same, by simp [l3], ?_⟩
    · rw [upd_ne nDb.symm]; exact B4.bx
    · intro u hu'
      rcases List.mem_append.mp hu' with h | h
      · obtain ⟨d2, dp2, o2⟩ := g3 u h
        exact ⟨d2, dp_but .upd e4 _ _ (rd_noLst o2) (dp_but s4 b3 _ _ (rd_noLst o2) dp2), o2⟩
      · simp at h; subst h
        exact ⟨d, dp_but .upd e4 _ _ (rd_noLst od) dv, od⟩
  · rintro H3 ⟨at_, vs, S3, b3, n3, e3, l3, g3⟩
    repeat walk_at "rd1"
    refine w_exR (SqL.of e3) ?_
    refine for_it (it_list (a := D) (xs := vs)) (fun i σ H' => ∃ v3 v4 v5 v6 : Option V, σ = [some (.ref a), some (.ref b), some (.ref D), v3, v4, v5, v6] ∧ Same H3 H') ⟨none, none, none, none, rfl, Same.refl _⟩ ?_ ?_ ?_
    · rintro j σ H' _ ⟨v3, v4, v5, v6, rfl, s6⟩
      exact SqL.of (s6 _ _ e3)
    · rintro i x σ H6 hx ⟨v3, v4, v5, v6, rfl, s6⟩
      obtain ⟨d, dx, od⟩ := g3 x (List.mem_of_getElem? hx)
      repeat walk_at "rd1"
      refine w_exR (SqL.of (s6 _ _ e3)) ?_
      refine for_it (it_list (a := D) (xs := vs)) (fun j σ H' => ∃ v5 v6 : Option V, σ = [some (.ref a), some (.ref b), some (.ref D), v3, some x, v5, v6] ∧ Same H3 H') ⟨v5, v6, rfl, s6⟩ ?_ ?_ ?_
      · rintro j σ H' _ ⟨v5, v6, rfl, s6⟩
        exact SqL.of (s6 _ _ e3)
      · rintro j y σ H7 hy ⟨v5, v6, rfl, s7⟩
        obtain ⟨e, dy, oe⟩ := g3 y (List.mem_of_getElem? hy)
        repeat walk_at "rd1"
        refine ⟨x, y, d, e, rfl, dp_same s7 _ _ dx, dp_same s7 _ _ dy, od, oe, ?_⟩
        repeat walk_at "rd1"
        refine ⟨x, y, d.dat, e.dat, rfl, dp_same s7 _ _ dx, dp_same s7 _ _ dy, rd_depth, rd_canLay od, rd_canLay oe, fun H8 s8 => ?_⟩
        repeat walk_at "rd1"
        rw [decide_eq_true rfl]
        repeat walk_at "rd1"
        exact ⟨_, _, rfl, s7.trans s8⟩
      · rintro σ H' ⟨v5, v6, rfl, s6⟩
        exact ⟨_, _, _, _, rfl, s6⟩
    · rintro σ H' ⟨v3, v4, v5, v6, rfl, s6⟩
      repeat walk_at "rd1"
      exact q _


/-! ### the head: facts by names, the run -/
abbrev RR : PySem.W.OpenRow := PySem.W.OpenLaw.row PySem.Challenge.rw_ripplewell_k02_equal_readings
abbrev hk : PySem.W.Hook := He.hookD 5 fa fn
def ob (s : PySem.W.SharedT) : He.AlD := He.obsDG 5 fa fn (HandSHeadRun.getT s)
theorem ob_eq (s : PySem.W.SharedT) : ob s = hk.obs s.abs := He.obsDG_eq (HandSHeadRun.getT_eq s)
def loose : List Str := (["_sort", "equal", "same", "_law_cell", "_law_row", "_law_draw", "_law_value", "_law_is_bool", "_law_is_number", "_law_equal", "_law_text", "_law_empty", "_law_same", "_law_drawn"] : List Str)
theorem run (w : World) : HandSHeadRun.RunEq RR (PySem.W.view RR.prog [17]) hk ob 1180 loose w := by
  intro os
  kernel_rfl
theorem facts {P : Program} {w : World} {K : PySem.W.Frag} {h : Heap} {mg : Str → Option Value} {f : Addr} (X : K.In h) (G : h.Ns mainGlobals mg) (hfa : mg ("law" : Str) = some (.ref f)) (c : He.SaysD fa fn K) :
    ∃ fd : FuncData, (∀ (s : Shared) (v : Value), BindsTo s fd ⟨[v], []⟩ [("_law_script", v)]) ∧ ∀ base : Heap, K.In base → base.Ns mainGlobals mg → FnOk P w K mg base CX0 7 f fd ["_law_script"] (sp_law K) := by
  have T : Wd K mg := ⟨h, X, G, c⟩
  obtain ⟨fd, F⟩ := c.def_ 11 (d := dg "law" s_law) rfl
  have e := hfa.symm.trans (m_law T)
  cases e
  have b := FunD.bindsA (ps := ["_law_script"]) F fun _ _ _ _ _ _ us hl => match us, hl with | [_], _ => rfl
  refine ⟨fd, fun s v => b s [v] rfl, fun base _ _ => ?_⟩
  exact ok_law T F
theorem law_holds : PySem.Challenge.rw_ripplewell_k02_equal_readings.Holds := by
  w_on; o_law
  refine HandSHeadRun.head_any (r := PySem.W.OpenLaw.row PySem.Challenge.rw_ripplewell_k02_equal_readings) (q := PySem.W.view (PySem.W.OpenLaw.row PySem.Challenge.rw_ripplewell_k02_equal_readings).prog [17]) (H := hk) (ob := ob) (M := 1180) (loose := loose) (d := HandSHeadRun.topDef (PySem.W.OpenLaw.row PySem.Challenge.rw_ripplewell_k02_equal_readings).prog 17) (kwd := []) ob_eq
    (by kernel_rfl) (fun s => by kernel_rfl) run (by kernel_rfl) (by kernel_rfl) (by kernel_rfl) (by rfl) (by first | assumption | decide +kernel) (by decide +kernel) ⟨rfl, rfl, rfl, rfl, rfl, by decide +kernel⟩ ?hw ?hc
  case hw => w_witness2
  case hc =>
    refine L2.walk_ofE (l := PySem.Challenge.rw_ripplewell_k02_equal_readings) (n := 63) (k := 7) (x := "_law_script") (CX := L2.CX0) rfl (by decide) (by kernel_rfl) ⟨rfl, by decide, by decide⟩ ?F (fun _ _ _ _ z => z)
    intro w mg fa h Y G hmg0
    obtain ⟨K, KX, c⟩ := Y
    have hmg : mg ("law" : PySem.Str) = some (.ref fa) := by
      have e : (HandSHeadRun.topDef (PySem.W.OpenLaw.row PySem.Challenge.rw_ripplewell_k02_equal_readings).prog 17).name = ("law" : PySem.Str) := by kernel_rfl
      rw [← e]
      exact hmg0
    obtain ⟨fd, hb, hF⟩ := facts (P := (PySem.Challenge.rw_ripplewell_k02_equal_readings).prog) (w := w) KX G hmg c
    exact ⟨K, fd, sp_law K, KX, hb, fun H a ns hl _ hS => ⟨a, ns, rfl, hS, hl, fun _ => rfl⟩, hF⟩


end Rp
theorem PySem.Challenge.cw_ripplewell_k02_equal_readings_holds : PySem.Challenge.rw_ripplewell_k02_equal_readings.Holds := by
  exact Rp.law_holds
#print axioms PySem.Challenge.cw_ripplewell_k02_equal_readings_holds
