import PyProof.Rows.All
import Wide.All
import OpenK.AllK
import Wide.FinOn
import HandS.ForMost
import HandS.IsInst
import HandS.Zip
import HandS.Wide
import HandS.Gcd
import HandS.TupMul
import HandS.TupAny
import HandS.Style
import HandS.TupLe
import HandS.Conv
import HandS.Walk
import HandS.Defaults
import HandS.Evl
import KE.GoesEnum
import KE.DatumOrd
import PySem.Challenge.RW_slantpanes_k62_whole_any_stripes_meet_or
section
set_option Elab.async false
set_option linter.all false
set_option maxRecDepth 100000
set_option maxHeartbeats 4000000
/-! A relational layer over HandS: at given slots and heap an expression evaluates to a value of which P holds, the heap grows. -/
namespace K62
open PySem PySem.Spec PyProof.Rows L2

/-! ### heaps -/
abbrev UA := Option (Addr × Addr)
/-- the law's urn: a dict at u, its list at c -/
def Urn (u c : Addr) (H : Hp) : Prop := ∃ (ns : List Int) (a t : Int),
  H u = some (.dK [(Sum.inr "cells", .ref c), (Sum.inr "mixed", .int a), (Sum.inr "turn", .int t)]) ∧ H c = some (.lst (ns.map V.int)) ∧ ns.length ≤ 63 ∧ 0 ≤ a ∧ a < 2147483563
def Jn : UA → Hp → Prop
  | none, _ => True
  | some (u, c), H => Urn u c H
def Mv : UA → Addr → Prop
  | none, _ => False
  | some (u, c), a => a = u ∨ a = c
theorem Jn.got {U : UA} {H : Hp} (j : Jn U H) {a : Addr} (m : Mv U a) : ∃ o, H a = some o := by
  cases U with
  | none => exact m.elim
  | some p =>
    obtain ⟨u, c⟩ := p
    obtain ⟨ns, x, t, h1, h2, _⟩ := j
    rcases m with rfl | rfl
    · exact ⟨_, h1⟩
    · exact ⟨_, h2⟩
theorem Jn.notTup {U : UA} {H : Hp} (j : Jn U H) {a : Addr} (m : Mv U a) {xs : List V} : H a ≠ some (.tup xs) := by
  cases U with
  | none => exact m.elim
  | some p =>
    obtain ⟨u, c⟩ := p
    obtain ⟨ns, x, t, h1, h2, _⟩ := j
    rcases m with rfl | rfl
    · rw [h1]; exact fun z => nomatch z
    · rw [h2]; exact fun z => nomatch z
theorem Jn.congr {U : UA} {H H' : Hp} (j : Jn U H) (h : ∀ a, Mv U a → H' a = H a) : Jn U H' := by
  cases U with
  | none => trivial
  | some p =>
    obtain ⟨u, c⟩ := p
    obtain ⟨ns, x, t, h1, h2, r⟩ := j
    exact ⟨ns, x, t, (h u (.inl rfl)).trans h1, (h c (.inr rfl)).trans h2, r⟩
/-- tuples stay -/
def Tk (H H' : Hp) : Prop := ∀ a xs, H a = some (.tup xs) → H' a = some (.tup xs)
theorem Tk.refl (H : Hp) : Tk H H := fun _ _ h => h
theorem Tk.trans {H H1 H2 : Hp} (a : Tk H H1) (b : Tk H1 H2) : Tk H H2 := fun x o h => b x o (a x o h)
structure Le (U : UA) (H H' : Hp) : Prop where
  keep : ∀ a o, ¬ Mv U a → H a = some o → H' a = some o
  tup : Tk H H'
  jn : Jn U H → Jn U H'
theorem Le.refl {U : UA} (H : Hp) : Le U H H := ⟨fun _ _ _ h => h, Tk.refl _, fun h => h⟩
theorem Le.trans {U : UA} {H H1 H2 : Hp} (a : Le U H H1) (b : Le U H1 H2) : Le U H H2 := ⟨fun x o n h => b.keep x o n (a.keep x o n h), a.tup.trans b.tup, fun h => b.jn (a.jn h)⟩
theorem Le.fresh {U : UA} {H H' : Hp} (e : Le U H H') (j : Jn U H) {p : Addr} (h : H' p = none) : H p = none := by
  by_cases m : Mv U p
  · obtain ⟨o, ho⟩ := (e.jn j).got m
    rw [h] at ho; cases ho
  · cases q : H p with
    | none => rfl
    | some o => rw [e.keep p o m q] at h; cases h
theorem Le.mut {U : UA} {H H1 : Hp} (e : Le U H H1) (j : Jn U H) {p : Addr} {o : HO} (h : H p = none) : Le U H (upd H1 p o) := by
  refine ⟨fun a u n ha => ?_, fun a xs ha => ?_, fun j' => (e.jn j').congr fun a m => ?_⟩
  · rw [upd_ne (ne_of_none ha h)]; exact e.keep a u n ha
  · rw [upd_ne (ne_of_none ha h)]; exact e.tup a xs ha
  · obtain ⟨u, hu⟩ := j'.got m
    rw [upd_ne (ne_of_none hu h)]
theorem Le.new {U : UA} {H : Hp} (j : Jn U H) {p : Addr} {o : HO} (h : H p = none) : Le U H (upd H p o) := (Le.refl H).mut j h
theorem Le.nmv {U : UA} {H : Hp} (j : Jn U H) {p : Addr} (h : H p = none) : ¬ Mv U p := fun m => by
  obtain ⟨o, ho⟩ := j.got m
  rw [h] at ho; cases ho
/-- a pure def's growth is a growth -/
theorem Le.of {U : UA} {H H' : Hp} (e : Le none H H') : Le U H H' :=
  ⟨fun a o _ h => e.keep a o (fun z => z) h, e.tup, fun j => j.congr fun a m => by
    obtain ⟨o, ho⟩ := j.got m
    rw [ho]; exact e.keep a o (fun z => z) ho⟩
theorem Le.of_same {U : UA} {H H' : Hp} (e : Same H H') : Le U H H' := Le.of ⟨fun a o _ h => e a o h, fun a xs h => e a _ h, fun _ => trivial⟩

/-! ### predicates of values -/
abbrev VP := V → Hp → Prop
class Fz (P : VP) : Prop where
  mv : ∀ v H H', Tk H H' → P v H → P v H'
theorem Fz.le {P : VP} [Fz P] {U : UA} {v : V} {H H' : Hp} (e : Le U H H') (h : P v H) : P v H' := Fz.mv v H H' e.tup h
def Is (x : V) : VP := fun v _ => v = x
instance {x : V} : Fz (Is x) := ⟨fun _ _ _ _ h => h⟩
def In (φ : Int → Prop) : VP := fun v _ => ∃ i, v = .int i ∧ φ i
instance {φ : Int → Prop} : Fz (In φ) := ⟨fun _ _ _ _ h => h⟩
/-- a tuple of ints -/
def TpI (l : List Int) : VP := fun v H => ∃ p, v = .ref p ∧ H p = some (.tup (l.map V.int))
instance {l : List Int} : Fz (TpI l) := ⟨fun _ _ _ e ⟨p, h1, h2⟩ => ⟨p, h1, e p _ h2⟩⟩
instance {P Q : VP} [Fz P] [Fz Q] : Fz (fun v H => P v H ∧ Q v H) := ⟨fun v H H' e h => ⟨Fz.mv v H H' e h.1, Fz.mv v H H' e h.2⟩⟩
/-- a new list, a new tuple -/
def NL (U : UA) (H0 : Hp) (xs : List V) : VP := fun v H => ∃ p, v = .ref p ∧ H0 p = none ∧ ¬ Mv U p ∧ H p = some (.lst xs)
def NT (xs : List V) : VP := fun v H => ∃ p, v = .ref p ∧ H p = some (.tup xs)
instance {xs : List V} : Fz (NT xs) := ⟨fun _ _ _ e ⟨p, h1, h2⟩ => ⟨p, h1, e p _ h2⟩⟩

/-! ### the judgements -/
def tR (U : UA) (σ : L2.St) (H : Hp) (P : VP) : TE := fun σ' H1 Q => σ' = σ ∧ Le U H H1 ∧ Jn U H1 ∧ ∀ v H2, Le U H1 H2 → Jn U H2 → P v H2 → Q v H2
def tRT (U : UA) (σ : L2.St) (H : Hp) (φ : Bool → Prop) : TT := fun σ' H1 Q => σ' = σ ∧ Le U H H1 ∧ Jn U H1 ∧ ∀ b H2, Le U H1 H2 → Jn U H2 → φ b → Q b H2
def tRA (U : UA) (σ : L2.St) (H : Hp) (P : List V → Hp → Prop) : TA := fun σ' H1 Q => σ' = σ ∧ Le U H H1 ∧ Jn U H1 ∧ ∀ vs H2, Le U H1 H2 → Jn U H2 → P vs H2 → Q vs H2
def R (X : Cx) (U : UA) (e : Expr) (σ : L2.St) (H : Hp) (P : VP) : Prop := PE X e (tR U σ H P)
def RT (X : Cx) (U : UA) (e : Expr) (σ : L2.St) (H : Hp) (φ : Bool → Prop) : Prop := PT X e (tRT U σ H φ)
def RW (X : Cx) (U : UA) (e : Expr) (σ : L2.St) (H : Hp) (φ : Bool → Prop) : Prop := PW X e (tRT U σ H φ)
def RA (X : Cx) (U : UA) (es : List Expr) (σ : L2.St) (H : Hp) (P : List V → Hp → Prop) : Prop := PA X es (tRA U σ H P)
def S (X : Cx) (body : List Stmt) (σ : L2.St) (H : Hp) (D : Ends) : Prop := PSs X body (fun D' σ' H' => D' = D ∧ σ' = σ ∧ H' = H)

section
variable {X : Cx} {U : UA} {σ : L2.St} {H : Hp} {e a b c : Expr} {es : List Expr} {P Pa Pb : VP} {pos : Pos}

theorem PE.weak {t t' : TE} (h : PE X e t) (w : ∀ σ H Q, t' σ H Q → t σ H Q) : PE X e t' := ⟨fun pins s σ H Q I q => h.run pins s σ H Q I (w σ H Q q)⟩
theorem PT.weak {t t' : TT} (h : PT X e t) (w : ∀ σ H Q, t' σ H Q → t σ H Q) : PT X e t' := ⟨fun pins s σ H Q I q => h.run pins s σ H Q I (w σ H Q q)⟩
theorem PA.weak {t t' : TA} (h : PA X es t) (w : ∀ σ H Q, t' σ H Q → t σ H Q) : PA X es t' := ⟨fun pos pins s σ H Q I q => h.run pos pins s σ H Q I (w σ H Q q)⟩
/-- a reading that does what is asked -/
theorem R.of {t : TE} (h : PE X e t) (w : ∀ H1, Le U H H1 → Jn U H1 → ∀ Q : VK, (∀ v H2, Le U H1 H2 → Jn U H2 → P v H2 → Q v H2) → t σ H1 Q) : R X U e σ H P :=
  PE.weak h fun _ H1 Q ⟨e1, l, j, q⟩ => by subst e1; exact w H1 l j Q q
theorem RT.of {t : TT} {φ : Bool → Prop} (h : PT X e t) (w : ∀ H1, Le U H H1 → Jn U H1 → ∀ Q : Bool → Hp → Prop, (∀ v H2, Le U H1 H2 → Jn U H2 → φ v → Q v H2) → t σ H1 Q) : RT X U e σ H φ :=
  PT.weak h fun _ H1 Q ⟨e1, l, j, q⟩ => by subst e1; exact w H1 l j Q q
theorem RA.of {t : TA} {P : List V → Hp → Prop} (h : PA X es t) (w : ∀ H1, Le U H H1 → Jn U H1 → ∀ Q : List V → Hp → Prop, (∀ v H2, Le U H1 H2 → Jn U H2 → P v H2 → Q v H2) → t σ H1 Q) : RA X U es σ H P :=
  PA.weak h fun _ H1 Q ⟨e1, l, j, q⟩ => by subst e1; exact w H1 l j Q q
theorem R.imp (h : R X U e σ H P) {P' : VP} (w : ∀ v H1, Le U H H1 → P v H1 → P' v H1) : R X U e σ H P' :=
  R.of h fun H1 l j Q q => ⟨rfl, l, j, fun v H2 l2 j2 p => q v H2 l2 j2 (w v H2 (l.trans l2) p)⟩
theorem R.mono {H' : Hp} (h : R X U e σ H P) (l : Le U H H') : R X U e σ H' P := R.of h fun H1 l1 j Q q => ⟨rfl, l.trans l1, j, q⟩
theorem RT.mono {H' : Hp} {φ : Bool → Prop} (h : RT X U e σ H φ) (l : Le U H H') : RT X U e σ H' φ := RT.of h fun H1 l1 j Q q => ⟨rfl, l.trans l1, j, q⟩
theorem RT.imp {φ φ' : Bool → Prop} (h : RT X U e σ H φ) (w : ∀ b, φ b → φ' b) : RT X U e σ H φ' := RT.of h fun H1 l j Q q => ⟨rfl, l, j, fun v H2 l2 j2 p => q v H2 l2 j2 (w v p)⟩
theorem R.cast {v w : V} (h : R X U e σ H (Is v)) (q : v = w) : R X U e σ H (Is w) := q ▸ h

/-! names, constants -/
theorem R.var {i : Nat} {x : Str} {v : V} (hN : X.N[i]? = some x) (hv : Vis X.env.scope x) (hσ : σ[i]? = some (some v)) (hd : (x == ("__debug__" : Str)) = false := by decide) (hcd : (x == ("__classdict__" : Str)) = false := by decide) : R X U (.Name x pos) σ H (Is v) :=
  R.of (pe_var hN hv hd hcd) fun H1 l j Q q => ⟨v, hσ, q v H1 (Le.refl _) j rfl⟩
theorem R.int {i : Int} {k} : R X U (.Constant (.int i) k pos) σ H (Is (.int i)) := R.of pe_int fun H1 l j Q q => q _ H1 (Le.refl _) j rfl
theorem R.bl {i : Bool} {k} : R X U (.Constant (.bool i) k pos) σ H (Is (.bl i)) := R.of pe_bl fun H1 l j Q q => q _ H1 (Le.refl _) j rfl
theorem R.non {k} : R X U (.Constant .none k pos) σ H (Is .non) := R.of pe_non fun H1 l j Q q => q _ H1 (Le.refl _) j rfl
theorem R.str {x : Str} {k} : R X U (.Constant (.str x) k pos) σ H (Is (.str x)) := R.of pe_str fun H1 l j Q q => q _ H1 (Le.refl _) j rfl
theorem R.glob {x : Str} {u : Value} {v : V} (hg : Gl X x) (hm : X.mg x = some u) (r : RelV v u) (hd : (x == ("__debug__" : Str)) = false := by decide) : R X U (.Name x pos) σ H (Is v) :=
  R.of (pe_glob hg hm r hd) fun H1 l j Q q => q _ H1 (Le.refl _) j rfl
theorem R.bltn {x : Str} {u : Value} {v : V} (hg : Gl X x) (hm : X.mg x = none) (hv : bootBuiltins x = some u) (r : RelV v u) (hn : x ≠ "__name__" := by decide) (hd : (x == ("__debug__" : Str)) = false := by decide) : R X U (.Name x pos) σ H (Is v) :=
  R.of (pe_bltn hg hm hv r hn hd) fun H1 l j Q q => q _ H1 (Le.refl _) j rfl

/-! operators -/
/-- what an operation by values does -/
abbrev K1 (U : UA) (P : VP) (H1 : Hp) (f : VK → Prop) : Prop := ∀ Q : VK, (∀ v H2, Le U H1 H2 → Jn U H2 → P v H2 → Q v H2) → f Q
theorem R.op {f : Operator} {r : R2} (ho : OpR X (binaryOp f) r) [Fz Pa] (ha : R X U a σ H Pa) (hb : R X U b σ H Pb)
    (hr : ∀ x y H1, Le U H H1 → Jn U H1 → Pa x H1 → Pb y H1 → K1 U P H1 (r x y H1)) : R X U (.BinOp a f b pos) σ H P :=
  R.of (pe_op ho ha hb) fun H1 l j Q q => ⟨rfl, l, j, fun x H2 l2 j2 px => ⟨rfl, l.trans l2, j2, fun y H3 l3 j3 py =>
    hr x y H3 ((l.trans l2).trans l3) j3 (Fz.le l3 px) py Q fun v H4 l4 j4 p => q v H4 ((l2.trans l3).trans l4) j4 p⟩⟩
theorem R.cmpv {f : CmpOp} {r : R2} (ho : OpR X (compareOp f) r) (hm : behindInMarks f b = false) [Fz Pa] (ha : R X U a σ H Pa) (hb : R X U b σ H Pb)
    (hr : ∀ x y H1, Le U H H1 → Jn U H1 → Pa x H1 → Pb y H1 → K1 U P H1 (r x y H1)) : R X U (.Compare a [f] [b] pos) σ H P :=
  R.of (pe_cmpR ho ha hb hm) fun H1 l j Q q => ⟨rfl, l, j, fun x H2 l2 j2 px => ⟨rfl, l.trans l2, j2, fun y H3 l3 j3 py =>
    hr x y H3 ((l.trans l2).trans l3) j3 (Fz.le l3 px) py Q fun v H4 l4 j4 p => q v H4 ((l2.trans l3).trans l4) j4 p⟩⟩
theorem RT.cmp {f : CmpOp} {r : R2} {φ : Bool → Prop} (ho : OpR X (compareOp f) r) (hm : behindInMarks f b = false) [Fz Pa] (ha : R X U a σ H Pa) (hb : R X U b σ H Pb)
    (hr : ∀ x y H1, Le U H H1 → Jn U H1 → Pa x H1 → Pb y H1 → K1 U (fun v _ => ∃ k, v = .bl k ∧ φ k) H1 (r x y H1)) : RT X U (.Compare a [f] [b] pos) σ H φ :=
  RT.of (pt_cmpR ho ha hb hm) fun H1 l j Q q => ⟨rfl, l, j, fun x H2 l2 j2 px => ⟨rfl, l.trans l2, j2, fun y H3 l3 j3 py =>
    hr x y H3 ((l.trans l2).trans l3) j3 (Fz.le l3 px) py _ fun v H4 l4 j4 ⟨k, e, p⟩ => ⟨k, e, q k H4 ((l2.trans l3).trans l4) j4 p⟩⟩⟩
theorem R.un {f : UnaryOp} {r : V → Hp → VK → Prop} (ho : UnR X (unaryOp f) r) (ha : R X U a σ H Pa)
    (hr : ∀ x H1, Le U H H1 → Jn U H1 → Pa x H1 → K1 U P H1 (r x H1)) : R X U (.UnaryOp f a pos) σ H P :=
  R.of (pe_un ho ha) fun H1 l j Q q => ⟨rfl, l, j, fun x H2 l2 j2 px => hr x H2 (l.trans l2) j2 px Q fun v H4 l4 j4 p => q v H4 (l2.trans l4) j4 p⟩
theorem K1.ret {v : V} {H1 : Hp} {Q : VK} (j : Jn U H1) (p : P v H1) (q : ∀ v H2, Le U H1 H2 → Jn U H2 → P v H2 → Q v H2) : Q v H1 := q v H1 (Le.refl _) j p
variable {i j : Int}
theorem R.add (ha : R X U a σ H (Is (.int i))) (hb : R X U b σ H (Is (.int j))) : R X U (.BinOp a .Add b pos) σ H (Is (.int (i + j))) :=
  R.op op_add ha hb fun x y H1 l jn hx hy Q q => ⟨i, j, hx, hy, q _ H1 (Le.refl _) jn rfl⟩
theorem R.sub (ha : R X U a σ H (Is (.int i))) (hb : R X U b σ H (Is (.int j))) : R X U (.BinOp a .Sub b pos) σ H (Is (.int (i - j))) :=
  R.op op_sub ha hb fun x y H1 l jn hx hy Q q => ⟨i, j, hx, hy, q _ H1 (Le.refl _) jn rfl⟩
theorem R.mul (hc : CMulW i j) (ha : R X U a σ H (Is (.int i))) (hb : R X U b σ H (Is (.int j))) : R X U (.BinOp a .Mult b pos) σ H (Is (.int (i * j))) :=
  R.op op_mulW ha hb fun x y H1 l jn hx hy Q q => ⟨i, j, hx, hy, hc, q _ H1 (Le.refl _) jn rfl⟩
theorem R.fdiv (hc : CDivW i j) (ha : R X U a σ H (Is (.int i))) (hb : R X U b σ H (Is (.int j))) : R X U (.BinOp a .FloorDiv b pos) σ H (Is (.int (i / j))) :=
  R.op op_fdivW ha hb fun x y H1 l jn hx hy Q q => ⟨i, j, hx, hy, hc, q _ H1 (Le.refl _) jn rfl⟩
theorem R.mod (hc : 0 < j) (ha : R X U a σ H (Is (.int i))) (hb : R X U b σ H (Is (.int j))) : R X U (.BinOp a .Mod b pos) σ H (Is (.int (i % j))) :=
  R.op op_mod ha hb fun x y H1 l jn hx hy Q q => ⟨i, j, hx, hy, hc, q _ H1 (Le.refl _) jn rfl⟩
theorem R.pow (hc : CPow i j) (ha : R X U a σ H (Is (.int i))) (hb : R X U b σ H (Is (.int j))) : R X U (.BinOp a .Pow b pos) σ H (Is (.int (i ^ j.toNat))) :=
  R.op op_pow ha hb fun x y H1 l jn hx hy Q q => ⟨i, j, hx, hy, hc, q _ H1 (Le.refl _) jn rfl⟩
theorem R.neg (ha : R X U a σ H (Is (.int i))) : R X U (.UnaryOp .USub a pos) σ H (Is (.int (-i))) :=
  R.un un_neg ha fun x H1 l jn hx Q q => ⟨i, hx, q _ H1 (Le.refl _) jn rfl⟩
theorem R.lt (ha : R X U a σ H (Is (.int i))) (hb : R X U b σ H (Is (.int j))) : R X U (.Compare a [.Lt] [b] pos) σ H (Is (.bl (decide (i < j)))) :=
  R.cmpv op_lt (nomark _) ha hb fun x y H1 l jn hx hy Q q => ⟨i, j, hx, hy, q _ H1 (Le.refl _) jn rfl⟩
theorem R.le (ha : R X U a σ H (Is (.int i))) (hb : R X U b σ H (Is (.int j))) : R X U (.Compare a [.LtE] [b] pos) σ H (Is (.bl (decide (i ≤ j)))) :=
  R.cmpv op_le (nomark _) ha hb fun x y H1 l jn hx hy Q q => ⟨i, j, hx, hy, q _ H1 (Le.refl _) jn rfl⟩
theorem R.eq {x y : V} (hs : scal x y = true) (ha : R X U a σ H (Is x)) (hb : R X U b σ H (Is y)) : R X U (.Compare a [.Eq] [b] pos) σ H (Is (.bl (decide (x = y)))) :=
  R.cmpv op_eq (nomark _) ha hb fun x y H1 l jn hx hy Q q => by cases hx; cases hy; exact ⟨hs, q _ H1 (Le.refl _) jn rfl⟩
theorem R.ne {x y : V} (hs : scal x y = true) (ha : R X U a σ H (Is x)) (hb : R X U b σ H (Is y)) : R X U (.Compare a [.NotEq] [b] pos) σ H (Is (.bl (!decide (x = y)))) :=
  R.cmpv op_ne (nomark _) ha hb fun x y H1 l jn hx hy Q q => by cases hx; cases hy; exact ⟨hs, q _ H1 (Le.refl _) jn rfl⟩
/-! tests -/
abbrev Plain (X : Cx) (e : Expr) : Prop := ∀ whole, isTrue e X.env whole = (do let v ← whole; standAt e.pos; holding [v] (truthy v))
theorem RT.val {φ : Bool → Prop} (h : R X U e σ H (fun v _ => ∃ k, v = .bl k ∧ φ k)) (he : Plain X e := by intro _; rfl) : RT X U e σ H φ :=
  RT.of (pt_val h he) fun H1 l jn Q q => ⟨rfl, l, jn, fun v H2 l2 j2 ⟨k, e, p⟩ => ⟨k, e, q k H2 l2 j2 p⟩⟩
theorem RT.is {k : Bool} (h : R X U e σ H (Is (.bl k))) (he : Plain X e := by intro _; rfl) : RT X U e σ H (· = k) := RT.val (h.imp fun v _ _ p => ⟨k, p, rfl⟩) he
theorem RT.not {φ : Bool → Prop} (h : RT X U a σ H φ) : RT X U (.UnaryOp .Not a pos) σ H (fun k => φ (!k)) :=
  RT.of (pt_not h) fun H1 l jn Q q => ⟨rfl, l, jn, fun k H2 l2 j2 p => q _ H2 l2 j2 (by show φ (!!k); rw [Bool.not_not]; exact p)⟩
theorem RT.lt (ha : R X U a σ H (Is (.int i))) (hb : R X U b σ H (Is (.int j))) : RT X U (.Compare a [.Lt] [b] pos) σ H (· = decide (i < j)) :=
  RT.cmp op_lt (nomark _) ha hb fun x y H1 l jn hx hy Q q => ⟨i, j, hx, hy, q _ H1 (Le.refl _) jn ⟨_, rfl, rfl⟩⟩
theorem RT.le (ha : R X U a σ H (Is (.int i))) (hb : R X U b σ H (Is (.int j))) : RT X U (.Compare a [.LtE] [b] pos) σ H (· = decide (i ≤ j)) :=
  RT.cmp op_le (nomark _) ha hb fun x y H1 l jn hx hy Q q => ⟨i, j, hx, hy, q _ H1 (Le.refl _) jn ⟨_, rfl, rfl⟩⟩
theorem RT.gt (ha : R X U a σ H (Is (.int i))) (hb : R X U b σ H (Is (.int j))) : RT X U (.Compare a [.Gt] [b] pos) σ H (· = decide (j < i)) :=
  RT.cmp op_gt (nomark _) ha hb fun x y H1 l jn hx hy Q q => ⟨i, j, hx, hy, q _ H1 (Le.refl _) jn ⟨_, rfl, rfl⟩⟩
theorem RT.ge (ha : R X U a σ H (Is (.int i))) (hb : R X U b σ H (Is (.int j))) : RT X U (.Compare a [.GtE] [b] pos) σ H (· = decide (j ≤ i)) :=
  RT.cmp op_ge (nomark _) ha hb fun x y H1 l jn hx hy Q q => ⟨i, j, hx, hy, q _ H1 (Le.refl _) jn ⟨_, rfl, rfl⟩⟩
theorem RT.eq {x y : V} (hs : scal x y = true) (ha : R X U a σ H (Is x)) (hb : R X U b σ H (Is y)) : RT X U (.Compare a [.Eq] [b] pos) σ H (· = decide (x = y)) :=
  RT.cmp op_eq (nomark _) ha hb fun x y H1 l jn hx hy Q q => by cases hx; cases hy; exact ⟨hs, q _ H1 (Le.refl _) jn ⟨_, rfl, rfl⟩⟩
theorem RT.ne {x y : V} (hs : scal x y = true) (ha : R X U a σ H (Is x)) (hb : R X U b σ H (Is y)) : RT X U (.Compare a [.NotEq] [b] pos) σ H (· = !decide (x = y)) :=
  RT.cmp op_ne (nomark _) ha hb fun x y H1 l jn hx hy Q q => by cases hx; cases hy; exact ⟨hs, q _ H1 (Le.refl _) jn ⟨_, rfl, rfl⟩⟩
theorem RT.notNone {v : V} {p' : Pos} {k} (ha : R X U a σ H (Is v)) : RT X U (.Compare a [.IsNot] [.Constant .none k p'] pos) σ H (· = !decide (v = .non)) :=
  RT.cmp op_notN (nomark _) ha R.non fun x y H1 l jn hx hy Q q => by cases hx; cases hy; exact ⟨rfl, q _ H1 (Le.refl _) jn ⟨_, rfl, rfl⟩⟩
theorem RT.isNone {v : V} {p' : Pos} {k} (ha : R X U a σ H (Is v)) : RT X U (.Compare a [.Is] [.Constant .none k p'] pos) σ H (· = decide (v = .non)) :=
  RT.cmp op_isN (nomark _) ha R.non fun x y H1 l jn hx hy Q q => by cases hx; cases hy; exact ⟨rfl, q _ H1 (Le.refl _) jn ⟨_, rfl, rfl⟩⟩
theorem R.isNone {v : V} {p' : Pos} {k} (ha : R X U a σ H (Is v)) : R X U (.Compare a [.Is] [.Constant .none k p'] pos) σ H (Is (.bl (decide (v = .non)))) :=
  R.cmpv op_isN (nomark _) ha R.non fun x y H1 l jn hx hy Q q => by cases hx; cases hy; exact ⟨rfl, q _ H1 (Le.refl _) jn rfl⟩
/-- and, or as tests: the second asked where the first lets it -/
theorem RW.and1 {φ : Bool → Prop} (h : RT X U a σ H φ) : RW X U (.BoolOp .And [a] pos) σ H φ := pw_and1 h
theorem RW.or1 {φ : Bool → Prop} (h : RT X U a σ H φ) : RW X U (.BoolOp .Or [a] pos) σ H φ := pw_or1 h
theorem RW.weak {t t' : TT} (h : PW X e t) (w : ∀ σ H Q, t' σ H Q → t σ H Q) : PW X e t' := ⟨fun wh pins s σ H Q I q => h.run wh pins s σ H Q I (w σ H Q q)⟩
theorem RW.and {φ ψ χ : Bool → Prop} (h1 : RT X U a σ H φ) (h2 : φ true → RW X U (.BoolOp .And (b :: es) pos) σ H ψ) (k1 : φ false → χ false) (k2 : φ true → ∀ k, ψ k → χ k) : RW X U (.BoolOp .And (a :: b :: es) pos) σ H χ := by
  refine RW.weak (pw_and (tB' := fun σ' H1 Q => φ true ∧ tRT U σ H ψ σ' H1 Q) h1 ⟨fun wh pins s σ' H' Q I ⟨p, q⟩ => (h2 p).run wh pins s σ' H' Q I q⟩) fun σ' H1 Q ⟨e1, l, j, q⟩ => ?_
  subst e1
  refine ⟨rfl, l, j, fun k H2 l2 j2 p => ?_⟩
  cases k with
  | false => exact q _ H2 l2 j2 (k1 p)
  | true => exact ⟨p, rfl, l.trans l2, j2, fun k H3 l3 j3 p3 => q k H3 (l2.trans l3) j3 (k2 p k p3)⟩
theorem RW.or {φ ψ χ : Bool → Prop} (h1 : RT X U a σ H φ) (h2 : φ false → RW X U (.BoolOp .Or (b :: es) pos) σ H ψ) (k1 : φ true → χ true) (k2 : φ false → ∀ k, ψ k → χ k) : RW X U (.BoolOp .Or (a :: b :: es) pos) σ H χ := by
  refine RW.weak (pw_or (tB' := fun σ' H1 Q => φ false ∧ tRT U σ H ψ σ' H1 Q) h1 ⟨fun wh pins s σ' H' Q I ⟨p, q⟩ => (h2 p).run wh pins s σ' H' Q I q⟩) fun σ' H1 Q ⟨e1, l, j, q⟩ => ?_
  subst e1
  refine ⟨rfl, l, j, fun k H2 l2 j2 p => ?_⟩
  cases k with
  | true => exact q _ H2 l2 j2 (k1 p)
  | false => exact ⟨p, rfl, l.trans l2, j2, fun k H3 l3 j3 p3 => q k H3 (l2.trans l3) j3 (k2 p k p3)⟩
theorem RW.pt {φ : Bool → Prop} (h : RW X U e σ H φ) : RT X U e σ H φ := PW.pt h
/-- exact answers -/
theorem RW.andB {p q : Bool} (h1 : RT X U a σ H (· = p)) (h2 : p = true → RW X U (.BoolOp .And (b :: es) pos) σ H (· = q)) : RW X U (.BoolOp .And (a :: b :: es) pos) σ H (· = (p && q)) :=
  RW.and h1 (fun e => h2 e.symm) (fun e => by rw [← e]; rfl) (fun e k hk => by rw [← e, hk]; rfl)
theorem RW.orB {p q : Bool} (h1 : RT X U a σ H (· = p)) (h2 : p = false → RW X U (.BoolOp .Or (b :: es) pos) σ H (· = q)) : RW X U (.BoolOp .Or (a :: b :: es) pos) σ H (· = (p || q)) :=
  RW.or h1 (fun e => h2 e.symm) (fun e => by rw [← e]; rfl) (fun e k hk => by rw [← e, hk]; rfl)
/-- as values, all True or False -/
theorem R.one {op : BoolOp} (h : R X U a σ H P) : R X U (.BoolOp op [a] pos) σ H P := pe_one h
theorem R.andB {p q : Bool} (h1 : R X U a σ H (Is (.bl p))) (h2 : p = true → R X U (.BoolOp .And (b :: es) pos) σ H (Is (.bl q))) : R X U (.BoolOp .And (a :: b :: es) pos) σ H (Is (.bl (p && q))) :=
  R.of (pe_and (tb := fun σ' H1 Q => p = true ∧ tR U σ H (Is (.bl q)) σ' H1 Q) h1 ⟨fun pins s σ' H' Q I ⟨e, w⟩ => (h2 e).run pins s σ' H' Q I w⟩) fun H1 l j Q k => ⟨rfl, l, j, fun v H2 l2 j2 e => ⟨p, e, by
    cases p with
    | true => exact ⟨rfl, rfl, l.trans l2, j2, fun v H3 l3 j3 e => k v H3 (l2.trans l3) j3 e⟩
    | false => exact k _ H2 l2 j2 rfl⟩⟩
theorem R.orB {p q : Bool} (h1 : R X U a σ H (Is (.bl p))) (h2 : p = false → R X U (.BoolOp .Or (b :: es) pos) σ H (Is (.bl q))) : R X U (.BoolOp .Or (a :: b :: es) pos) σ H (Is (.bl (p || q))) :=
  R.of (pe_or (tb := fun σ' H1 Q => p = false ∧ tR U σ H (Is (.bl q)) σ' H1 Q) h1 ⟨fun pins s σ' H' Q I ⟨e, w⟩ => (h2 e).run pins s σ' H' Q I w⟩) fun H1 l j Q k => ⟨rfl, l, j, fun v H2 l2 j2 e => ⟨p, e, by
    cases p with
    | false => exact ⟨rfl, rfl, l.trans l2, j2, fun v H3 l3 j3 e => k v H3 (l2.trans l3) j3 e⟩
    | true => exact k _ H2 l2 j2 rfl⟩⟩
theorem R.notB {p : Bool} (h : R X U a σ H (Is (.bl p))) : R X U (.UnaryOp .Not a pos) σ H (Is (.bl (!p))) :=
  R.of (pe_not h) fun H1 l j Q k => ⟨rfl, l, j, fun v H2 l2 j2 e => ⟨p, e, k _ H2 l2 j2 rfl⟩⟩
theorem R.ifE {φ : Bool → Prop} (hc : RT X U c σ H φ) (h1 : φ true → R X U a σ H P) (h2 : φ false → R X U b σ H P) : R X U (.IfExp c a b pos) σ H P :=
  R.of (pe_ifExp hc (ta := fun σ' H1 Q => φ true ∧ tR U σ H P σ' H1 Q) (tb := fun σ' H1 Q => φ false ∧ tR U σ H P σ' H1 Q) ⟨fun pins s σ' H' Q I ⟨e, w⟩ => (h1 e).run pins s σ' H' Q I w⟩ ⟨fun pins s σ' H' Q I ⟨e, w⟩ => (h2 e).run pins s σ' H' Q I w⟩)
    fun H1 l j Q q => ⟨rfl, l, j, fun k H2 l2 j2 p => by
      cases k with
      | true => exact ⟨p, rfl, l.trans l2, j2, fun v H3 l3 j3 e => q v H3 (l2.trans l3) j3 e⟩
      | false => exact ⟨p, rfl, l.trans l2, j2, fun v H3 l3 j3 e => q v H3 (l2.trans l3) j3 e⟩⟩
/-- a < b < c of ints -/
theorem R.chain {f g : CmpOp} {F G : Int → Int → Bool} {k : Int} (hf : OpR X (compareOp f) (rI0 fun i j => .bl (F i j))) (hg : OpR X (compareOp g) (rI0 fun i j => .bl (G i j)))
    (ha : R X U a σ H (Is (.int i))) (hb : R X U b σ H (Is (.int j))) (hc : R X U c σ H (Is (.int k))) (hm : lastMarks [f, g] [b, c] = false := by rfl) : R X U (.Compare a [f, g] [b, c] pos) σ H (Is (.bl (F i j && G j k))) :=
  R.of (pe_chain hf hg ha hb hc hm) fun H1 l jn Q q => ⟨rfl, l, jn, fun v H2 l2 j2 e => ⟨rfl, l.trans l2, j2, fun w H3 l3 j3 e' => ⟨i, j, e, e', F i j, rfl, by
    cases hF : F i j with
    | true => exact ⟨rfl, (l.trans l2).trans l3, j3, fun u H4 l4 j4 e'' => ⟨j, k, e', e'', q _ H4 ((l2.trans l3).trans l4) j4 (by rw [hF]; rfl)⟩⟩
    | false => exact q _ H3 (l2.trans l3) j3 (by rw [hF]; rfl)⟩⟩⟩
theorem RT.chain {f g : CmpOp} {F G : Int → Int → Bool} {k : Int} (hf : OpR X (compareOp f) (rI0 fun i j => .bl (F i j))) (hg : OpR X (compareOp g) (rI0 fun i j => .bl (G i j)))
    (ha : R X U a σ H (Is (.int i))) (hb : R X U b σ H (Is (.int j))) (hc : R X U c σ H (Is (.int k))) (hm : lastMarks [f, g] [b, c] = false := by rfl) : RT X U (.Compare a [f, g] [b, c] pos) σ H (· = (F i j && G j k)) :=
  RT.of (pt_chain hf hg ha hb hc hm) fun H1 l jn Q q => ⟨rfl, l, jn, fun v H2 l2 j2 e => ⟨rfl, l.trans l2, j2, fun w H3 l3 j3 e' => ⟨i, j, e, e', F i j, rfl, by
    cases hF : F i j with
    | true => exact ⟨rfl, (l.trans l2).trans l3, j3, fun u H4 l4 j4 e'' => ⟨j, k, e', e'', _, rfl, q _ H4 ((l2.trans l3).trans l4) j4 (by rw [hF]; rfl)⟩⟩
    | false => exact ⟨_, rfl, q _ H3 (l2.trans l3) j3 (by rw [hF]; rfl)⟩⟩⟩⟩

/-! arguments, displays -/
def A2 (P : VP) (Ps : List V → Hp → Prop) : List V → Hp → Prop := fun vs H => ∃ v r, vs = v :: r ∧ P v H ∧ Ps r H
def A0 : List V → Hp → Prop := fun vs _ => vs = []
theorem RA.nil : RA X U [] σ H A0 := RA.of pa_nil fun H1 l j Q q => q [] H1 (Le.refl _) j rfl
theorem RA.cons {Ps : List V → Hp → Prop} [Fz P] (h : R X U e σ H P) (hr : RA X U es σ H Ps) (hs : starEach (e :: es) X.env = (false, eval e X.env) :: starEach es X.env := by rfl) : RA X U (e :: es) σ H (A2 P Ps) :=
  RA.of (pa_cons h hr hs) fun H1 l j Q q => ⟨rfl, l, j, fun v H2 l2 j2 p => ⟨rfl, l.trans l2, j2, fun vs H3 l3 j3 ps => q _ H3 (l2.trans l3) j3 ⟨v, vs, rfl, Fz.le l3 p, ps⟩⟩⟩
/-- the last argument: no need of Fz -/
theorem RA.last (h : R X U e σ H P) (hs : starEach [e] X.env = (false, eval e X.env) :: starEach [] X.env := by rfl) : RA X U [e] σ H (A2 P A0) :=
  RA.of (pa_cons h pa_nil hs) fun H1 l j Q q => ⟨rfl, l, j, fun v H2 l2 j2 p => q _ H2 l2 j2 ⟨v, [], rfl, p, rfl⟩⟩
theorem R.tup {Ps : List V → Hp → Prop} {x1} (h : RA X U es σ H Ps) (hl : ∀ vs H1, Ps vs H1 → vs.length ≤ sizeLine) (w : ∀ vs p H1, Le U H H1 → Jn U H1 → Ps vs H1 → H1 p = none → P (.ref p) (upd H1 p (.tup vs))) : R X U (.Tuple es x1 pos) σ H P :=
  R.of (pe_tup h) fun H1 l j Q q => ⟨rfl, l, j, fun vs H2 l2 j2 p => ⟨hl vs H2 p, fun a ha => q _ _ (l2.mut j (l2.fresh j ha)) ((Le.new j2 ha).jn j2) (w vs a H2 (l.trans l2) j2 p ha)⟩⟩
theorem R.lst {Ps : List V → Hp → Prop} (h : RA X U es σ H Ps) (hl : ∀ vs H1, Ps vs H1 → vs.length ≤ sizeLine) (w : ∀ vs p H1, Le U H H1 → Jn U H1 → Ps vs H1 → H1 p = none → P (.ref p) (upd H1 p (.lst vs))) : R X U (.List es pos) σ H P :=
  R.of (pe_lst h) fun H1 l j Q q => ⟨rfl, l, j, fun vs H2 l2 j2 p => ⟨hl vs H2 p, fun a ha => q _ _ (l2.mut j (l2.fresh j ha)) ((Le.new j2 ha).jn j2) (w vs a H2 (l.trans l2) j2 p ha)⟩⟩
/-! calls -/
theorem R.callB {x : Str} {p : Pos} {id : String} {r : List V → Hp → VK → Prop} {Ps : List V → Hp → Prop} (hc : CallR X (.builtin id) r) (hg : Gl X x) (hm : X.mg x = none) (hv : bootBuiltins x = some (.builtin id)) (ha : RA X U (e :: es) σ H Ps)
    (hr : ∀ vs H1, Le U H H1 → Jn U H1 → Ps vs H1 → K1 U P H1 (r vs H1)) (hn : x ≠ "__name__" := by decide) (hdb : (x == ("__debug__" : Str)) = false := by decide)
    (he : starEach (e :: es) X.env = (false, eval e X.env) :: starEach es X.env := by rfl) (hpl : (backTo pos (starEach es X.env)).any (·.1) = false := by rfl) : R X U (.Call (.Name x p) (e :: es) [] pos) σ H P :=
  R.of (pe_callB hc hg hm hv ha hn hdb he hpl) fun H1 l j Q q => ⟨rfl, l, j, fun vs H2 l2 j2 p => hr vs H2 (l.trans l2) j2 p Q fun v H3 l3 j3 pv => q v H3 (l2.trans l3) j3 pv⟩
theorem R.callTy {x : Str} {p : Pos} {T : String} {r : List V → Hp → VK → Prop} {Ps : List V → Hp → Prop} (hc : CallR X (.type T) r) (hg : Gl X x) (hm : X.mg x = none) (hv : bootBuiltins x = some (.type T)) (ha : RA X U (e :: es) σ H Ps)
    (hr : ∀ vs H1, Le U H H1 → Jn U H1 → Ps vs H1 → K1 U P H1 (r vs H1)) (hn : x ≠ "__name__" := by decide) (hdb : (x == ("__debug__" : Str)) = false := by decide)
    (he : starEach (e :: es) X.env = (false, eval e X.env) :: starEach es X.env := by rfl) (hpl : (backTo pos (starEach es X.env)).any (·.1) = false := by rfl) : R X U (.Call (.Name x p) (e :: es) [] pos) σ H P :=
  R.of (pe_callTy hc hg hm hv ha hn hdb he hpl) fun H1 l j Q q => ⟨rfl, l, j, fun vs H2 l2 j2 p => hr vs H2 (l.trans l2) j2 p Q fun v H3 l3 j3 pv => q v H3 (l2.trans l3) j3 pv⟩
end
/-- a def as its callers see it -/
structure Callee (P : Program) (w : World) (K : PySem.W.Frag) (mg : Str → Option Value) (base : Heap) (k : Nat) (x : Str) (ps : List Str) (sp : Sp) : Prop where
  ex : ∃ f fd, FnOk P w K mg base CX0 k f fd ps sp ∧ mg x = some (.ref f) ∧ PySem.W.keepIn K (.ref f) = true ∧ Binds K fd ps []
section
variable {X : Cx} {U : UA} {σ : L2.St} {H : Hp} {e a b c : Expr} {es : List Expr} {P Pa Pb : VP} {pos : Pos}
theorem R.call {k : Nat} {x : Str} {p : Pos} {ps : List Str} {sp : Sp} {Ps : List V → Hp → Prop} (C : Callee X.prog X.w X.K X.mg X.base k x ps sp) (hr : Room k X.A) (hg : Gl X x) (ha : RA X U (e :: es) σ H Ps)
    (w : ∀ vs H1, Le U H H1 → Jn U H1 → Ps vs H1 → K1 U P H1 (fun Q => sp vs H1 Q E0)) (hdb : (x == ("__debug__" : Str)) = false := by decide)
    (he : starEach (e :: es) X.env = (false, eval e X.env) :: starEach es X.env := by rfl) (hpl : (backTo pos (starEach es X.env)).any (·.1) = false := by rfl) : R X U (.Call (.Name x p) (e :: es) [] pos) σ H P := by
  obtain ⟨f, fd, F, hm, hk, hb⟩ := C.ex
  refine R.of (pe_call F hr hg hm hk hb .nil pass0 ha hdb he hpl) fun H1 l j Q q => ⟨rfl, l, j, fun vs H2 l2 j2 p => ?_⟩
  show sp (vs ++ []) H2 Q E0
  rw [List.append_nil]
  exact w vs H2 (l.trans l2) j2 p Q fun v H3 l3 j3 pv => q v H3 (l2.trans l3) j3 pv
/-! subscripts -/
theorem R.ix {Pi : VP} [Fz Pa] (hs : PlainIx b) (ha : R X U a σ H Pa) (hb : R X U b σ H Pi) {r : R2} (hr : IxR X r) (w : ∀ x y H1, Le U H H1 → Jn U H1 → Pa x H1 → Pi y H1 → K1 U P H1 (r x y H1)) : R X U (.Subscript a b pos) σ H P :=
  R.of (pe_ix hr ha hb hs) fun H1 l j Q q => ⟨rfl, l, j, fun x H2 l2 j2 px => ⟨rfl, l.trans l2, j2, fun y H3 l3 j3 py => w x y H3 ((l.trans l2).trans l3) j3 (Fz.le l3 px) py Q fun v H4 l4 j4 p => q v H4 ((l2.trans l3).trans l4) j4 p⟩⟩
theorem R.ixT {p : Addr} {xs : List V} {i : Int} {v : V} (ht : H p = some (.tup xs)) (hi : atI xs i = some v) (ha : R X U a σ H (Is (.ref p))) (hb : R X U b σ H (Is (.int i))) (hs : PlainIx b := by exact fun _ _ => rfl) : R X U (.Subscript a b pos) σ H (Is v) :=
  R.ix hs ha hb ix_tup fun x y H1 l j hx hy Q q => ⟨p, xs, i, v, hx, hy, .inl (.inl (l.tup _ _ ht)), hi, q v H1 (Le.refl _) j rfl⟩
theorem R.ixL {p : Addr} {xs : List V} {i : Int} {v : V} (ht : H p = some (.lst xs)) (hi : atI xs i = some v) (nm : ¬ Mv U p) (ha : R X U a σ H (Is (.ref p))) (hb : R X U b σ H (Is (.int i))) (hs : PlainIx b := by exact fun _ _ => rfl) : R X U (.Subscript a b pos) σ H (Is v) :=
  R.ix hs ha hb ix_list fun x y H1 l j hx hy Q q => ⟨p, xs, i, v, hx, hy, .inl (.inl (l.keep _ _ nm ht)), hi, q v H1 (Le.refl _) j rfl⟩

/-! ### statements -/
variable {body rest : List Stmt} {st : Stmt} {D : Ends}
def S1 (X : Cx) (st : Stmt) (σ : L2.St) (H : Hp) (D : Ends) : Prop := PS X st (fun D' σ' H' => D' = D ∧ σ' = σ ∧ H' = H)
theorem S.of {t : TS} (h : PSs X body t) (w : t D σ H) : S X body σ H D := ⟨fun pins s σ' H' D' I ⟨e1, e2, e3⟩ => by subst e1 e2 e3; exact h.run pins s _ _ _ I w⟩
theorem S1.of {t : TS} (h : PS X st t) (w : t D σ H) : S1 X st σ H D := ⟨fun pins s σ' H' D' I ⟨e1, e2, e3⟩ => by subst e1 e2 e3; exact h.run pins s _ _ _ I w⟩
theorem S.self : PSs X body (fun D σ H => S X body σ H D) := ⟨fun pins s σ H D I h => h.run pins s σ H D I ⟨rfl, rfl, rfl⟩⟩
theorem S1.self : PS X st (fun D σ H => S1 X st σ H D) := ⟨fun pins s σ H D I h => h.run pins s σ H D I ⟨rfl, rfl, rfl⟩⟩
theorem S.cons (h : S1 X st σ H { D with nx := fun σ' H' => S X rest σ' H' D }) : S X (st :: rest) σ H D := S.of (pss_cons S1.self S.self) h
theorem S.one (h : S1 X st σ H D) : S X [st] σ H D := S.of (pss_one S1.self) h
/-- what follows is shown once -/
theorem S.cut {Mid : L2.St → Hp → Prop} (h : S1 X st σ H { D with nx := Mid }) (k : ∀ σ' H', Mid σ' H' → S X rest σ' H' D) : S X (st :: rest) σ H D :=
  S.of (Evl.pss_cut S1.self S.self) ⟨Mid, h, k⟩
theorem S.stp {t : TS} (h : PS X st t) (w : t { D with nx := fun σ' H' => S X rest σ' H' D } σ H) : S X (st :: rest) σ H D := S.cons (S1.of h w)
theorem S.nil (h : D.nx σ H) : S X [] σ H D := S.of pss_nil h
/-- name = e -/
theorem S.asg {i : Nat} {x : Str} {p' : Pos} (hN : X.N.Nodup) (hi : X.N[i]? = some x) (hx : Loc X.env.scope x) (hj : Jn U H) (he : R X U e σ H P) (k : ∀ v H1, Le U H H1 → Jn U H1 → P v H1 → S X rest (σ.set i (some v)) H1 D)
    (hs : swapsWith e (some (.Name x p')) pos.line X.env = pure false := by rfl) (hf : X.fn x = true ∨ X.env.scope.names.lookup x = some .local := by first | exact .inl rfl | exact .inr rfl | assumption) : S X (.Assign [.Name x p'] e pos :: rest) σ H D :=
  S.stp (ps_set hN hi hx he hs hf) ⟨rfl, Le.refl _, hj, fun v H1 l j p => k v H1 l j p⟩
/-- .. exact -/
theorem S.asgI {i : Nat} {x : Str} {p' : Pos} {v : V} (hN : X.N.Nodup) (hi : X.N[i]? = some x) (hx : Loc X.env.scope x) (hj : Jn U H) (he : R X U e σ H (Is v)) (k : ∀ H1, Le U H H1 → Jn U H1 → S X rest (σ.set i (some v)) H1 D)
    (hs : swapsWith e (some (.Name x p')) pos.line X.env = pure false := by rfl) (hf : X.fn x = true ∨ X.env.scope.names.lookup x = some .local := by first | exact .inl rfl | exact .inr rfl | assumption) : S X (.Assign [.Name x p'] e pos :: rest) σ H D :=
  S.asg hN hi hx hj he (fun w H1 l j p => by cases p; exact k H1 l j) hs hf
theorem S.ret (hj : Jn U H) (he : R X U e σ H P) (k : ∀ v H1, Le U H H1 → Jn U H1 → P v H1 → D.rt v H1) : S X (.Return (some e) pos :: rest) σ H D :=
  S.stp (ps_ret he) ⟨rfl, Le.refl _, hj, fun v H1 l j p => k v H1 l j p⟩
theorem S.expr (hj : Jn U H) (he : R X U e σ H P) (k : ∀ v H1, Le U H H1 → Jn U H1 → P v H1 → S X rest σ H1 D) (hs : swapsWith e none pos.line X.env = pure false := by rfl) : S X (.Expr e pos :: rest) σ H D :=
  S.stp (ps_expr he hs) ⟨rfl, Le.refl _, hj, fun v H1 l j p => k v H1 l j p⟩
theorem S1.if {φ : Bool → Prop} {xs ys : List Stmt} (hj : Jn U H) (hc : RT X U c σ H φ) (k1 : φ true → ∀ H1, Le U H H1 → Jn U H1 → S X xs σ H1 D)
    (k2 : φ false → ∀ H1, Le U H H1 → Jn U H1 → S X ys σ H1 D) : S1 X (.If c xs ys pos) σ H D :=
  S1.of (ps_if hc S.self S.self) ⟨rfl, Le.refl _, hj, fun b H1 l j p => by
    cases b with
    | true => exact k1 p H1 l j
    | false => exact k2 p H1 l j⟩
theorem S.if {φ : Bool → Prop} {xs ys : List Stmt} (hj : Jn U H) (hc : RT X U c σ H φ) (k1 : φ true → ∀ H1, Le U H H1 → Jn U H1 → S X xs σ H1 { D with nx := fun σ' H' => S X rest σ' H' D })
    (k2 : φ false → ∀ H1, Le U H H1 → Jn U H1 → S X ys σ H1 { D with nx := fun σ' H' => S X rest σ' H' D }) : S X (.If c xs ys pos :: rest) σ H D := S.cons (S1.if hj hc k1 k2)

/-! targets: the heap stands -/
def Tg (X : Cx) (tg : Expr) (v : V) (σ : L2.St) (H : Hp) (σ2 : L2.St) : Prop := PG X tg (fun v' σ' H' Q => v' = v ∧ σ' = σ ∧ H' = H ∧ Q σ2 H)
def Tgs (X : Cx) (ts : List Expr) (vs : List V) (σ : L2.St) (H : Hp) (σ2 : L2.St) : Prop := PGs X ts (fun v' σ' H' Q => v' = vs ∧ σ' = σ ∧ H' = H ∧ Q σ2 H)
theorem Tg.of {t : TG} {tg : Expr} {v : V} {σ2 : L2.St} (h : PG X tg t) (w : ∀ Q : L2.St → Hp → Prop, Q σ2 H → t v σ H Q) : Tg X tg v σ H σ2 :=
  ⟨fun pins s σ' H' v' u Q I r ⟨e1, e2, e3, q⟩ => by subst e1 e2 e3; exact h.run pins s _ _ _ u Q I r (w Q q)⟩
theorem Tgs.of {t : TGs} {ts : List Expr} {vs : List V} {σ2 : L2.St} (h : PGs X ts t) (w : ∀ Q : L2.St → Hp → Prop, Q σ2 H → t vs σ H Q) : Tgs X ts vs σ H σ2 :=
  ⟨fun pins s σ' H' v' u Q I r ⟨e1, e2, e3, q⟩ => by subst e1 e2 e3; exact h.run pins s _ _ _ u Q I r (w Q q)⟩
theorem Tg.name {i : Nat} {x : Str} {v : V} (hN : X.N.Nodup) (hi : X.N[i]? = some x) (hx : Loc X.env.scope x) (hf : X.fn x = true ∨ X.env.scope.names.lookup x = some .local := by first | exact .inl rfl | exact .inr rfl | assumption) : Tg X (.Name x pos) v σ H (σ.set i (some v)) :=
  Tg.of (pg_name hN hi hx hf) fun Q q => q
theorem Tgs.nil : Tgs X [] [] σ H σ := Tgs.of pgs_nil fun Q q => ⟨rfl, q⟩
theorem Tgs.cons {tg : Expr} {ts : List Expr} {v : V} {vs : List V} {σ1 σ2 : L2.St} (h : Tg X tg v σ H σ1) (hs : Tgs X ts vs σ1 H σ2)
    (ha : (assignEach (tg :: ts) X.env).map (·.2) = assign tg X.env :: (assignEach ts X.env).map (·.2) := by rfl) : Tgs X (tg :: ts) (v :: vs) σ H σ2 :=
  Tgs.of (pgs_cons h hs ha) fun Q q => ⟨v, vs, rfl, rfl, rfl, rfl, rfl, rfl, rfl, q⟩
theorem Tg.tup {ts : List Expr} {k : Nat} {p : Addr} {vs : List V} {σ2 : L2.St} (hc : X.calm = true) (ht : H p = some (.tup vs)) (h : Tgs X ts vs σ H σ2)
    (hn : (assignEach ts X.env).length = vs.length := by rfl) (hst : (assignEach ts X.env).findIdx? (·.1) = none := by rfl) : Tg X (.Tuple ts k pos) (.ref p) σ H σ2 :=
  Tg.of (pg_tup hc h hn hst) fun Q q => ⟨p, vs, rfl, .inl (.inl ht), rfl, rfl, rfl, rfl, q⟩
/-- target = e: e's value told first -/
theorem S.asgT {tg : Expr} (hj : Jn U H) (he : R X U e σ H P) (k : ∀ v H1, Le U H H1 → Jn U H1 → P v H1 → ∃ σ2, Tg X tg v σ H1 σ2 ∧ S X rest σ2 H1 D)
    (hs : swapsWithSole [tg] e pos.line X.env = pure false := by rfl) (hw : swappedStores [tg] e X.env = pure none := by rfl)
    (h1 : (assignEach [tg] X.env).map (·.2) = [assign tg X.env] := by rfl) : S X (.Assign [tg] e pos :: rest) σ H D :=
  S.stp (ps_asg (g := fun v σ' H' Q => ∃ σ2, Tg X tg v σ' H' σ2 ∧ Q σ2 H') he ⟨fun pins s σ' H' v u Q I r ⟨σ2, t, q⟩ => t.run pins s σ' H' v u Q I r ⟨rfl, rfl, rfl, q⟩⟩ hs hw h1) ⟨rfl, Le.refl _, hj, fun v H1 l j p => k v H1 l j p⟩
/-- a, b = e1, e2 of local names -/
theorem S.par {i j : Nat} {x y : Str} {px py pt : Pos} {kt k2 pt2} {Ps : List V → Hp → Prop} (hc : X.calm = true) (hN : X.N.Nodup) (hi : X.N[i]? = some x) (hj : X.N[j]? = some y) (hij : i ≠ j)
    (hx : X.env.scope.names.lookup x = some .local) (hy : X.env.scope.names.lookup y = some .local) (hJ : Jn U H) (ha : RA X U [a, b] σ H Ps)
    (k : ∀ vs H1, Le U H H1 → Jn U H1 → Ps vs H1 → ∃ v w, vs = [v, w] ∧ S X rest ((σ.set i (some v)).set j (some w)) H1 D)
    (hw : swappedStores [.Tuple [.Name x px, .Name y py] kt pt] (.Tuple [a, b] k2 pt2) X.env = pure (some [x, y]) := by rfl)
    (hs : swapsWithSole [.Tuple [.Name x px, .Name y py] kt pt] (.Tuple [a, b] k2 pt2) pos.line X.env = pure false := by rfl) : S X (.Assign [.Tuple [.Name x px, .Name y py] kt pt] (.Tuple [a, b] k2 pt2) pos :: rest) σ H D :=
  S.stp (ps_par hc hN hi hj hij hx hy ha hw hs) ⟨rfl, Le.refl _, hJ, fun vs H1 l j p => k vs H1 l j p⟩
theorem S.parI {i j : Nat} {x y : Str} {px py pt : Pos} {kt k2 pt2} {v w : V} (hc : X.calm = true) (hN : X.N.Nodup) (hi : X.N[i]? = some x) (hj : X.N[j]? = some y) (hij : i ≠ j)
    (hx : X.env.scope.names.lookup x = some .local) (hy : X.env.scope.names.lookup y = some .local) (hJ : Jn U H) (ha : R X U a σ H (Is v)) (hb : R X U b σ H (Is w))
    (k : ∀ H1, Le U H H1 → Jn U H1 → S X rest ((σ.set i (some v)).set j (some w)) H1 D)
    (hw : swappedStores [.Tuple [.Name x px, .Name y py] kt pt] (.Tuple [a, b] k2 pt2) X.env = pure (some [x, y]) := by rfl)
    (hs : swapsWithSole [.Tuple [.Name x px, .Name y py] kt pt] (.Tuple [a, b] k2 pt2) pos.line X.env = pure false := by rfl)
    (h1 : starEach [a, b] X.env = (false, eval a X.env) :: starEach [b] X.env := by rfl) (h2 : starEach [b] X.env = (false, eval b X.env) :: starEach [] X.env := by rfl) : S X (.Assign [.Tuple [.Name x px, .Name y py] kt pt] (.Tuple [a, b] k2 pt2) pos :: rest) σ H D :=
  S.par hc hN hi hj hij hx hy hJ (RA.cons ha (RA.last hb h2) h1) (fun vs H1 l j ⟨v', r, e, e1, w', r', e', e2, e3⟩ => by cases e1; cases e2; subst e'; cases e3; exact ⟨_, _, e, k H1 l j⟩) hw hs
/-! ### while -/
theorem S1.while {φ : L2.St → Hp → Bool → Prop} (hp : PassesOwn (model X.prog X.w) X.A X.env X.xe) (W : L2.St → Hp → Prop) (μ : L2.St → Hp → Nat) (h0 : W σ H) (hj : ∀ σ' H', W σ' H' → Jn U H') (hc : ∀ σ' H', W σ' H' → RT X U c σ' H' (φ σ' H'))
    (turn : ∀ σ' H', W σ' H' → φ σ' H' true → ∀ H1, Le U H' H1 → Jn U H1 → S X body σ' H1 { D with nx := fun σ2 H2 => W σ2 H2 ∧ μ σ2 H2 < μ σ' H', ct := fun σ2 H2 => W σ2 H2 ∧ μ σ2 H2 < μ σ' H', bk := D.nx })
    (done : ∀ σ' H', W σ' H' → φ σ' H' false → ∀ H1, Le U H' H1 → Jn U H1 → D.nx σ' H1) : S1 X (.While c body [] pos) σ H D := by
  refine S1.of (ps_while (tc := fun σ' H' Q => W σ' H' ∧ ∀ b H1, Le U H' H1 → Jn U H1 → φ σ' H' b → Q b H1) hp ⟨fun pins s σ' H' Q I ⟨w, q⟩ => (hc σ' H' w).run pins s σ' H' Q I ⟨rfl, Le.refl _, hj _ _ w, fun b H2 l j p => q b H2 l j p⟩⟩ S.self) ?_
  refine ⟨fun m σ' H' => W σ' H' ∧ m = μ σ' H', ⟨_, h0, rfl⟩, ?_⟩
  rintro m σ' H' ⟨w, rfl⟩
  refine ⟨w, fun b H1 l j p => ?_⟩
  cases b with
  | true => exact ⟨fun σ2 H2 => W σ2 H2 ∧ μ σ2 H2 < μ σ' H', fun σ2 H2 n => ⟨_, n.2, n.1, rfl⟩, turn σ' H' w p H1 l j⟩
  | false => exact done σ' H' w p H1 l j

/-! ### what is walked -/
def Src (X : Cx) (U : UA) (tg iter : Expr) (σ : L2.St) (H : Hp) (φ : It → Hp → Prop) : Prop := PI X tg iter (fun σ' H1 Rr => σ' = σ ∧ Le U H H1 ∧ Jn U H1 ∧ ∀ J H2, Le U H1 H2 → Jn U H2 → φ J H2 → Rr J H2)
theorem Src.of {tg iter : Expr} {φ : It → Hp → Prop} {t : TI} (h : PI X tg iter t) (w : ∀ H1, Le U H H1 → Jn U H1 → ∀ Rr : It → Hp → Prop, (∀ J H2, Le U H1 H2 → Jn U H2 → φ J H2 → Rr J H2) → t σ H1 Rr) : Src X U tg iter σ H φ :=
  ⟨fun pins s σ' H' Rr I ⟨e1, l, j, q⟩ => by subst e1; exact h.run pins s _ _ Rr I (w _ l j Rr q)⟩
/-- n turns of what Y says while G stands -/
abbrev Wk (n : Nat) (G : Hp → Prop) (Y : Nat → Hp → V → Hp → Prop) : It → Hp → Prop := fun J _ => Walk J n G Y
theorem Src.tup {tg : Expr} {p : Addr} {xs : List V} (h : R X U e σ H (Is (.ref p))) (ht : H p = some (.tup xs)) : Src X U tg e σ H (Wk xs.length (fun H => H p = some (.tup xs)) (YAt xs)) :=
  Src.of (pi_tup h) fun H1 l j Rr q => ⟨rfl, l, j, fun v H2 l2 j2 e => ⟨p, e, ⟨xs, .inl (.inl (l2.tup _ _ (l.tup _ _ ht)))⟩, q _ H2 l2 j2 (walk_tup.mono (fun H h => .inl (.inl h)) fun i H x H' _ _ y => y)⟩⟩
theorem Src.lst {tg : Expr} {p : Addr} {xs : List V} (h : R X U e σ H (Is (.ref p))) (ht : H p = some (.lst xs)) (nm : ¬ Mv U p) : Src X U tg e σ H (Wk xs.length (fun H => H p = some (.lst xs)) (YAt xs)) :=
  Src.of (pi_list h) fun H1 l j Rr q => ⟨rfl, l, j, fun v H2 l2 j2 e => ⟨p, e, ⟨xs, .inl (.inl (l2.keep _ _ nm (l.keep _ _ nm ht)))⟩, q _ H2 l2 j2 (walk_list.mono (fun H h => .inl (.inl h)) fun i H x H' _ _ y => y)⟩⟩
/-- a new list -/
theorem Src.newLst {tg : Expr} {Q : List V → Hp → Prop} (h : R X U e σ H (fun v H1 => ∃ p xs, v = .ref p ∧ H1 p = some (.lst xs) ∧ ¬ Mv U p ∧ Q xs H1)) : Src X U tg e σ H (fun J H1 => ∃ p xs, H1 p = some (.lst xs) ∧ ¬ Mv U p ∧ Q xs H1 ∧ Walk J xs.length (fun H => H p = some (.lst xs)) (YAt xs)) :=
  Src.of (pi_list h) fun H1 l j Rr q => ⟨rfl, l, j, fun v H2 l2 j2 ⟨p, xs, e, hp, nm, hq⟩ => ⟨p, e, ⟨xs, .inl (.inl hp)⟩, q _ H2 l2 j2 ⟨p, xs, hp, nm, hq, walk_list.mono (fun H h => .inl (.inl h)) fun i H x H' _ _ y => y⟩⟩⟩
theorem Src.range1 {tg : Expr} {p : Pos} {n : Int} (hg : Gl X "range") (hm : X.mg "range" = none) (hn : 0 ≤ n ∧ n ≤ 100000) (h : R X U a σ H (Is (.int n))) (h1 : starEach [a] X.env = (false, eval a X.env) :: starEach [] X.env := by rfl) (hs : starEach [a] X.env = [(false, eval a X.env)] := by rfl) :
    Src X U tg (.Call (.Name "range" p) [a] [] pos) σ H (Wk n.toNat (fun _ => True) (YFn fun i => .int (i : Int))) :=
  Src.of (pi_range1 hg hm (RA.last h h1) hs) fun H1 l j Rr q => ⟨rfl, l, j, fun vs H2 l2 j2 ⟨v, r, e, e1, e2⟩ => ⟨n, by cases e1; cases e2; exact e, by omega, by omega, q _ H2 l2 j2 (walk_range.mono (fun _ h => h) fun i H x H' _ _ y => by
    obtain ⟨e1, e2⟩ := y
    exact ⟨e1, by rw [e2]; show V.int (0 + _) = _; rw [Int.zero_add]⟩)⟩⟩
theorem Src.range2 {tg : Expr} {p : Pos} {lo hi : Int} (hg : Gl X "range") (hm : X.mg "range" = none) (hn : 0 ≤ lo ∧ lo ≤ 100000 ∧ 0 ≤ hi ∧ hi ≤ 100000) (h : R X U a σ H (Is (.int lo))) (h' : R X U b σ H (Is (.int hi)))
    (h0 : starEach [a, b] X.env = (false, eval a X.env) :: starEach [b] X.env := by rfl) (h1 : starEach [b] X.env = (false, eval b X.env) :: starEach [] X.env := by rfl) (hs : starEach [a, b] X.env = [(false, eval a X.env), (false, eval b X.env)] := by rfl) (hs2 : starEach [b] X.env = [(false, eval b X.env)] := by rfl) :
    Src X U tg (.Call (.Name "range" p) [a, b] [] pos) σ H (Wk (hi - lo).toNat (fun _ => True) (YFn fun i => .int (lo + (i : Int)))) :=
  Src.of (pi_range2 hg hm (RA.cons h (RA.last h' h1) h0) hs hs2) fun H1 l j Rr q => ⟨rfl, l, j, fun vs H2 l2 j2 ⟨v, r, e, e1, w, r', e', e2, e3⟩ => ⟨lo, hi, by cases e1; cases e2; cases e3; subst e'; exact e, by omega, q _ H2 l2 j2 (walk_range.mono (fun _ h => h) fun i H x H' _ _ y => y)⟩⟩
theorem S1.for {tg iter : Expr} {φ : It → Hp → Prop} (hs : Src X U tg iter σ H φ) (hj : Jn U H) (hp : PassesOwn (model X.prog X.w) X.A X.env X.xe) (hc : X.calm = true)
    (k : ∀ J H1, Le U H H1 → Jn U H1 → φ J H1 → ∃ n G Y, Walk J n G Y ∧ ∃ Pv : Nat → L2.St → Hp → Prop, Pv 0 σ H1 ∧ (∀ i σ' H', i ≤ n → Pv i σ' H' → G H') ∧
      (∀ i x σ' H' H'', i < n → Pv i σ' H' → Y i H' x H'' → ∃ σ2, Tg X tg x σ' H'' σ2 ∧ S X body σ2 H'' { D with nx := Pv (i + 1), ct := Pv (i + 1), bk := D.nx }) ∧ ∀ σ' H', Pv n σ' H' → D.nx σ' H') (hst : ∀ x, foldedSetIterable iter X.env x = pure x := by intro _; rfl) :
    S1 X (.For tg iter body [] pos) σ H D := by
  refine S1.of (ps_for (g := fun x σ' H' Q => ∃ σ2, Tg X tg x σ' H' σ2 ∧ Q σ2 H') hp hc hs ⟨fun pins s σ' H' v u Q I r ⟨σ2, t, q⟩ => t.run pins s σ' H' v u Q I r ⟨rfl, rfl, rfl, q⟩⟩ S.self hst) ⟨rfl, Le.refl _, hj, fun J H1 l j p => ?_⟩
  obtain ⟨n, G, Y, w, Pv, h0, hG, turn, done⟩ := k J H1 l j p
  exact for_it (g := fun x σ' H' Q => ∃ σ2, Tg X tg x σ' H' σ2 ∧ Q σ2 H') (tb := fun D σ H => S X body σ H D) w Pv h0 hG turn done

/-! ### comprehensions -/
def RTs (X : Cx) (U : UA) (ifs : List Expr) (σ : L2.St) (H : Hp) (φ : Bool → Prop) : Prop := PTs X ifs (tRT U σ H φ)
theorem RTs.nil : RTs X U [] σ H (· = true) := ⟨fun pins s σ' H1 Q I ⟨e1, l, j, q⟩ => by subst e1; exact pts_nil.run pins s _ _ _ I (q true H1 (Le.refl _) j rfl)⟩
theorem RTs.one {φ : Bool → Prop} (h : RT X U c σ H φ) : RTs X U [c] σ H φ := pts_one h
abbrev Blk (X : Cx) (scope : Scope) (f : Cx → Prop) : Prop := ∀ (s : Shared) (H : Hp) (C : Addr) (cl : List (Str × Addr)) (fp : List Addr), f (X.blk s H scope (compEnvC scope cl C X.env) fp)
/-- a turn of a comprehension whose list is at L, vs what it holds -/
def Trn (X : Cx) (U : UA) (scope : Scope) (tg : Expr) (ifs : List Expr) (elt : Expr) (own : List Nat) (σ : L2.St) (x : V) (H : Hp) (no : Hp → Prop) (yes : V → Hp → Prop) : Prop :=
  ∃ σ2, Blk X scope (fun X' => Tg X' tg x (wipe σ own) H σ2) ∧ wipe σ2 own = wipe σ own ∧ ∃ ψ : Bool → Prop, Blk X scope (fun X' => RTs X' U ifs σ2 H ψ) ∧ (ψ false → ∀ H1, Le U H H1 → Jn U H1 → no H1) ∧
    (ψ true → ∃ E : VP, Blk X scope (fun X' => R X' U elt σ2 H E) ∧ ∀ y H1, Le U H H1 → Jn U H1 → E y H1 → yes y H1)
def gLc (X : Cx) (scope : Scope) (tg : Expr) : TG := fun x σ' H' Q => ∃ σ2, Blk X scope (fun X' => Tg X' tg x σ' H' σ2) ∧ Q σ2 H'
def tLcT (X : Cx) (U : UA) (scope : Scope) (ifs : List Expr) : TT := fun σ' H' Q => ∃ ψ : Bool → Prop, Blk X scope (fun X' => RTs X' U ifs σ' H' ψ) ∧ Jn U H' ∧ ∀ b H1, Le U H' H1 → Jn U H1 → ψ b → Q b H1
def eLc (X : Cx) (U : UA) (scope : Scope) (elt : Expr) : TE := fun σ' H' Q => ∃ H0 E, Blk X scope (fun X' => R X' U elt σ' H0 E) ∧ Le U H0 H' ∧ Jn U H' ∧ ∀ y H1, Le U H' H1 → Jn U H1 → E y H1 → Q y H1
theorem gLc_ok {scope : Scope} {tg : Expr} : Blk X scope (fun X' => PG X' tg (gLc X scope tg)) := fun s H C cl fp => ⟨fun pins s1 σ' H' v u Q I r ⟨σ2, t, q⟩ => (t s H C cl fp).run pins s1 σ' H' v u Q I r ⟨rfl, rfl, rfl, q⟩⟩
theorem tLc_ok {scope : Scope} {ifs : List Expr} : Blk X scope (fun X' => PTs X' ifs (tLcT X U scope ifs)) := fun s H C cl fp => ⟨fun pins s1 σ' H' Q I ⟨ψ, t, j, q⟩ => (t s H C cl fp).run pins s1 σ' H' Q I ⟨rfl, Le.refl _, j, q⟩⟩
theorem eLc_ok {scope : Scope} {elt : Expr} : Blk X scope (fun X' => PE X' elt (eLc X U scope elt)) := fun s H C cl fp => ⟨fun pins s1 σ' H' Q I ⟨H0, E, t, l, j, q⟩ => (t s H C cl fp).run pins s1 σ' H' Q I ⟨rfl, l, j, q⟩⟩
theorem lcRun {J : It} {n : Nat} {G : Hp → Prop} {Y : Nat → Hp → V → Hp → Prop} {scope : Scope} {tg elt : Expr} {ifs : List Expr} {own : List Nat} {H1 : Hp} {L : Addr} {Qd : Hp → Prop} (w : Walk J n G Y) (hn : n ≤ 100000) (hY : ∀ i H x H', Jn U H → Y i H x H' → Le U H H') (j1 : Jn U H1) (hL : H1 L = none)
    (Pv : Nat → List V → Hp → Prop) (h0 : Pv 0 [] (upd H1 L (.lst []))) (hG : ∀ i vs H', i ≤ n → Le U H1 H' → Pv i vs H' → G H')
    (turn : ∀ i vs x H' H'', i < n → Le U H1 H' → Jn U H' → Jn U H'' → H' L = some (.lst vs) → Pv i vs H' → Y i H' x H'' →
      Trn X U scope tg ifs elt own σ x H'' (fun H3 => Pv (i + 1) vs H3) (fun y H3 => H3 L = some (.lst vs) → Pv (i + 1) (vs ++ [y]) (upd H3 L (.lst (vs ++ [y])))))
    (done : ∀ vs H', Le U H1 H' → Jn U H' → H' L = some (.lst vs) → vs.length ≤ n → Pv n vs H' → Qd H') :
    ∃ W : Nat → Nat → Hp → Prop, (∃ m, W 0 m (upd H1 L (.lst []))) ∧ ∀ i m H, W i m H →
      (J.stop i H ∧ Qd H) ∨ (J.go i H ∧ ∃ Nx : Hp → Prop, (∀ H', Nx H' → ∃ m', m' < m ∧ W (i + 1) m' H') ∧ ∀ x H', J.yld i H x H' → gLc X scope tg x (wipe σ own) H' fun σ2 H2 => wipe σ2 own = wipe σ own ∧ tLcT X U scope ifs σ2 H2 fun b H3 =>
        if b = true then eLc X U scope elt σ2 H3 fun y H4 => ∃ acc, H4 L = some (.lst acc) ∧ acc.length < sizeLine ∧ Nx (upd H4 L (.lst (acc ++ [y]))) else Nx H3) := by
  have nmL : ¬ Mv U L := Le.nmv j1 hL
  refine lc_it (g := gLc X scope tg) (tt := tLcT X U scope ifs) (te := eLc X U scope elt) (vs := own) (σ := σ) w (Qd := Qd) (fun i H' => ∃ vs, Le U H1 H' ∧ Jn U H' ∧ H' L = some (.lst vs) ∧ vs.length ≤ i ∧ Pv i vs H') ⟨[], Le.new j1 hL, (Le.new j1 hL).jn j1, upd_same, Nat.le_refl _, h0⟩ (fun i H' hi ⟨vs, l, _, _, _, p⟩ => hG i vs H' hi l p) (fun i x H' H'' hi ⟨vs, l, j, hv, hz, p⟩ y => ?_) (fun H' ⟨vs, l, j, hv, hz, p⟩ => done vs H' l j hv hz p)
  have l2 := hY i H' x H'' j y
  have j2 := l2.jn j
  obtain ⟨σ2, t, e, ψ, ht, hno, hyes⟩ := turn i vs x H' H'' hi l j j2 hv p y
  refine ⟨σ2, t, e, ψ, ht, j2, fun b H3 l3 j3 pb => ?_⟩
  have hv3 : H3 L = some (.lst vs) := l3.keep _ _ nmL (l2.keep _ _ nmL hv)
  cases b with
  | false => exact ⟨vs, (l.trans l2).trans l3, j3, hv3, by omega, hno pb H3 l3 j3⟩
  | true =>
    obtain ⟨E, he, hy⟩ := hyes pb
    refine ⟨H'', E, he, l3, j3, fun y H4 l4 j4 py => ?_⟩
    have hv4 : H4 L = some (.lst vs) := l4.keep _ _ nmL hv3
    refine ⟨vs, hv4, Nat.lt_of_le_of_lt (by omega : vs.length ≤ 100000) (by decide), vs ++ [y], (((l.trans l2).trans l3).trans l4).mut j1 hL, ?_, upd_same, by rw [List.length_append]; show vs.length + 1 ≤ _; omega, hy y H4 (l3.trans l4) j4 py hv4⟩
    exact j4.congr fun a m => upd_ne fun z => nmL (z ▸ m)
/-- what a comprehension asks once its source is told -/
def LcK (X : Cx) (U : UA) (scope : Scope) (tg : Expr) (ifs : List Expr) (elt : Expr) (own : List Nat) (σ : L2.St) (J : It) (H1 : Hp) (P : VP) : Prop := ∀ L, H1 L = none → ∃ n G Y, Walk J n G Y ∧ n ≤ 100000 ∧ (∀ i H x H', Jn U H → Y i H x H' → Le U H H') ∧
  ∃ Pv : Nat → List V → Hp → Prop, Pv 0 [] (upd H1 L (.lst [])) ∧ (∀ i vs H', i ≤ n → Le U H1 H' → Pv i vs H' → G H') ∧
    (∀ i vs x H' H'', i < n → Le U H1 H' → Jn U H' → Jn U H'' → H' L = some (.lst vs) → Pv i vs H' → Y i H' x H'' →
      Trn X U scope tg ifs elt own σ x H'' (fun H3 => Pv (i + 1) vs H3) (fun y H3 => H3 L = some (.lst vs) → Pv (i + 1) (vs ++ [y]) (upd H3 L (.lst (vs ++ [y]))))) ∧
    ∀ vs H', Le U H1 H' → Jn U H' → H' L = some (.lst vs) → vs.length ≤ n → Pv n vs H' → P (.ref L) H'
theorem R.lc {elt tg iter : Expr} {ifs : List Expr} {scope : Scope} {own : List (Str × Nat)} {φ : It → Hp → Prop} (hc : X.calm = true) (hN : X.N.Nodup) (hi : Src X U tg iter σ H φ) (ok : BlkOk X.N X.env.scope scope own)
    (k : ∀ J H1, Le U H H1 → Jn U H1 → φ J H1 → LcK X U scope tg ifs elt (own.map (·.2)) σ J H1 P) (hs : ∀ x, foldedSetIterable iter X.env x = pure x := by intro _; rfl) : R X U (.ListComp elt [⟨tg, iter, ifs, 0⟩] scope pos) σ H P :=
  R.of (pe_lc (g := gLc X scope tg) (tt := tLcT X U scope ifs) (te := eLc X U scope elt) hc hN hi ok gLc_ok tLc_ok eLc_ok hs) fun H1 l j Q q => ⟨rfl, l, j, fun J H2 l2 j2 p L hL => by
    obtain ⟨n, G, Y, w, hn, hY, Pv, h0, hG, turn, done⟩ := k J H2 (l.trans l2) j2 p L hL
    exact lcRun w hn hY j2 hL Pv h0 hG turn fun vs H' l3 j3 hv hz pv => q _ H' (l2.trans l3) j3 (done vs H' l3 j3 hv hz pv)⟩
/-- name = [..] on one line, the name a local -/
theorem S.asgLc {i : Nat} {y : Str} {py : Pos} {spos : Pos} {elt tg iter : Expr} {ifs : List Expr} {scope : Scope} {own : List (Str × Nat)} {φ : It → Hp → Prop} (hc : X.calm = true) (hN : X.N.Nodup) (hy : X.N[i]? = some y) (hyl : X.env.scope.names.lookup y = some .local)
    (hsw : swapsWith (.ListComp elt [⟨tg, iter, ifs, 0⟩] scope pos) (some (.Name y py)) spos.line X.env = pure true) (hj : Jn U H) (hi : Src X U tg iter σ H φ) (ok : BlkOk X.N X.env.scope scope own)
    (k : ∀ J H1, Le U H H1 → Jn U H1 → φ J H1 → LcK X U scope tg ifs elt (own.map (·.2)) σ J H1 P) (kk : ∀ v H1, Le U H H1 → Jn U H1 → P v H1 → S X rest (σ.set i (some v)) H1 D)
    (hs : ∀ x, foldedSetIterable iter X.env x = pure x := by intro _; rfl) : S X (.Assign [.Name y py] (.ListComp elt [⟨tg, iter, ifs, 0⟩] scope pos) spos :: rest) σ H D :=
  S.stp (ps_setLc (g := gLc X scope tg) (tt := tLcT X U scope ifs) (te := eLc X U scope elt) hc hN hy hyl hsw hi ok gLc_ok tLc_ok eLc_ok hs) ⟨rfl, Le.refl _, hj, fun J H2 l2 j2 p L hL => by
    obtain ⟨n, G, Y, w, hn, hY, Pv, h0, hG, turn, done⟩ := k J H2 l2 j2 p L hL
    exact lcRun w hn hY j2 hL Pv h0 hG turn fun vs H' l3 j3 hv hz pv => kk _ H' (l2.trans l3) j3 (done vs H' l3 j3 hv hz pv)⟩
end
end K62
end
section
set_option Elab.async false
set_option linter.all false
set_option maxRecDepth 100000
set_option maxHeartbeats 4000000
namespace K62
open PySem PySem.Spec PyProof.Rows L2
/-! ### defs -/
structure DefAt (K : PySem.W.Frag) (mg : Str → Option Value) (x : Str) (st : Stmt) (ps : List Str) : Prop where
  ex : ∃ f fd, Fun K x x st f fd ∧ mg x = some (.ref f) ∧ Binds K fd ps []
theorem callee_of {P : Program} {w : World} {K : PySem.W.Frag} {mg : Str → Option Value} {base : Heap} {x : Str} {st : Stmt} {N ps : List Str} {k : Nat} {sp : Sp} (F : DefAt K mg x st ps) (Sc : FnScope N ps (defScope st)) (len : ∀ vs H Q E, sp vs H Q E → vs.length = ps.length)
    (body : ∀ (f : Addr) (cdv : Value) (A : Around) (outer : List Env) (s : Shared) (H : Hp) (vs : List V) (Q : VK) (E : XK), Room k (A.deeper (envOfC x (defScope st) s.heap.objs.size f cdv)) → sp vs H Q E →
      S (cxOf CX0 P w K mg base N x (defScope st) f cdv A outer s H E).nox (defBody st) (start N vs) H { nx := fun _ H' => Q .non H', rt := Q }) : Callee P w K mg base (k + 1) x ps sp := by
  obtain ⟨f, fd, F, hm, hb⟩ := F.ex
  exact ⟨f, fd, F.ok Sc len fun cdv A outer s H vs Q E hr h => ⟨_, body f cdv A outer s H vs Q E hr h, rfl, rfl, rfl⟩, hm, F.kp, hb⟩
/-- a promise: from pre the heap grows, the value bears post -/
def FSp {α : Type} (U : α → UA) (pre : α → List V → Hp → Prop) (post : α → VP) : Sp := fun vs H Q _ => ∃ a, Jn (U a) H ∧ pre a vs H ∧ ∀ v H', Le (U a) H H' → Jn (U a) H' → post a v H' → Q v H'
abbrev nU {α : Type} : α → UA := fun _ => none
section
variable {X : Cx} {U : UA} {σ : L2.St} {H : Hp} {e a b c : Expr} {es : List Expr} {P Pa Pb : VP} {pos : Pos}
/-- a pure def called -/
theorem R.callP {α : Type} {k j : Nat} {x : Str} {p : Pos} {ps : List Str} {pre : α → List V → Hp → Prop} {post : α → VP} {Ps : List V → Hp → Prop} (C : Callee X.prog X.w X.K X.mg X.base k x ps (FSp nU pre post)) (hr : Room j X.A) (hkj : k ≤ j) (hg : Gl X x) (ha : RA X U (e :: es) σ H Ps)
    (w : ∀ vs H1, Le U H H1 → Jn U H1 → Ps vs H1 → ∃ a, pre a vs H1 ∧ ∀ v H2, Le U H1 H2 → Jn U H2 → post a v H2 → P v H2) (hdb : (x == ("__debug__" : Str)) = false := by decide)
    (he : starEach (e :: es) X.env = (false, eval e X.env) :: starEach es X.env := by rfl) (hpl : (backTo pos (starEach es X.env)).any (·.1) = false := by rfl) : R X U (.Call (.Name x p) (e :: es) [] pos) σ H P :=
  R.call C (hr.mono hkj) hg ha (fun vs H1 l j p Q q => by
    obtain ⟨a, hp, hq⟩ := w vs H1 l j p
    exact ⟨a, trivial, hp, fun v H2 l2 _ pv => q v H2 (Le.of l2) ((Le.of l2).jn j) (hq v H2 (Le.of l2) ((Le.of l2).jn j) pv)⟩) hdb he hpl
/-- a def that draws from the urn -/
theorem R.callU {α : Type} {k j : Nat} {x : Str} {p : Pos} {ps : List Str} {W : α → UA} {pre : α → List V → Hp → Prop} {post : α → VP} {Ps : List V → Hp → Prop} (C : Callee X.prog X.w X.K X.mg X.base k x ps (FSp W pre post)) (hr : Room j X.A) (hkj : k ≤ j) (hg : Gl X x) (ha : RA X U (e :: es) σ H Ps)
    (w : ∀ vs H1, Le U H H1 → Jn U H1 → Ps vs H1 → ∃ a, W a = U ∧ pre a vs H1 ∧ ∀ v H2, Le U H1 H2 → Jn U H2 → post a v H2 → P v H2) (hdb : (x == ("__debug__" : Str)) = false := by decide)
    (he : starEach (e :: es) X.env = (false, eval e X.env) :: starEach es X.env := by rfl) (hpl : (backTo pos (starEach es X.env)).any (·.1) = false := by rfl) : R X U (.Call (.Name x p) (e :: es) [] pos) σ H P :=
  R.call C (hr.mono hkj) hg ha (fun vs H1 l j p Q q => by
    obtain ⟨a, e, hp, hq⟩ := w vs H1 l j p
    subst e
    exact ⟨a, j, hp, fun v H2 l2 j2 pv => q v H2 l2 j2 (hq v H2 l2 j2 pv)⟩) hdb he hpl

/-! ### sources: zip -/
theorem walk_zipT {K : PySem.W.Frag} {a b : Addr} {xs ys : List V} {n : Nat} (hn : n = min xs.length ys.length) : Walk (RZ.ItzT K a b) n (fun H => SqT K H a xs ∧ SqT K H b ys) (YPair (fun i => xs[i]?) (fun i => ys[i]?)) := by
  refine ⟨fun i H hi q => ?_, fun H q => ?_, fun i H x H' hi q y => ?_⟩
  · exact ⟨xs, ys, xs[i]'(by omega), ys[i]'(by omega), q.1, q.2, List.getElem?_eq_getElem _, List.getElem?_eq_getElem _⟩
  · exact ⟨xs, ys, q.1, q.2, by omega⟩
  · obtain ⟨T, x1, y1, e1, e2, e3, f1, f2⟩ := y
    exact ⟨T, x1, y1, e1, e2, e3, f1 _ q.1, f2 _ q.2⟩
abbrev YZ (xs ys : List V) : Nat → Hp → V → Hp → Prop := YPair (fun i => xs[i]?) (fun i => ys[i]?)
/-- zip of two tuples -/
theorem Src.zipT {elts : List Expr} {kk : Nat} {tpos p : Pos} {p1 p2 : Addr} {xs ys : List V} (hg : Gl X "zip") (hm : X.mg "zip" = none) (ha : R X U a σ H (Is (.ref p1))) (hb : R X U b σ H (Is (.ref p2))) (h1 : H p1 = some (.tup xs)) (h2 : H p2 = some (.tup ys))
    (hs1 : starEach [b] X.env = (false, eval b X.env) :: starEach [] X.env := by rfl) (hs : starEach [a, b] X.env = (false, eval a X.env) :: starEach [b] X.env := by rfl) (hpl : (backTo pos (starEach [b] X.env)).any (·.1) = false := by rfl) :
    Src X U (.Tuple elts kk tpos) (.Call (.Name "zip" p) [a, b] [] pos) σ H (Wk (min xs.length ys.length) (fun H => H p1 = some (.tup xs) ∧ H p2 = some (.tup ys)) (YZ xs ys)) :=
  Src.of (RZ.pi_zipA hg hm (RA.cons ha (RA.last hb hs1) hs) hs hpl) fun H1 l j Rr q => ⟨rfl, l, j, fun vs H2 l2 j2 ⟨v, r, e, e1, w, r', e', e2, e3⟩ => by
    cases e1; cases e2; cases e3; subst e'
    exact ⟨p1, p2, xs, ys, e, .inr ⟨.inl (.inl (l2.tup _ _ (l.tup _ _ h1))), .inl (.inl (l2.tup _ _ (l.tup _ _ h2))), q _ H2 l2 j2 ((walk_zipT rfl).mono (fun H h => ⟨.inl (.inl h.1), .inl (.inl h.2)⟩) fun i H x H' _ _ y => y)⟩⟩⟩
/-- zip of two lists -/
theorem Src.zipL {elts : List Expr} {kk : Nat} {tpos p : Pos} {p1 p2 : Addr} {xs ys : List V} (hg : Gl X "zip") (hm : X.mg "zip" = none) (ha : R X U a σ H (Is (.ref p1))) (hb : R X U b σ H (Is (.ref p2))) (h1 : H p1 = some (.lst xs)) (h2 : H p2 = some (.lst ys)) (n1 : ¬ Mv U p1) (n2 : ¬ Mv U p2)
    (hs1 : starEach [b] X.env = (false, eval b X.env) :: starEach [] X.env := by rfl) (hs : starEach [a, b] X.env = (false, eval a X.env) :: starEach [b] X.env := by rfl) (hpl : (backTo pos (starEach [b] X.env)).any (·.1) = false := by rfl) :
    Src X U (.Tuple elts kk tpos) (.Call (.Name "zip" p) [a, b] [] pos) σ H (Wk (min xs.length ys.length) (fun H => H p1 = some (.lst xs) ∧ H p2 = some (.lst ys)) (YZ xs ys)) :=
  Src.of (RZ.pi_zipA hg hm (RA.cons ha (RA.last hb hs1) hs) hs hpl) fun H1 l j Rr q => ⟨rfl, l, j, fun vs H2 l2 j2 ⟨v, r, e, e1, w, r', e', e2, e3⟩ => by
    cases e1; cases e2; cases e3; subst e'
    exact ⟨p1, p2, xs, ys, e, .inl ⟨.inl (.inl (l2.keep _ _ n1 (l.keep _ _ n1 h1))), .inl (.inl (l2.keep _ _ n2 (l.keep _ _ n2 h2))), q _ H2 l2 j2 ((walk_zip rfl).mono (fun H h => ⟨.inl (.inl h.1), .inl (.inl h.2)⟩) fun i H x H' _ _ y => y)⟩⟩⟩

/-! ### comprehensions whose values are told -/
/-- a list that H0 does not know -/
def NLs (U : UA) (H0 : Hp) (Qs : List V → Hp → Prop) : VP := fun v H2 => ∃ L vs, v = .ref L ∧ H0 L = none ∧ ¬ Mv U L ∧ H2 L = some (.lst vs) ∧ Qs vs H2
/-- elements without tests; element i is told by a frozen predicate -/
theorem LcK.map {scope : Scope} {tg elt : Expr} {own : List Nat} {J : It} {H0 H1 : Hp} {n : Nat} {G : Hp → Prop} {Y : Nat → Hp → V → Hp → Prop} (Qi : Nat → VP) [∀ i, Fz (Qi i)] (w : Walk J n G Y) (hn : n ≤ 100000) (l0 : Le U H0 H1) (j0 : Jn U H0) (hY : ∀ i H x H', Jn U H → Y i H x H' → Le U H H') (hG : ∀ H', Le U H1 H' → G H')
    (turn : ∀ i x H' H'', i < n → Le U H1 H' → Jn U H'' → Y i H' x H'' → ∃ σ2, Blk X scope (fun X' => Tg X' tg x (wipe σ own) H'' σ2) ∧ wipe σ2 own = wipe σ own ∧ Blk X scope (fun X' => R X' U elt σ2 H'' (Qi i))) :
    LcK X U scope tg [] elt own σ J H1 (NLs U H0 fun vs H2 => vs.length = n ∧ ∀ i y, vs[i]? = some y → Qi i y H2) := by
  intro L hL
  have j1 := l0.jn j0
  have nm : ¬ Mv U L := Le.nmv j1 hL
  refine ⟨n, G, Y, w, hn, hY, fun i vs H' => vs.length = i ∧ ∀ k y, vs[k]? = some y → Qi k y H', ⟨rfl, fun k y e => by simp at e⟩, fun i vs H' _ l _ => hG H' l, fun i vs x H' H'' hi l jn jn2 hv ⟨p1, p2⟩ y => ?_, fun vs H' l _ hv hz ⟨p1, p2⟩ => ⟨L, vs, rfl, l0.fresh j0 hL, nm, hv, p1, p2⟩⟩
  obtain ⟨σ2, t, e, r⟩ := turn i x H' H'' hi l jn2 y
  have ly := hY i H' x H'' jn y
  refine ⟨σ2, t, e, (· = true), fun s H C cl fp => RTs.nil, (fun z => Bool.noConfusion z), fun _ => ⟨Qi i, r, fun y H3 l3 j3 py hv3 => ⟨by rw [List.length_append, p1]; rfl, fun k z hk => ?_⟩⟩⟩
  have tk : Tk H3 (upd H3 L (.lst (vs ++ [y]))) := fun a xs ha => by
    rw [upd_ne fun z => by rw [z, hv3] at ha; cases ha]
    exact ha
  by_cases hk' : k < vs.length
  · rw [List.getElem?_append_left hk'] at hk
    exact Fz.mv _ _ _ ((ly.trans l3).tup.trans tk) (p2 k z hk)
  · have : k = vs.length := by
      have := (List.getElem?_eq_some_iff.mp hk).1
      simp at this; omega
    subst this
    rw [List.getElem?_append_right (Nat.le_refl _)] at hk
    simp at hk
    subst hk
    rw [p1]
    exact Fz.mv _ _ _ tk py
/-- with a test; kept or not, and the value, are exact -/
theorem LcK.sel {scope : Scope} {tg elt : Expr} {ifs : List Expr} {own : List Nat} {J : It} {H0 H1 : Hp} {n : Nat} {G : Hp → Prop} {Y : Nat → Hp → V → Hp → Prop} (f : Nat → Bool) (v : Nat → V) (w : Walk J n G Y) (hn : n ≤ 100000) (l0 : Le U H0 H1) (j0 : Jn U H0) (hY : ∀ i H x H', Jn U H → Y i H x H' → Le U H H') (hG : ∀ H', Le U H1 H' → G H')
    (turn : ∀ i x H' H'', i < n → Le U H1 H' → Jn U H'' → Y i H' x H'' → ∃ σ2, Blk X scope (fun X' => Tg X' tg x (wipe σ own) H'' σ2) ∧ wipe σ2 own = wipe σ own ∧ Blk X scope (fun X' => RTs X' U ifs σ2 H'' (· = f i)) ∧ (f i = true → Blk X scope (fun X' => R X' U elt σ2 H'' (Is (v i))))) :
    LcK X U scope tg ifs elt own σ J H1 (NLs U H0 fun vs _ => vs = Evl.given n f v) := by
  intro L hL
  have j1 := l0.jn j0
  refine ⟨n, G, Y, w, hn, hY, fun i vs H' => vs = Evl.given i f v, rfl, fun i vs H' _ l _ => hG H' l, fun i vs x H' H'' hi l jn jn2 hv p1 y => ?_, fun vs H' l _ hv hz p1 => ⟨L, vs, rfl, l0.fresh j0 hL, Le.nmv j1 hL, hv, p1⟩⟩
  obtain ⟨σ2, t, e, r1, r2⟩ := turn i x H' H'' hi l jn2 y
  refine ⟨σ2, t, e, (· = f i), r1, fun z H3 _ _ => ?_, fun z => ⟨_, r2 z.symm, fun y H3 l3 j3 py hv3 => ?_⟩⟩
  · show vs = _
    rw [p1, Evl.given_no z.symm]
  · show vs ++ [y] = _
    rw [Evl.given_yes z.symm, p1, py]
theorem yAt_le {xs : List V} {i : Nat} {H H' : Hp} {x : V} (j : Jn U H) (y : YAt xs i H x H') : Le U H H' := y.1 ▸ Le.refl _
theorem yFn_le {f : Nat → V} {i : Nat} {H H' : Hp} {x : V} (j : Jn U H) (y : YFn f i H x H') : Le U H H' := y.1 ▸ Le.refl _
theorem yZ_le {xs ys : List V} {i : Nat} {H H' : Hp} {x : V} (j : Jn U H) (y : YZ xs ys i H x H') : Le U H H' := by
  obtain ⟨T, a, b, _, h, e, _⟩ := y
  subst e
  exact Le.new j h
/-- over zip, two names -/
theorem LcK.zip {scope : Scope} {tg elt : Expr} {own : List Nat} {J : It} {H0 H1 : Hp} {n j1 j2 : Nat} {G : Hp → Prop} {xs ys : List V} (Qi : Nat → VP) [∀ i, Fz (Qi i)] (w : Walk J n G (YZ xs ys)) (hn : n ≤ 100000) (l0 : Le U H0 H1) (j0 : Jn U H0) (hG : ∀ H', Le U H1 H' → G H')
    (ht : ∀ T x y H'', H'' T = some (.tup [x, y]) → Blk X scope (fun X' => Tg X' tg (.ref T) (wipe σ own) H'' (((wipe σ own).set j1 (some x)).set j2 (some y))))
    (turn : ∀ i x y H'', i < n → Le U H1 H'' → Jn U H'' → xs[i]? = some x → ys[i]? = some y → Blk X scope (fun X' => R X' U elt (((wipe σ own).set j1 (some x)).set j2 (some y)) H'' (Qi i)))
    (hw : ∀ x y, wipe (((wipe σ own).set j1 (some x)).set j2 (some y)) own = wipe σ own := by intros; rfl) :
    LcK X U scope tg [] elt own σ J H1 (NLs U H0 fun vs H2 => vs.length = n ∧ ∀ i y, vs[i]? = some y → Qi i y H2) :=
  LcK.map Qi w hn l0 j0 (fun i H x H' => yZ_le) hG fun i x H' H'' hi l jn y => by
    obtain ⟨T, a, b, e1, h, e2, e3, e4⟩ := y
    subst e1 e2
    exact ⟨_, ht T a b _ upd_same, hw a b, turn i a b _ hi (l.mut (l0.jn j0) (l.fresh (l0.jn j0) h)) jn e3 e4⟩
/-- a comprehension of told ints: the list -/
theorem ints_of {n : Nat} {f : Nat → Int} {vs : List V} (h1 : vs.length = n) (h2 : ∀ i y, vs[i]? = some y → y = V.int (f i)) : vs = ((List.range n).map f).map V.int := by
  apply List.ext_getElem?
  intro i
  by_cases hi : i < n
  · have hv : i < vs.length := by omega
    rw [List.getElem?_eq_getElem hv, h2 i _ (List.getElem?_eq_getElem hv)]
    simp [hi]
  · rw [List.getElem?_eq_none (by omega), List.getElem?_eq_none (by simp; omega)]
end

/-! ### often met -/
section
variable {X : Cx} {U : UA} {σ : L2.St} {H : Hp} {e a b c : Expr} {es : List Expr} {P Pa Pb : VP} {pos q : Pos}
theorem R.lenT {p : Addr} {xs : List V} (hg : Gl X "len") (hm : X.mg "len" = none) (ht : H p = some (.tup xs)) (ha : R X U a σ H (Is (.ref p)))
    (h1 : starEach [a] X.env = (false, eval a X.env) :: starEach [] X.env := by rfl) (h2 : (backTo pos (starEach [] X.env)).any (·.1) = false := by rfl) : R X U (.Call (.Name "len" q) [a] [] pos) σ H (Is (.int xs.length)) :=
  R.callB call_len_seq hg hm PySem.boot_len (RA.last ha h1) (fun vs H1 l j ⟨v, r, e, e1, e2⟩ Q k => by cases e1; cases e2; exact ⟨p, xs, e, .inr (.inl (.inl (l.tup _ _ ht))), k _ H1 (Le.refl _) j rfl⟩) (by decide) (by decide) h1 h2
theorem R.lenL {p : Addr} {xs : List V} (hg : Gl X "len") (hm : X.mg "len" = none) (ht : H p = some (.lst xs)) (nm : ¬ Mv U p) (ha : R X U a σ H (Is (.ref p)))
    (h1 : starEach [a] X.env = (false, eval a X.env) :: starEach [] X.env := by rfl) (h2 : (backTo pos (starEach [] X.env)).any (·.1) = false := by rfl) : R X U (.Call (.Name "len" q) [a] [] pos) σ H (Is (.int xs.length)) :=
  R.callB call_len_seq hg hm PySem.boot_len (RA.last ha h1) (fun vs H1 l j ⟨v, r, e, e1, e2⟩ Q k => by cases e1; cases e2; exact ⟨p, xs, e, .inl (.inl (.inl (l.keep _ _ nm ht))), k _ H1 (Le.refl _) j rfl⟩) (by decide) (by decide) h1 h2
/-- len of a new list -/
theorem R.lenN {H0 : Hp} {Qs : List V → Hp → Prop} {n : Nat} (hg : Gl X "len") (hm : X.mg "len" = none) (ha : R X U a σ H (NLs U H0 Qs)) (hn : ∀ vs H1, Qs vs H1 → vs.length = n)
    (h1 : starEach [a] X.env = (false, eval a X.env) :: starEach [] X.env := by rfl) (h2 : (backTo pos (starEach [] X.env)).any (·.1) = false := by rfl) : R X U (.Call (.Name "len" q) [a] [] pos) σ H (Is (.int n)) :=
  R.callB call_len_seq hg hm PySem.boot_len (RA.last ha h1) (fun vs H1 l j ⟨v, r, e, ⟨L, us, e1, _, _, hL, hq⟩, e2⟩ Q k => by cases e1; cases e2; exact ⟨L, us, e, .inl (.inl (.inl hL)), k _ H1 (Le.refl _) j (by rw [hn us H1 hq]; rfl)⟩) (by decide) (by decide) h1 h2
/-- all(..) of a new list of truth values -/
theorem R.allN {H0 : Hp} {n : Nat} {f : Nat → Bool} (hc : X.calm = true) (hg : Gl X "all") (hm : X.mg "all" = none) (ha : R X U a σ H (NLs U H0 fun vs _ => vs.length = n ∧ ∀ i y, vs[i]? = some y → y = V.bl (f i)))
    (h1 : starEach [a] X.env = (false, eval a X.env) :: starEach [] X.env := by rfl) (h2 : (backTo pos (starEach [] X.env)).any (·.1) = false := by rfl) : R X U (.Call (.Name "all" q) [a] [] pos) σ H (Is (.bl ((List.range n).all f))) :=
  R.callB (cr_all hc) hg hm PyProof.Rows.boot_all (RA.last ha h1) (fun vs H1 l j ⟨v, r, e, ⟨L, us, e1, _, _, hL, hz, hu⟩, e2⟩ Q k => by
    cases e1; cases e2
    have eu : us = ((List.range n).map f).map V.bl := by
      apply List.ext_getElem?
      intro i
      by_cases hi : i < n
      · have hv : i < us.length := by omega
        rw [List.getElem?_eq_getElem hv, hu i _ (List.getElem?_eq_getElem hv)]
        simp [hi]
      · rw [List.getElem?_eq_none (by omega), List.getElem?_eq_none (by simp; omega)]
    refine ⟨L, _, e, .inl (.inl (eu ▸ hL)), k _ H1 (Le.refl _) j ?_⟩
    rw [List.all_map]
    rfl) (by decide) (by decide) h1 h2
/-- sum(..) of a new list of ints -/
theorem R.sumN {H0 : Hp} {n : Nat} {f : Nat → Int} (hc : X.calm = true) (hg : Gl X "sum") (hm : X.mg "sum" = none) (ha : R X U a σ H (NLs U H0 fun vs _ => vs.length = n ∧ ∀ i y, vs[i]? = some y → y = V.int (f i)))
    (h1 : starEach [a] X.env = (false, eval a X.env) :: starEach [] X.env := by rfl) (h2 : (backTo pos (starEach [] X.env)).any (·.1) = false := by rfl) : R X U (.Call (.Name "sum" q) [a] [] pos) σ H (Is (.int ((List.range n).map f).sum)) :=
  R.callB (cr_sum hc) hg hm PyProof.Rows.boot_sum (RA.last ha h1) (fun vs H1 l j ⟨v, r, e, ⟨L, us, e1, _, _, hL, hz, hu⟩, e2⟩ Q k => by
    cases e1; cases e2
    exact ⟨L, _, e, .inl (.inl (ints_of hz hu ▸ hL)), k _ H1 (Le.refl _) j rfl⟩) (by decide) (by decide) h1 h2
/-- tuple(..) of a new list -/
theorem R.tupleN {H0 : Hp} {Qs : List V → Hp → Prop} (hs : ∀ vs H1 H2, Tk H1 H2 → Qs vs H1 → Qs vs H2) (hg : Gl X "tuple") (hm : X.mg "tuple" = none) (ha : R X U a σ H (NLs U H0 Qs))
    (h1 : starEach [a] X.env = (false, eval a X.env) :: starEach [] X.env := by rfl) (h2 : (backTo pos (starEach [] X.env)).any (·.1) = false := by rfl) : R X U (.Call (.Name "tuple" q) [a] [] pos) σ H (fun v H2 => ∃ p vs, v = .ref p ∧ H2 p = some (.tup vs) ∧ Qs vs H2) :=
  R.callTy call_tuple_of hg hm PyProof.Rows.boot_tuple (RA.last ha h1) (fun vs H1 l j ⟨v, r, e, ⟨L, us, e1, _, _, hL, hq⟩, e2⟩ Q k => by
    cases e1; cases e2
    refine ⟨L, us, e, .inl ⟨.inl (.inl hL), fun p hp => k _ _ (Le.new j hp) ((Le.new j hp).jn j) ⟨p, us, rfl, upd_same, hs us _ _ (Le.new (U := U) j hp).tup hq⟩⟩⟩) (by decide) (by decide) h1 h2
theorem tk_map {n : Nat} {Qi : Nat → VP} [∀ i, Fz (Qi i)] : ∀ (vs : List V) (H1 H2 : Hp), Tk H1 H2 → (vs.length = n ∧ ∀ i y, vs[i]? = some y → Qi i y H1) → (vs.length = n ∧ ∀ i y, vs[i]? = some y → Qi i y H2) := fun vs H1 H2 t ⟨h1, h2⟩ => ⟨h1, fun i y e => Fz.mv _ _ _ t (h2 i y e)⟩
/-- tuple(..) of a new list of told ints -/
theorem R.tupleI {H0 : Hp} {n : Nat} {f : Nat → Int} {l : List Int} (hl : (List.range n).map f = l) (hg : Gl X "tuple") (hm : X.mg "tuple" = none) (ha : R X U a σ H (NLs U H0 fun vs _ => vs.length = n ∧ ∀ i y, vs[i]? = some y → y = V.int (f i)))
    (h1 : starEach [a] X.env = (false, eval a X.env) :: starEach [] X.env := by rfl) (h2 : (backTo pos (starEach [] X.env)).any (·.1) = false := by rfl) : R X U (.Call (.Name "tuple" q) [a] [] pos) σ H (TpI l) :=
  (R.tupleN (fun _ _ _ _ h => h) hg hm ha h1 h2).imp fun v H1 _ ⟨p, vs, e, hp, hz, hu⟩ => ⟨p, e, by rw [hp, ints_of hz hu, hl]⟩
/-- isinstance -/
theorem R.isi {x : V} {T : String} {t : Value} {k : Bool} (ty : ∀ H1, Le U H H1 → TyX X.K H1 x t) (hk : PySem.W.kitOne X.K t (.type T) = some k) (hg : Gl X "isinstance") (hm : X.mg "isinstance" = none) (ha : R X U a σ H (Is x)) (hb : R X U b σ H (Is (.ty T)))
    (h0 : starEach [a, b] X.env = (false, eval a X.env) :: starEach [b] X.env := by rfl) (h1 : starEach [b] X.env = (false, eval b X.env) :: starEach [] X.env := by rfl) (h2 : (backTo pos (starEach [b] X.env)).any (·.1) = false := by rfl) : R X U (.Call (.Name "isinstance" q) [a, b] [] pos) σ H (Is (.bl k)) :=
  R.callB call_isi hg hm PyProof.Rows.boot_isinstance (RA.cons ha (RA.last hb h1) h0) (fun vs H1 l j ⟨v, r, e, e1, w, r', e', e2, e3⟩ Q kk => by cases e1; cases e2; cases e3; subst e'; exact ⟨x, .ty T, t, .type T, k, e, .ty T, ty H1 l, hk, kk _ H1 (Le.refl _) j rfl⟩) (by decide) (by decide) h0 h2
/-! ints told by a predicate -/
theorem R.toIn {i : Int} (h : R X U a σ H (Is (.int i))) : R X U a σ H (In (· = i)) := h.imp fun v _ _ e => ⟨i, e, rfl⟩
theorem R.opIn {f : Operator} {g : Int → Int → Int} {C : Int → Int → Prop} {φ ψ : Int → Prop} (ho : OpR X (binaryOp f) (rI C fun i j => .int (g i j))) (hc : ∀ i j, φ i → ψ j → C i j) (ha : R X U a σ H (In φ)) (hb : R X U b σ H (In ψ)) :
    R X U (.BinOp a f b pos) σ H (In fun k => ∃ i j, φ i ∧ ψ j ∧ k = g i j) :=
  R.op ho ha hb fun x y H1 l jn ⟨i, e1, p1⟩ ⟨j, e2, p2⟩ Q k => ⟨i, j, e1, e2, hc i j p1 p2, k _ H1 (Le.refl _) jn ⟨_, rfl, i, j, p1, p2, rfl⟩⟩
theorem R.opIn0 {f : Operator} {g : Int → Int → Int} {φ ψ : Int → Prop} (ho : OpR X (binaryOp f) (rI0 fun i j => .int (g i j))) (ha : R X U a σ H (In φ)) (hb : R X U b σ H (In ψ)) :
    R X U (.BinOp a f b pos) σ H (In fun k => ∃ i j, φ i ∧ ψ j ∧ k = g i j) :=
  R.op ho ha hb fun x y H1 l jn ⟨i, e1, p1⟩ ⟨j, e2, p2⟩ Q k => ⟨i, j, e1, e2, k _ H1 (Le.refl _) jn ⟨_, rfl, i, j, p1, p2, rfl⟩⟩
theorem R.imIn {φ ψ : Int → Prop} (h : R X U a σ H (In φ)) (w : ∀ i, φ i → ψ i) : R X U a σ H (In ψ) := h.imp fun v _ _ ⟨i, e, p⟩ => ⟨i, e, w i p⟩
/-- math.gcd -/
theorem R.gcd {x : Str} {i j : Int} (hg : Gl X x) (hm : X.mg x = some (.builtin "math.gcd")) (ha : R X U a σ H (Is (.int i))) (hb : R X U b σ H (Is (.int j))) (hdb : (x == ("__debug__" : Str)) = false := by decide)
    (h0 : starEach [a, b] X.env = (false, eval a X.env) :: starEach [b] X.env := by rfl) (h1 : starEach [b] X.env = (false, eval b X.env) :: starEach [] X.env := by rfl) (h2 : (backTo pos (starEach [b] X.env)).any (·.1) = false := by rfl) :
    R X U (.Call (.Name x q) [a, b] [] pos) σ H (Is (.int ((Nat.gcd i.natAbs j.natAbs : Nat) : Int))) :=
  R.of (pe_callBfun cr_gcd hg hm (RA.cons ha (RA.last hb h1) h0) hdb h0 h2) fun H1 l jn Q k => ⟨rfl, l, jn, fun vs H2 l2 j2 ⟨v, r, e, e1, w, r', e', e2, e3⟩ => by cases e1; cases e2; cases e3; subst e'; exact ⟨i, j, e, k _ H2 l2 j2 rfl⟩⟩
/-! lists that change -/
theorem upd_jn {L : Addr} {o : HO} (nm : ¬ Mv U L) (j : Jn U H) : Jn U (upd H L o) := j.congr fun a m => upd_ne fun z => nm (z ▸ m)
theorem upd_tk {L : Addr} {o : HO} {xs : List V} (h : H L = some (.lst xs)) : Tk H (upd H L o) := fun a ys ha => by
  rw [upd_ne fun z => by rw [z, h] at ha; cases ha]
  exact ha
variable {rest : List Stmt} {D : Ends}
/-- o[i] = e, o a list -/
theorem S.setL {o i : Expr} {tpos : Pos} (hj : Jn U H) (he : R X U e σ H P) (k : ∀ v H1, Le U H H1 → Jn U H1 → P v H1 → ∃ L xs kk jj, R X U o σ H1 (Is (.ref L)) ∧ R X U i σ H1 (Is (.int kk)) ∧ H1 L = some (.lst xs) ∧ ¬ Mv U L ∧ ixN xs.length kk = some jj ∧
    ∀ H2, Le U H1 H2 → Jn U H2 → H2 L = some (.lst xs) → S X rest σ (upd H2 L (.lst (xs.set jj v))) D)
    (hs : swapsWithSole [.Subscript o i tpos] e pos.line X.env = pure false := by rfl) (hw : swappedStores [.Subscript o i tpos] e X.env = pure none := by rfl)
    (h1 : (assignEach [.Subscript o i tpos] X.env).map (·.2) = [assign (.Subscript o i tpos) X.env] := by rfl)
    (ha : ∀ v, assign (.Subscript o i tpos) X.env v = (do
      let ov ← holding [v] (eval o X.env)
      let iv ← holding [v, ov] (eval i X.env)
      standAt tpos
      holding [v, ov, iv] (setItem ov iv v)
      release [v, ov, iv] []) := by intro _; rfl) : S X (.Assign [.Subscript o i tpos] e pos :: rest) σ H D := by
  refine S.stp (ps_asg (g := gSub (fun σ' H' Q => ∃ L, R X U o σ' H' (Is (.ref L)) ∧ Jn U H' ∧ ∀ H2, Le U H' H2 → Jn U H2 → Q (.ref L) H2) (fun σ' H' Q => ∃ n, R X U i σ' H' (Is (.int n)) ∧ Jn U H' ∧ ∀ H2, Le U H' H2 → Jn U H2 → Q (.int n) H2) rSetL) he
    (pg_sub ⟨fun pins s σ' H' Q I ⟨L, r, j, q⟩ => r.run pins s σ' H' Q I ⟨rfl, Le.refl _, j, fun v H2 l2 j2 e => e ▸ q H2 l2 j2⟩⟩ ⟨fun pins s σ' H' Q I ⟨L, r, j, q⟩ => r.run pins s σ' H' Q I ⟨rfl, Le.refl _, j, fun v H2 l2 j2 e => e ▸ q H2 l2 j2⟩⟩ set_list ha) hs hw h1) ⟨rfl, Le.refl _, hj, fun v H1 l j p => ?_⟩
  obtain ⟨L, xs, kk, jj, r1, r2, hL, nm, hi, kk'⟩ := k v H1 l j p
  refine ⟨L, r1, j, fun H2 l2 j2 => ⟨kk, r2.mono l2, j2, fun H3 l3 j3 => ⟨L, xs, kk, jj, rfl, rfl, l3.keep _ _ nm (l2.keep _ _ nm hL), hi, kk' H3 (l2.trans l3) j3 (l3.keep _ _ nm (l2.keep _ _ nm hL))⟩⟩⟩
/-- o[i], o[j] = a, b of one list -/
theorem S.swapL {o o' i i' : Expr} {tp tp' tq : Pos} {kt : Nat} (hc : X.calm = true) (hj : Jn U H) (he : R X U e σ H P) (k : ∀ v H1, Le U H H1 → Jn U H1 → P v H1 → ∃ T a b L xs k1 k2 j1 j2, v = .ref T ∧ H1 T = some (.tup [a, b]) ∧ R X U o σ H1 (Is (.ref L)) ∧ R X U i σ H1 (Is (.int k1)) ∧ (∀ H2, R X U o' σ H2 (Is (.ref L))) ∧ (∀ H2, R X U i' σ H2 (Is (.int k2))) ∧ H1 L = some (.lst xs) ∧ ¬ Mv U L ∧
    ixN xs.length k1 = some j1 ∧ ixN xs.length k2 = some j2 ∧ ∀ H2, Tk H1 H2 → Jn U H2 → (∀ q ob, q ≠ L → ¬ Mv U q → H1 q = some ob → H2 q = some ob) → H2 L = some (.lst ((xs.set j1 a).set j2 b)) → S X rest σ H2 D)
    (hs : swapsWithSole [.Tuple [.Subscript o i tp, .Subscript o' i' tp'] kt tq] e pos.line X.env = pure false := by rfl) (hw : swappedStores [.Tuple [.Subscript o i tp, .Subscript o' i' tp'] kt tq] e X.env = pure none := by rfl)
    (h1 : (assignEach [.Tuple [.Subscript o i tp, .Subscript o' i' tp'] kt tq] X.env).map (·.2) = [assign (.Tuple [.Subscript o i tp, .Subscript o' i' tp'] kt tq) X.env] := by rfl)
    (ha : ∀ v, assign (.Subscript o i tp) X.env v = (do
      let ov ← holding [v] (eval o X.env)
      let iv ← holding [v, ov] (eval i X.env)
      standAt tp
      holding [v, ov, iv] (setItem ov iv v)
      release [v, ov, iv] []) := by intro _; rfl)
    (ha' : ∀ v, assign (.Subscript o' i' tp') X.env v = (do
      let ov ← holding [v] (eval o' X.env)
      let iv ← holding [v, ov] (eval i' X.env)
      standAt tp'
      holding [v, ov, iv] (setItem ov iv v)
      release [v, ov, iv] []) := by intro _; rfl)
    (a1 : (assignEach [.Subscript o i tp, .Subscript o' i' tp'] X.env).map (·.2) = assign (.Subscript o i tp) X.env :: (assignEach [.Subscript o' i' tp'] X.env).map (·.2) := by rfl)
    (a2 : (assignEach [.Subscript o' i' tp'] X.env).map (·.2) = assign (.Subscript o' i' tp') X.env :: (assignEach [] X.env).map (·.2) := by rfl)
    (hn : (assignEach [.Subscript o i tp, .Subscript o' i' tp'] X.env).length = 2 := by rfl) (hst : (assignEach [.Subscript o i tp, .Subscript o' i' tp'] X.env).findIdx? (·.1) = none := by rfl) :
    S X (.Assign [.Tuple [.Subscript o i tp, .Subscript o' i' tp'] kt tq] e pos :: rest) σ H D := by
  have E : ∀ x : Expr, PE X x (fun σ' H' Q => ∃ w, R X U x σ' H' (Is w) ∧ Jn U H' ∧ ∀ H2, Le U H' H2 → Jn U H2 → Q w H2) := fun x => ⟨fun pins s σ' H' Q I ⟨L, r, j, q⟩ => r.run pins s σ' H' Q I ⟨rfl, Le.refl _, j, fun v H2 l2 j2 e => e ▸ q H2 l2 j2⟩⟩
  refine S.stp (ps_asg he (pg_tup (n := 2) hc (pgs_cons (pg_sub (E o) (E i) set_list ha) (pgs_cons (pg_sub (E o') (E i') set_list ha') pgs_nil a2) a1) hn hst) hs hw h1) ⟨rfl, Le.refl _, hj, fun v H1 l j p => ?_⟩
  obtain ⟨T, a, b, L, xs, k1, k2, j1, j2, e1, hT, r1, r2, r3, r4, hL, nm, i1, i2, kk⟩ := k v H1 l j p
  refine ⟨T, [a, b], e1, .inl (.inl hT), rfl, a, [b], rfl, .ref L, r1, j, fun H2 l2 jn2 => ⟨.int k1, r2.mono l2, jn2, fun H3 l3 jn3 => ?_⟩⟩
  have hL3 := l3.keep _ _ nm (l2.keep _ _ nm hL)
  have t3 : Tk H1 (upd H3 L (.lst (xs.set j1 a))) := (l2.trans l3).tup.trans (upd_tk hL3)
  refine ⟨L, xs, k1, j1, rfl, rfl, hL3, i1, b, [], rfl, .ref L, r3 _, upd_jn nm jn3, fun H4 l4 jn4 => ⟨.int k2, r4 _, jn4, fun H5 l5 jn5 => ?_⟩⟩
  have hL5 := l5.keep _ _ nm (l4.keep _ _ nm (upd_same (H := H3) (a := L) (o := .lst (xs.set j1 a))))
  refine ⟨L, xs.set j1 a, k2, j2, rfl, rfl, hL5, by rw [List.length_set]; exact i2, rfl, kk _ ((t3.trans (l4.trans l5).tup).trans (upd_tk hL5)) (upd_jn nm jn5) (fun q ob hq hm ho => ?_) upd_same⟩
  rw [upd_ne hq]
  refine (l4.trans l5).keep _ _ hm ?_
  rw [upd_ne hq]
  exact (l2.trans l3).keep _ _ hm ho
/-- list(x) of a list: a new one -/
theorem R.listL {p : Addr} {xs : List V} (hj : Jn U H) (hg : Gl X "list") (hm : X.mg "list" = none) (ht : H p = some (.lst xs)) (nm : ¬ Mv U p) (ha : R X U a σ H (Is (.ref p)))
    (h1 : starEach [a] X.env = (false, eval a X.env) :: starEach [] X.env := by rfl) (h2 : (backTo pos (starEach [] X.env)).any (·.1) = false := by rfl) : R X U (.Call (.Name "list" q) [a] [] pos) σ H (NLs U H fun vs _ => vs = xs) :=
  R.callTy call_list_of hg hm PyProof.Rows.boot_list (RA.last ha h1) (fun vs H1 l j ⟨v, r, e, e1, e2⟩ Q k => by
    cases e1; cases e2
    exact ⟨p, xs, e, .inl (.inl (.inl (l.keep _ _ nm ht))), fun L hL => k _ _ (Le.new j hL) ((Le.new j hL).jn j) ⟨L, xs, rfl, l.fresh hj hL, Le.nmv j hL, upd_same, rfl⟩⟩) (by decide) (by decide) h1 h2
theorem R.listT {p : Addr} {xs : List V} (hj : Jn U H) (hg : Gl X "list") (hm : X.mg "list" = none) (ht : H p = some (.tup xs)) (ha : R X U a σ H (Is (.ref p)))
    (h1 : starEach [a] X.env = (false, eval a X.env) :: starEach [] X.env := by rfl) (h2 : (backTo pos (starEach [] X.env)).any (·.1) = false := by rfl) : R X U (.Call (.Name "list" q) [a] [] pos) σ H (NLs U H fun vs _ => vs = xs) :=
  R.callTy call_list_of hg hm PyProof.Rows.boot_list (RA.last ha h1) (fun vs H1 l j ⟨v, r, e, e1, e2⟩ Q k => by
    cases e1; cases e2
    exact ⟨p, xs, e, .inr (.inl (.inl (l.tup _ _ ht))), fun L hL => k _ _ (Le.new j hL) ((Le.new j hL).jn j) ⟨L, xs, rfl, l.fresh hj hL, Le.nmv j hL, upd_same, rfl⟩⟩) (by decide) (by decide) h1 h2
/-- min(..) of a new list of ints -/
theorem R.minN {H0 : Hp} {ns : List Int} {Qs : List V → Hp → Prop} (hq : ∀ vs H1, Qs vs H1 → vs = ns.map V.int) (hn : 0 < ns.length) (hc : X.calm = true) (hg : Gl X "min") (hm : X.mg "min" = none) (ha : R X U a σ H (NLs U H0 Qs))
    (h1 : starEach [a] X.env = (false, eval a X.env) :: starEach [] X.env := by rfl) (h2 : (backTo pos (starEach [] X.env)).any (·.1) = false := by rfl) : R X U (.Call (.Name "min" q) [a] [] pos) σ H (In fun m => m ∈ ns ∧ ∀ y ∈ ns, m ≤ y) :=
  R.callB (cr_min hc) hg hm PyProof.Rows.boot_min (RA.last ha h1) (fun vs H1 l j ⟨v, r, e, ⟨L, us, e1, _, _, hL, hu⟩, e2⟩ Q k => by
    cases e1; cases e2
    have := hq us H1 hu
    subst this
    exact ⟨L, ns, e, .inl (.inl hL), hn, fun m hm hy => k _ H1 (Le.refl _) j ⟨m, rfl, hm, hy⟩⟩) (by decide) (by decide) h1 h2
/-- xs.index(e) of ints -/
theorem R.index {p : Addr} {ns : List Int} {m : Int} {apos : Pos} (ht : H p = some (.lst (ns.map V.int))) (nm : ¬ Mv U p) (hm : m ∈ ns) (ha : R X U a σ H (Is (.ref p))) (hb : R X U b σ H (Is (.int m)))
    (h1 : starEach [b] X.env = (false, eval b X.env) :: starEach [] X.env := by rfl) (pb : PE X (.Call (.Attribute a "index" apos) [b] [] pos) (tBM X.K "list" (rIndex X.K) (tR U σ H (Is (.ref p))) (tRA U σ H (A2 (Is (.int m)) A0)))) :
    R X U (.Call (.Attribute a "index" apos) [b] [] pos) σ H (In fun i => ∃ k : Nat, i = k ∧ ns[k]? = some m) :=
  R.of pb fun H1 l j Q k => ⟨rfl, l, j, fun v H2 l2 j2 e => ⟨by
      cases e
      exact .inl ⟨rfl, _, .inl (.inl (l2.keep _ _ nm (l.keep _ _ nm ht)))⟩, rfl, l.trans l2, j2, fun vs H3 l3 j3 ⟨w, r, e', e1, e2⟩ => by
      cases e; cases e1; cases e2; subst e'
      have hL3 := l3.keep _ _ nm (l2.keep _ _ nm (l.keep _ _ nm ht))
      -- the first place
      have hex : ∃ i : Nat, ns[i]? = some m := List.mem_iff_getElem?.mp hm
      have hfx : ∃ i : Nat, ns[i]? = some m ∧ ∀ i' : Nat, i' < i → ns[i']? ≠ some m := by
        obtain ⟨i, hi⟩ := hex
        induction i using Nat.strongRecOn with
        | ind i ih =>
          by_cases h : ∃ i' : Nat, i' < i ∧ ns[i']? = some m
          · obtain ⟨i', h1, h2⟩ := h
            exact ih i' h1 h2
          · exact ⟨i, hi, fun i' h1 h2 => h ⟨i', h1, h2⟩⟩
      obtain ⟨i, hi, hf⟩ := hfx
      refine ⟨p, ns.map V.int, .int m, i, .int m, rfl, rfl, .inl (.inl hL3), rfl, ?_, by rw [List.getElem?_map, hi]; rfl, ?_, fun i' z h1 h2 => ?_, k _ H3 (l2.trans l3) j3 ⟨_, rfl, i, rfl, hi⟩⟩
      · rw [List.all_eq_true]; intro x hx; obtain ⟨y, _, rfl⟩ := List.mem_map.mp hx; rfl
      · show eqV (.int m) (.int m) = true
        simp [eqV]
      · rw [List.getElem?_map] at h2
        obtain ⟨y, hy, rfl⟩ := Option.map_eq_some_iff.mp h2
        have : y ≠ m := fun z => hf i' h1 (z ▸ hy)
        show eqV (.int y) (.int m) = false
        simp [eqV, this]⟩⟩
theorem range_getD (ns : List Int) : (List.range ns.length).map (fun i => ns.getD i 0) = ns := by
  apply List.ext_getElem?
  intro i
  by_cases hi : i < ns.length
  · rw [List.getElem?_map, List.getElem?_range hi]; simp [hi]
  · rw [List.getElem?_eq_none (by simp; omega), List.getElem?_eq_none (by omega)]
theorem given_filter (ns : List Int) (p : Int → Bool) : Evl.given ns.length (fun i => p (ns.getD i 0)) (fun i => V.int (ns.getD i 0)) = (ns.filter p).map V.int := by
  unfold Evl.given
  conv => rhs; rw [← range_getD ns, List.filter_map, List.map_map]
  rfl
end
end K62
end
section
set_option Elab.async false
set_option linter.all false
set_option maxRecDepth 100000
set_option maxHeartbeats 4000000
/-! Rules that HandS does not bring. -/
namespace K62
open PySem PySem.Spec PyProof.Rows L2
/-! ### tuple * 1 -/
theorem mul1_meets (l : Addr) (items : Array Value) (n : Nat) (dd : Option Addr) (sl : Array (Option Value)) (u : Tok) :
    Meets (Builtin.«tuple.__mul__» ⟨[.ref l, .int 1 u], []⟩) (fun _ R s => s.heap.get? l = some { cls := .type "tuple", dict := dd, data := .seq items n, slots := sl } ∧ R (.ok (.ret (.ref l))) s) := by
  refine .of_wp fun prog w A R s h => ?_
  obtain ⟨hp, g, d, tk, os⟩ := s
  obtain ⟨hl, h⟩ := h
  have f1 := AutoSeq1.idx_int
  have c1 : (items.isEmpty || (1 : Int) == 1) = true := by simp
  wp_walk using wpAny_loadPart' hl
  repeat (first
    | (refine wpAny_ite_true (decide_eq_true (by rw [c1])) ?_; wp_walk using wpAny_loadPart' hl)
    | (refine wpAny_ite_true (by simp) ?_; wp_walk using wpAny_loadPart' hl))
  exact ⟨_, rfl, h⟩
section
variable {X : Cx} {U : UA} {σ : L2.St} {H : Hp} {e a b c : Expr} {es : List Expr} {P Pa Pb : VP} {pos q : Pos}
theorem op_rep1 : OpR X (binaryOp .Mult) (fun x y H Q => ∃ l xs, x = .ref l ∧ y = .int 1 ∧ SqT X.K H l xs ∧ Q (.ref l) H) := by
  rintro pins s σ H x y v u Q I rx ry ⟨l, xs, rfl, rfl, hT, k⟩
  cases rx
  obtain ⟨tk, rfl⟩ := ry
  obtain ⟨its, r, ⟨⟨cls, dd, data, sl⟩, ho, hc, n, hd⟩, _⟩ := I.tuple hT
  simp only at hc hd
  subst hc hd
  have m1 := int_rmul_tuple 1 tk l its.toArray n dd sl
  have m2 := mul1_meets l its.toArray n dd sl tk
  exact wpAny_binaryOp_repeat_ref (T := "tuple") (U := "int") (by decide) ⟨_, ho, rfl⟩
    (fun s' => typeIs_int s' 1 tk) noFill_tuple_mul F.fills_int_mul F.slot_int_rmul repeat_tuple F.slot_int_index.lookup
    (call_meets F.slot_int_rmul (typeIs_int s 1 tk) F.entry_int_rmul (F.args_int_rmul_2 _ _) m1
      ⟨ho, rfl, ⟨_, ho, rfl⟩, call_meets F.slot_tuple_mul ⟨_, ho, rfl⟩ F.entry_tuple_mul (F.args_tuple_mul_2 _ _) m2
        ⟨ho, .ref l, H, I, rfl, k⟩⟩)
/-- (v,) * n -/
theorem R.repT {v : V} {n : Nat} (h1 : 1 ≤ n) (h2 : n ≤ 1000) (ha : R X U a σ H (NT [v])) (hb : R X U b σ H (Is (.int n))) : R X U (.BinOp a .Mult b pos) σ H (NT (List.replicate n v)) := by
  by_cases e : n = 1
  · subst e
    refine R.op op_rep1 ha hb ?_
    rintro x y H1 l j ⟨p, rfl, hp⟩ rfl Q k
    exact ⟨p, [v], rfl, rfl, .inl (.inl hp), k _ H1 (Le.refl _) j ⟨p, rfl, hp⟩⟩
  · refine R.op op_repT ha hb ?_
    rintro x y H1 l j ⟨p, rfl, hp⟩ rfl Q k
    refine ⟨p, n, [v], rfl, rfl, .inl (.inl hp), by simp, by omega, by omega, by simp, fun t ht => k _ _ (Le.new j ht) ((Le.new j ht).jn j) ⟨t, rfl, ?_⟩⟩
    rw [upd_same, Int.toNat_natCast]
    congr 2
    clear h1 h2 hb e k
    induction n with
    | zero => rfl
    | succ n ih => rw [List.replicate_succ, List.flatten_cons, ih]; rfl
end
end K62
end
section
set_option Elab.async false
set_option linter.all false
set_option maxRecDepth 100000
set_option maxHeartbeats 4000000
/-! zip of lists and tuples mixed, of three; enumerate of a tuple. -/
namespace K62
open PySem PySem.Spec PyProof.Rows L2
def SqB (b : Bool) (K : PySem.W.Frag) (H : Hp) (a : Addr) (xs : List V) : Prop := match b with
  | true => SqL K H a xs
  | false => SqT K H a xs
def ItB (b : Bool) (h : Heap) (it a : Addr) (i : Nat) : Prop := match b with
  | true => h.IsListIter it a i
  | false => h.IsTupleIter it a i
def SeqB (b : Bool) (h : Heap) (a : Addr) (its : Array Value) : Prop := match b with
  | true => h.IsList a its
  | false => h.IsTuple a its
def obB (b : Bool) (a : Addr) : Obj := match b with
  | true => { cls := .type "list_iterator", data := .fields #[.ref a, .int 0 0] }
  | false => { cls := .type "tuple_iterator", data := .fields #[.ref a, .int 0 0] }
theorem drawsB {prog : Program} {w : World} {A : Around} {b : Bool} {it a : Addr} {its : Array Value} (hh : A.handled = none) (hne : a ≠ it) :
    Draws prog w A it [it, a] its.size (fun i v => its[i]? = some v) (fun i h => ItB b h it a i ∧ SeqB b h a its) := by
  cases b
  · exact Draws.tuple hh it a hne its
  · exact Draws.list hh it a hne its
theorem beginsB {b : Bool} {a : Addr} {its : Array Value} : Begins (.ref a) (obB b a) (fun h => SeqB b h a its) := by
  cases b
  · exact begins_tuple a its
  · exact begins_list a its
theorem itB_0 {b : Bool} {h : Heap} {it a : Addr} (e : h.get? it = some (obB b a)) : ItB b h it a 0 := by
  cases b
  · exact ⟨_, e, rfl, rfl⟩
  · exact ⟨_, e, rfl, rfl⟩
theorem ItB.ob {b : Bool} {h : Heap} {it a : Addr} {i : Nat} (st : ItB b h it a i) : ∃ o, h.get? it = some o ∧ ∀ v, o.data ≠ .cell v := by
  cases b
  · obtain ⟨o, e, _, d⟩ := st; exact ⟨o, e, fun v q => by rw [d] at q; cases q⟩
  · obtain ⟨o, e, _, d⟩ := st; exact ⟨o, e, fun v q => by rw [d] at q; cases q⟩
theorem ItB.at {b : Bool} {h h' : Heap} {it a : Addr} {i : Nat} (st : ItB b h it a i) (k : ∀ o, h.get? it = some o → h'.get? it = some o) : ItB b h' it a i := by
  cases b
  · exact Heap.IsTupleIter.at st k
  · exact Heap.IsListIter.at st k
theorem inv_seqB {X : Cx} {pins : List (Addr × Obj)} {σ : L2.St} {H : Hp} {s : Shared} {b : Bool} {a : Addr} {xs : List V} (I : Inv X pins σ H s) (h : SqB b X.K H a xs) : ∃ its, Vals xs its ∧ SeqB b s.heap a its.toArray ∧ ∃ o, s.heap.get? a = some o := by
  cases b
  · obtain ⟨its, rv, p, _⟩ := I.tuple h
    obtain ⟨o, ho, q⟩ := id p
    exact ⟨its, rv, (show s.heap.IsTuple a its.toArray from p), o, ho⟩
  · obtain ⟨its, rv, p, _⟩ := I.list h
    obtain ⟨o, ho, q⟩ := id p.isList
    exact ⟨its, rv, p.isList, o, ho⟩
theorem inv_inj {X : Cx} {pins : List (Addr × Obj)} {σ : L2.St} {H : Hp} {s : Shared} {b : Bool} {a : Addr} {xs ys : List V} (I : Inv X pins σ H s) (h : SqB b X.K H a xs) (h' : SqB b X.K H a ys) : xs = ys := by
  cases b
  · exact I.tuple_inj h h'
  · exact I.list_inj h h'

/-! ### enumerate -/
def ItE (b : Bool) (K : PySem.W.Frag) (a : Addr) : It :=
  ⟨fun i H => ∃ (xs : List V) (x : V), SqB b K H a xs ∧ xs[i]? = some x,
    fun i H v H' => ∃ T x, v = .ref T ∧ H T = none ∧ H' = upd H T (.tup [.int (i : Nat), x]) ∧ ∀ xs, SqB b K H a xs → xs[i]? = some x,
    fun i H => ∃ xs : List V, SqB b K H a xs ∧ xs.length = i⟩
theorem turnE {P : Program} {w : World} {K : PySem.W.Frag} {elts : List Expr} {kk : Nat} {tpos : Pos} {b : Bool} {a e it : Addr} (hae : a ≠ e) (hai : a ≠ it) :
    Turn P w K (.Tuple elts kk tpos) (ItE b K a) [e, it] e (fun i h => (∃ old, IsEnum h e it ((i : Nat) : Int) old) ∧ ItB b h it a i ∧ e ≠ it) where
  mem := by simp
  obj := fun i h st c hc => by
    obtain ⟨⟨old, he⟩, hi, _⟩ := st
    have e' : c = e ∨ c = it := by simpa using hc
    rcases e' with z | z
    · rw [z]; exact ⟨_, he, fun v q => nomatch q⟩
    · rw [z]; exact hi.ob
  keep := fun i h h' st k => let ⟨⟨old, he⟩, hi, hne⟩ := st; ⟨⟨old, k e (by simp) _ he⟩, hi.at fun o q => k it (by simp) o q, hne⟩
  item := by
    intro X hP hw hK hc i pins s σ H E I hf st hg
    subst hP hw hK
    obtain ⟨⟨old, he⟩, hit, hne⟩ := st
    obtain ⟨xs, x, hq, hx⟩ := hg
    obtain ⟨its, rv, p, _⟩ := inv_seqB I hq
    obtain ⟨u, hu, ru⟩ := rv.get hx
    have hu : its.toArray[i]? = some u := by simpa using hu
    have hlt : i < its.toArray.size := (Array.getElem?_eq_some_iff.mp hu).1
    have hel : e < s.heap.objs.size := Heap.lt_size he
    have hil : it < s.heap.objs.size := by obtain ⟨_, q, _⟩ := hit.ob; exact Heap.lt_size q
    refine wpAny_pyNext_enum_itemC (drawsB (A := X.A.in1) (I.ok.hd hc) hai) he ⟨hit, p⟩ hlt hne (by simp; exact ⟨hne, Ne.symm hae⟩) fun y h' tk hy ho hst hT hsz hk => ?_
    obtain rfl : u = y := Option.some.inj (hu.symm.trans hy)
    refine ⟨_, rfl, wpAny_letOwnedTupleGo_enum (s := { s with heap := h', toks := tk + 1 }) ho fun h'' he' sb => ?_⟩
    have hT2 : h''.get? s.heap.objs.size = some { cls := .type "tuple", data := .seq #[.int i tk, u] } := (sb.2 _ (Nat.ne_of_gt hel)).trans hT
    have new : ObjOk X.prog X.w (upd H s.heap.objs.size (.tup [.int (i : Nat), x])) h'' s.heap.objs.size (.tup [.int (i : Nat), x]) :=
      ⟨by show 2 ≤ sizeLine; decide, [.int i tk, u], .cons ⟨_, rfl⟩ (.cons ru .nil), ⟨_, hT2, rfl, _, rfl⟩⟩
    have I1 : Inv X pins σ (upd H s.heap.objs.size (.tup [.int (i : Nat), x])) { s with heap := h'', toks := tk + 1 } :=
      I.turnedNew (t' := tk + 1) (ch := [e, it]) (fun c ob hb q => (sb.2 c (fun z => hb (by simp [z]))).trans (hk c ob (fun z => hb (by simp [z])) (fun z => hb (by simp [z])) q)) hf (Nat.le_refl _) new
    refine ⟨.ref s.heap.objs.size, _, I1, rfl, ⟨_, x, rfl, I.hok.fresh (Nat.le_refl _), rfl, fun ys hy => by rw [inv_inj I hy hq]; exact hx⟩, ⟨⟨u, ?_⟩, hst.1.at fun o q => (sb.2 it (Ne.symm hne)).trans q, hne⟩, fun c hb => ?_⟩
    · have e1 : ((i + 1 : Nat) : Int) = (i : Int) + 1 := by omega
      rw [e1]; exact he'
    · have hb' : c < s.heap.objs.size := by
        have e' : c = e ∨ c = it := by simpa using hb
        rcases e' with z | z
        · rw [z]; exact hel
        · rw [z]; exact hil
      rw [upd_ne (Nat.ne_of_lt hb')]
      exact (hf c hb).1
  done := by
    intro X hP hw hK hc i pins s σ H E I hf st hg
    subst hP hw hK
    obtain ⟨⟨old, he⟩, hit, hne⟩ := st
    obtain ⟨xs, hq, hx⟩ := hg
    obtain ⟨its, rv, p, _⟩ := inv_seqB I hq
    obtain ⟨f0, f1, f2, f3, f4, f5⟩ := hf it (by simp)
    have hl := rv.length
    have hi : i = its.toArray.size := by simp; omega
    subst hi
    exact wpAny_pyNext_enum_endD (drawsB (A := X.A.in1) (I.ok.hd hc) hai) he ⟨hit, p⟩ fun h' eb => ⟨rfl, I.turned (t' := s.toks) (fun c o hb q => eb c o hb q) f0 f1 f3 f4 f5⟩
  self := fun A i s Q E st h => let ⟨⟨_, he⟩, _⟩ := st; wpAny_pyIter_enum he h
theorem meets_enum1 {v : Value} {o : Obj} {Hq : Heap → Prop} (B : Begins v o Hq) :
    Meets (Builtin.«enumerate.__new__» ⟨[.type "enumerate", v], []⟩) (fun _ R s => Hq s.heap ∧
      R (.ok (.ret (.ref (s.heap.push o).objs.size))) { s with heap := (s.heap.push o).push { cls := .type "enumerate", data := .fields #[.none, .bool false, .ref s.heap.objs.size, rawInt 0, .none, .none] } }) := by
  refine .of_wp fun prog w A R s h => ?_
  obtain ⟨hp, g, d, tk, os⟩ := s
  obtain ⟨h1, h⟩ := h
  have hsub := sub_enumerate
  have q1 : ∀ {A' : Around} {E : Value → Shared → Prop} {Q : Value → Shared → Prop}, Q (.ref hp.objs.size) ⟨hp.push o, g, d, tk, os⟩ → wpAny (model prog w) A' (pyIter v) Q E ⟨hp, g, d, tk, os⟩ :=
    fun q => B.iter prog w _ _ ⟨hp, g, d, tk, os⟩ _ h1 q
  wp_walk using q1
  refine wpAny_stack_any fun st => wpAny_pure ?_
  split
  · rename_i c _ _ _ _ _
    cases (c == Value.type "enumerate") <;> (wp_walk using q1; exact ⟨_, rfl, h⟩)
  · wp_walk using q1
    exact ⟨_, rfl, h⟩
theorem call_enumB {prog : Program} {w : World} {A : Around} {E : Value → Shared → Prop} {s : Shared} {v : Value} {o : Obj} {Hq : Heap → Prop} {Q : Value → Shared → Prop} (B : Begins v o Hq) (h1 : Hq s.heap)
    (h : ∀ h', IsEnum h' (s.heap.objs.size + 1) s.heap.objs.size 0 .none → h'.get? s.heap.objs.size = some o → (∀ b o, s.heap.get? b = some o → h'.get? b = some o) → Q (.ref (s.heap.objs.size + 1)) { s with heap := h' }) :
    wpAny (model prog w) A (call (.type "enumerate") [v]) Q E s := by
  refine callType_new F.called_enumerate (by decide) (F.typeCall_enumerate_1 _) (F.newCall_enumerate_1 _) (fun obj => F.args_object_init_2 obj _) F.entry_enumerate_new (meets_enum1 B) ⟨h1, ?_⟩
  have hz : (s.heap.push o).objs.size = s.heap.objs.size + 1 := Heap.size_push ..
  show _ ∧ _
  rw [hz]
  have he : IsEnum ((s.heap.push o).push { cls := .type "enumerate", data := .fields #[.none, .bool false, .ref s.heap.objs.size, rawInt 0, .none, .none] }) (s.heap.objs.size + 1) s.heap.objs.size 0 .none := by
    have := Heap.get?_push_size (s.heap.push o) (o := { cls := .type "enumerate", data := .fields #[.none, .bool false, .ref s.heap.objs.size, rawInt 0, .none, .none] }) rfl
    rw [hz] at this
    exact this
  exact ⟨⟨_, he, rfl⟩, h _ he (Heap.get?_push_of_some _ (Heap.get?_push_size _ B.free)) fun b ob x => Heap.get?_push_of_some _ (Heap.get?_push_of_some _ x)⟩
def iEnumB (K : PySem.W.Frag) (ta : TA) : TI := fun σ H R => ta σ H fun vs H1 => ∃ b a xs, vs = [.ref a] ∧ SqB b K H1 a xs ∧ R (ItE b K a) H1
theorem pi_enumB {X : Cx} {e : Expr} {ta : TA} {p pos tpos : Pos} {elts : List Expr} {kk : Nat} (hg : Gl X "enumerate") (hm : X.mg "enumerate" = none) (ha : PA X [e] ta) (hs : starEach [e] X.env = [(false, eval e X.env)] := by rfl) :
    PI X (.Tuple elts kk tpos) (.Call (.Name "enumerate" p) [e] [] pos) (iEnumB X.K ta) := by
  refine ⟨fun pins s σ H R I h => ?_⟩
  refine Call_ (ld_blt I hg hm boot_enumerate (PyProof.Rows.callWith_type1 (thn (ha.run pos pins s σ H _ I h) fun us s1 ⟨vs, H1, I1, r1, q1⟩ => ?_) hs rfl))
  obtain ⟨b, a, xs, ex, hq, q⟩ := q1
  subst ex
  cases r1 with
  | cons r rr =>
    cases rr
    cases r
    obtain ⟨its, rv, p', oa, hoa⟩ := inv_seqB I1 hq
    have hal := Heap.lt_size hoa
    refine call_enumB (beginsB (b := b) (its := its.toArray)) p' fun h' he hit hk => wpAny_pyIter_enum he ?_
    have I2 : Inv X pins σ H1 { s1 with heap := h' } := I1.kept (t' := s1.toks) hk
    refine ⟨s1.heap.objs.size + 1, [s1.heap.objs.size + 1, s1.heap.objs.size], _, _, H1, rfl, I2, turnE (Nat.ne_of_lt (Nat.lt_succ_of_lt hal)) (Nat.ne_of_lt hal), ⟨⟨.none, he⟩, itB_0 hit, Nat.succ_ne_self _⟩, fun c hc => ?_, q⟩
    have e' : c = s1.heap.objs.size + 1 ∨ c = s1.heap.objs.size := by simpa using hc
    have hle : s1.heap.objs.size ≤ c := by
      rcases e' with z | z
      · rw [z]; exact Nat.le_add_right _ _
      · rw [z]; exact Nat.le_refl _
    exact I1.fpOk hle (I1.hok.fresh hle)

/-! ### zip of two, of three -/
def ItZ2 (b1 b2 : Bool) (K : PySem.W.Frag) (a1 a2 : Addr) : It :=
  ⟨fun i H => ∃ (xs ys : List V) (x y : V), (SqB b1 K H a1 xs ∧ xs[i]? = some x) ∧ SqB b2 K H a2 ys ∧ ys[i]? = some y,
    fun i H v H' => ∃ T x y, v = .ref T ∧ H T = none ∧ H' = upd H T (.tup [x, y]) ∧ (∀ xs, SqB b1 K H a1 xs → xs[i]? = some x) ∧ ∀ ys, SqB b2 K H a2 ys → ys[i]? = some y,
    fun i H => ∃ xs ys : List V, SqB b1 K H a1 xs ∧ SqB b2 K H a2 ys ∧ (i ≤ xs.length ∧ i ≤ ys.length) ∧ (i = xs.length ∨ i = ys.length)⟩
structure SepZ2 (z TI TO i1 i2 a1 a2 : Addr) : Prop where
  S : ZipSep2 z TI TO i1 i2 [i1, a1] [i2, a2]
  n1 : a1 ≠ i1
  n2 : a2 ≠ i2
theorem turnZ2 {P : Program} {w : World} {K : PySem.W.Frag} {elts : List Expr} {kk : Nat} {tpos : Pos} {b1 b2 : Bool} {z TI TO i1 i2 a1 a2 : Addr} (D : SepZ2 z TI TO i1 i2 a1 a2) :
    Turn P w K (.Tuple elts kk tpos) (ItZ2 b1 b2 K a1 a2) [z, TI, TO, i1, i2] z (fun i h => IsZip h z TI TO .none ∧ IsTupOf2 h TI (.ref i1) (.ref i2) ∧ (∃ x y, IsTupOf2 h TO x y) ∧ ItB b1 h i1 a1 i ∧ ItB b2 h i2 a2 i) where
  mem := by simp
  obj := fun i h st c hc => by
    obtain ⟨hz, hTI, ⟨x, y, hTO⟩, h1, h2⟩ := st
    have e' : c = z ∨ c = TI ∨ c = TO ∨ c = i1 ∨ c = i2 := by simpa using hc
    rcases e' with q | q | q | q | q
    · rw [q]; exact ⟨_, hz, fun v q => nomatch q⟩
    · rw [q]; exact ⟨_, hTI, fun v q => nomatch q⟩
    · rw [q]; exact ⟨_, hTO, fun v q => nomatch q⟩
    · rw [q]; exact h1.ob
    · rw [q]; exact h2.ob
  keep := fun i h h' st k => by
    obtain ⟨hz, hTI, ⟨x, y, hTO⟩, h1, h2⟩ := st
    exact ⟨k z (by simp) _ hz, k TI (by simp) _ hTI, ⟨x, y, k TO (by simp) _ hTO⟩, h1.at fun o q => k i1 (by simp) o q, h2.at fun o q => k i2 (by simp) o q⟩
  item := by
    intro X hP hw hK hc i pins s σ H E I hf st hg
    subst hP hw hK
    obtain ⟨hz, hTI, ⟨x0, y0, hTO⟩, h1, h2⟩ := st
    obtain ⟨xs, ys, x, y, ⟨hqx, hx⟩, hqy, hy⟩ := hg
    obtain ⟨its, rv, p, _⟩ := inv_seqB I hqx
    obtain ⟨its2, rv2, p2, _⟩ := inv_seqB I hqy
    obtain ⟨u, hu, ru⟩ := rv.get hx
    obtain ⟨u2, hu2, ru2⟩ := rv2.get hy
    have hu : its.toArray[i]? = some u := by simpa using hu
    have hu2 : its2.toArray[i]? = some u2 := by simpa using hu2
    have hzl : z < s.heap.objs.size := Heap.lt_size hz
    refine wpAny_pyNext_zipD2_item D.S (drawsB (A := X.A.in1) (I.ok.hd hc) D.n1) (drawsB (A := X.A.in1) (I.ok.hd hc) D.n2) hz hTI hTO ⟨h1, p⟩ ⟨h2, p2⟩ (Array.getElem?_eq_some_iff.mp hu).1 (Array.getElem?_eq_some_iff.mp hu2).1 fun v1 v2 h' tk e1 e2 z' TO' st1 st2 hT hsz hk => ?_
    obtain rfl : u = v1 := Option.some.inj (hu.symm.trans e1)
    obtain rfl : u2 = v2 := Option.some.inj (hu2.symm.trans e2)
    refine ⟨_, rfl, wpAny_letOwnedTupleGo_zip (s := { s with heap := h', toks := tk }) z' fun h'' z'' sb => ?_⟩
    have hT2 : h''.get? s.heap.objs.size = some { cls := .type "tuple", data := .seq #[u, u2] } := (sb.2 _ (Nat.ne_of_gt hzl)).trans hT
    have new : ObjOk X.prog X.w (upd H s.heap.objs.size (.tup [x, y])) h'' s.heap.objs.size (.tup [x, y]) :=
      ⟨by show 2 ≤ sizeLine; decide, [u, u2], .cons ru (.cons ru2 .nil), ⟨_, hT2, rfl, _, rfl⟩⟩
    have I1 : Inv X pins σ (upd H s.heap.objs.size (.tup [x, y])) { s with heap := h'', toks := tk } :=
      I.turnedNew (t' := tk) (ch := [z, TI, TO, i1, i2]) (fun c o hb q => (sb.2 c (fun q' => hb (by simp [q']))).trans (hk c o (fun q' => hb (by simp [q'])) (fun q' => hb (by simp [q'])) (fun q' => hb (by simp [q'])) (fun q' => hb (by simp [q'])) q)) hf (Nat.le_refl _) new
    refine ⟨.ref s.heap.objs.size, _, I1, rfl, ⟨_, x, y, rfl, I.hok.fresh (Nat.le_refl _), rfl, fun l hl => by rw [inv_inj I hl hqx]; exact hx, fun l hl => by rw [inv_inj I hl hqy]; exact hy⟩, ⟨z'', ?_, ⟨u, u2, ?_⟩, ?_, ?_⟩, fun c hcm => ?_⟩
    · exact (sb.2 _ D.S.TIz).trans (hk _ _ D.S.TIz D.S.TITO D.S.TIi1 D.S.TIi2 hTI)
    · exact (sb.2 _ D.S.TOz).trans TO'
    · exact st1.1.at fun o q => (sb.2 _ (Ne.symm D.S.zi1)).trans q
    · exact st2.1.at fun o q => (sb.2 _ (Ne.symm D.S.zi2)).trans q
    · have hlt : c < s.heap.objs.size := by
        have e' : c = z ∨ c = TI ∨ c = TO ∨ c = i1 ∨ c = i2 := by simpa using hcm
        rcases e' with q | q | q | q | q
        · rw [q]; exact hzl
        · rw [q]; exact Heap.lt_size hTI
        · rw [q]; exact Heap.lt_size hTO
        · rw [q]; obtain ⟨_, e1, _⟩ := h1.ob; exact Heap.lt_size e1
        · rw [q]; obtain ⟨_, e2, _⟩ := h2.ob; exact Heap.lt_size e2
      rw [upd_ne (Nat.ne_of_lt hlt)]
      exact (hf c hcm).1
  done := by
    intro X hP hw hK hc i pins s σ H E I hf st hg
    subst hP hw hK
    obtain ⟨hz, hTI, ⟨x0, y0, hTO⟩, h1, h2⟩ := st
    obtain ⟨xs, ys, hqx, hqy, ⟨b1, b2⟩, hend⟩ := hg
    obtain ⟨its, rv, p, _⟩ := inv_seqB I hqx
    obtain ⟨its2, rv2, p2, _⟩ := inv_seqB I hqy
    have l1 := rv.length
    have l2 := rv2.length
    refine wpAny_pyNext_zipD2_end D.S (drawsB (A := X.A.in1) (I.ok.hd hc) D.n1) (drawsB (A := X.A.in1) (I.ok.hd hc) D.n2) hz hTI hTO ⟨h1, p⟩ ⟨h2, p2⟩ (by simp; omega) (by simp; omega) (by simp; omega) fun h' tk hk => ⟨rfl, I.turnedL (t' := tk) (ch := [z, TI, TO, i1, i2]) (fun c o hb q =>
      hk c o (fun q' => hb (by simp [q'])) (fun q' => hb (by simp [q'])) (fun q' => hb (by simp [q'])) (fun q' => hb (by simp [q'])) q) hf⟩
  self := fun A i s Q E st h => wpAny_pyIter_zip st.1 h
def iZ2 (K : PySem.W.Frag) (ta : TA) : TI := fun σ H R => ta σ H fun vs H1 => ∃ b1 b2 a1 a2 xs ys, vs = [.ref a1, .ref a2] ∧ SqB b1 K H1 a1 xs ∧ SqB b2 K H1 a2 ys ∧ R (ItZ2 b1 b2 K a1 a2) H1
theorem pi_z2 {X : Cx} {e e2 : Expr} {ta : TA} {p pos tpos : Pos} {elts : List Expr} {kk : Nat} (hg : Gl X "zip") (hm : X.mg "zip" = none) (ha : PA X [e, e2] ta)
    (hs : starEach [e, e2] X.env = (false, eval e X.env) :: starEach [e2] X.env := by rfl) (hpl : (backTo pos (starEach [e2] X.env)).any (·.1) = false := by rfl) :
    PI X (.Tuple elts kk tpos) (.Call (.Name "zip" p) [e, e2] [] pos) (iZ2 X.K ta) := by
  refine ⟨fun pins s σ H R I h => ?_⟩
  refine Call_ (ld_blt I hg hm PyProof.Rows.boot_zip (PyProof.Rows.callWith_type1 (thn (ha.run pos pins s σ H _ I h) fun us s1 ⟨vs, H1, I1, r1, q1⟩ => ?_) hs hpl))
  obtain ⟨b1, b2, a1, a2, xs, ys, ex, hqx, hqy, q⟩ := q1
  subst ex
  cases r1 with
  | cons r rr =>
    cases rr with
    | cons r' rr =>
      cases rr
      cases r
      cases r'
      obtain ⟨its, rv, p1, o1, ho1⟩ := inv_seqB I1 hqx
      obtain ⟨its2, rv2, p2, o2, ho2⟩ := inv_seqB I1 hqy
      have hl1 := Heap.lt_size ho1
      have hl2 := Heap.lt_size ho2
      refine zip_begins2 (beginsB (b := b1) (its := its.toArray)) (beginsB (b := b2) (its := its2.toArray)) p1 p2 fun h' hz hTI hTO e1 e2 hsz hk => wpAny_pyIter_zip hz ?_
      have I2 : Inv X pins σ H1 { s1 with heap := h' } := I1.kept (t' := s1.toks) hk
      refine ⟨s1.heap.objs.size + 4, [s1.heap.objs.size + 4, s1.heap.objs.size + 2, s1.heap.objs.size + 3, s1.heap.objs.size, s1.heap.objs.size + 1], _, _, H1, rfl, I2, turnZ2 ⟨zip_sep2 (fun b hb => by simp at hb; rw [hb]; exact hl1) (fun b hb => by simp at hb; rw [hb]; exact hl2), Nat.ne_of_lt hl1, Nat.ne_of_lt (Nat.lt_succ_of_lt hl2)⟩, ⟨hz, hTI, ⟨_, _, hTO⟩, itB_0 e1, itB_0 e2⟩, fun c hcm => ?_, q⟩
      have e' : c = s1.heap.objs.size + 4 ∨ c = s1.heap.objs.size + 2 ∨ c = s1.heap.objs.size + 3 ∨ c = s1.heap.objs.size ∨ c = s1.heap.objs.size + 1 := by simpa using hcm
      have hle : s1.heap.objs.size ≤ c := by
        rcases e' with z | z | z | z | z
        · rw [z]; exact Nat.le_add_right _ _
        · rw [z]; exact Nat.le_add_right _ _
        · rw [z]; exact Nat.le_add_right _ _
        · rw [z]; exact Nat.le_refl _
        · rw [z]; exact Nat.le_add_right _ _
      exact I1.fpOk hle (I1.hok.fresh hle)
def ItZ3 (b1 b2 b3 : Bool) (K : PySem.W.Frag) (a1 a2 a3 : Addr) : It :=
  ⟨fun i H => ∃ (xs ys zs : List V) (x y z : V), (SqB b1 K H a1 xs ∧ xs[i]? = some x) ∧ (SqB b2 K H a2 ys ∧ ys[i]? = some y) ∧ SqB b3 K H a3 zs ∧ zs[i]? = some z,
    fun i H v H' => ∃ T x y z, v = .ref T ∧ H T = none ∧ H' = upd H T (.tup [x, y, z]) ∧ (∀ xs, SqB b1 K H a1 xs → xs[i]? = some x) ∧ (∀ ys, SqB b2 K H a2 ys → ys[i]? = some y) ∧ ∀ zs, SqB b3 K H a3 zs → zs[i]? = some z,
    fun i H => ∃ xs ys zs : List V, SqB b1 K H a1 xs ∧ SqB b2 K H a2 ys ∧ SqB b3 K H a3 zs ∧ (i ≤ xs.length ∧ i ≤ ys.length ∧ i ≤ zs.length) ∧ (i = xs.length ∨ i = ys.length ∨ i = zs.length)⟩
structure SepZ3 (z TI TO i1 i2 i3 a1 a2 a3 : Addr) : Prop where
  S : ZipSep3 z TI TO i1 i2 i3 [i1, a1] [i2, a2] [i3, a3]
  n1 : a1 ≠ i1
  n2 : a2 ≠ i2
  n3 : a3 ≠ i3
theorem turnZ3 {P : Program} {w : World} {K : PySem.W.Frag} {elts : List Expr} {kk : Nat} {tpos : Pos} {b1 b2 b3 : Bool} {z TI TO i1 i2 i3 a1 a2 a3 : Addr} (D : SepZ3 z TI TO i1 i2 i3 a1 a2 a3) :
    Turn P w K (.Tuple elts kk tpos) (ItZ3 b1 b2 b3 K a1 a2 a3) [z, TI, TO, i1, i2, i3] z (fun i h => IsZip h z TI TO .none ∧ IsTupOf3 h TI (.ref i1) (.ref i2) (.ref i3) ∧ (∃ x y u, IsTupOf3 h TO x y u) ∧ ItB b1 h i1 a1 i ∧ ItB b2 h i2 a2 i ∧ ItB b3 h i3 a3 i) where
  mem := by simp
  obj := fun i h st c hc => by
    obtain ⟨hz, hTI, ⟨x, y, u, hTO⟩, h1, h2, h3⟩ := st
    have e' : c = z ∨ c = TI ∨ c = TO ∨ c = i1 ∨ c = i2 ∨ c = i3 := by simpa using hc
    rcases e' with q | q | q | q | q | q
    · rw [q]; exact ⟨_, hz, fun v q => nomatch q⟩
    · rw [q]; exact ⟨_, hTI, fun v q => nomatch q⟩
    · rw [q]; exact ⟨_, hTO, fun v q => nomatch q⟩
    · rw [q]; exact h1.ob
    · rw [q]; exact h2.ob
    · rw [q]; exact h3.ob
  keep := fun i h h' st k => by
    obtain ⟨hz, hTI, ⟨x, y, u, hTO⟩, h1, h2, h3⟩ := st
    exact ⟨k z (by simp) _ hz, k TI (by simp) _ hTI, ⟨x, y, u, k TO (by simp) _ hTO⟩, h1.at fun o q => k i1 (by simp) o q, h2.at fun o q => k i2 (by simp) o q, h3.at fun o q => k i3 (by simp) o q⟩
  item := by
    intro X hP hw hK hc i pins s σ H E I hf st hg
    subst hP hw hK
    obtain ⟨hz, hTI, ⟨x0, y0, u0, hTO⟩, h1, h2, h3⟩ := st
    obtain ⟨xs, ys, zs, x, y, t, ⟨hqx, hx⟩, ⟨hqy, hy⟩, hqz, ht⟩ := hg
    obtain ⟨its, rv, p, _⟩ := inv_seqB I hqx
    obtain ⟨its2, rv2, p2, _⟩ := inv_seqB I hqy
    obtain ⟨its3, rv3, p3, _⟩ := inv_seqB I hqz
    obtain ⟨u, hu, ru⟩ := rv.get hx
    obtain ⟨u2, hu2, ru2⟩ := rv2.get hy
    obtain ⟨u3, hu3, ru3⟩ := rv3.get ht
    have hu : its.toArray[i]? = some u := by simpa using hu
    have hu2 : its2.toArray[i]? = some u2 := by simpa using hu2
    have hu3 : its3.toArray[i]? = some u3 := by simpa using hu3
    have hzl : z < s.heap.objs.size := Heap.lt_size hz
    refine wpAny_pyNext_zipD3_item D.S (drawsB (A := X.A.in1) (I.ok.hd hc) D.n1) (drawsB (A := X.A.in1) (I.ok.hd hc) D.n2) (drawsB (A := X.A.in1) (I.ok.hd hc) D.n3) hz hTI hTO ⟨h1, p⟩ ⟨h2, p2⟩ ⟨h3, p3⟩ (Array.getElem?_eq_some_iff.mp hu).1 (Array.getElem?_eq_some_iff.mp hu2).1 (Array.getElem?_eq_some_iff.mp hu3).1 fun v1 v2 v3 h' tk e1 e2 e3 z' TO' st1 st2 st3 hT hsz hk => ?_
    obtain rfl : u = v1 := Option.some.inj (hu.symm.trans e1)
    obtain rfl : u2 = v2 := Option.some.inj (hu2.symm.trans e2)
    obtain rfl : u3 = v3 := Option.some.inj (hu3.symm.trans e3)
    refine ⟨_, rfl, wpAny_letOwnedTupleGo_zip (s := { s with heap := h', toks := tk }) z' fun h'' z'' sb => ?_⟩
    have hT2 : h''.get? s.heap.objs.size = some { cls := .type "tuple", data := .seq #[u, u2, u3] } := (sb.2 _ (Nat.ne_of_gt hzl)).trans hT
    have new : ObjOk X.prog X.w (upd H s.heap.objs.size (.tup [x, y, t])) h'' s.heap.objs.size (.tup [x, y, t]) :=
      ⟨by show 3 ≤ sizeLine; decide, [u, u2, u3], .cons ru (.cons ru2 (.cons ru3 .nil)), ⟨_, hT2, rfl, _, rfl⟩⟩
    have I1 : Inv X pins σ (upd H s.heap.objs.size (.tup [x, y, t])) { s with heap := h'', toks := tk } :=
      I.turnedNew (t' := tk) (ch := [z, TI, TO, i1, i2, i3]) (fun c o hb q => (sb.2 c (fun q' => hb (by simp [q']))).trans (hk c o (fun q' => hb (by simp [q'])) (fun q' => hb (by simp [q'])) (fun q' => hb (by simp [q'])) (fun q' => hb (by simp [q'])) (fun q' => hb (by simp [q'])) q)) hf (Nat.le_refl _) new
    refine ⟨.ref s.heap.objs.size, _, I1, rfl, ⟨_, x, y, t, rfl, I.hok.fresh (Nat.le_refl _), rfl, fun l hl => by rw [inv_inj I hl hqx]; exact hx, fun l hl => by rw [inv_inj I hl hqy]; exact hy, fun l hl => by rw [inv_inj I hl hqz]; exact ht⟩, ⟨z'', ?_, ⟨u, u2, u3, ?_⟩, ?_, ?_, ?_⟩, fun c hcm => ?_⟩
    · exact (sb.2 _ D.S.TIz).trans (hk _ _ D.S.TIz D.S.TITO D.S.TIi1 D.S.TIi2 D.S.TIi3 hTI)
    · exact (sb.2 _ D.S.TOz).trans TO'
    · exact st1.1.at fun o q => (sb.2 _ (Ne.symm D.S.zi1)).trans q
    · exact st2.1.at fun o q => (sb.2 _ (Ne.symm D.S.zi2)).trans q
    · exact st3.1.at fun o q => (sb.2 _ (Ne.symm D.S.zi3)).trans q
    · have hlt : c < s.heap.objs.size := by
        have e' : c = z ∨ c = TI ∨ c = TO ∨ c = i1 ∨ c = i2 ∨ c = i3 := by simpa using hcm
        rcases e' with q | q | q | q | q | q
        · rw [q]; exact hzl
        · rw [q]; exact Heap.lt_size hTI
        · rw [q]; exact Heap.lt_size hTO
        · rw [q]; obtain ⟨_, e1, _⟩ := h1.ob; exact Heap.lt_size e1
        · rw [q]; obtain ⟨_, e2, _⟩ := h2.ob; exact Heap.lt_size e2
        · rw [q]; obtain ⟨_, e3, _⟩ := h3.ob; exact Heap.lt_size e3
      rw [upd_ne (Nat.ne_of_lt hlt)]
      exact (hf c hcm).1
  done := by
    intro X hP hw hK hc i pins s σ H E I hf st hg
    subst hP hw hK
    obtain ⟨hz, hTI, ⟨x0, y0, u0, hTO⟩, h1, h2, h3⟩ := st
    obtain ⟨xs, ys, zs, hqx, hqy, hqz, ⟨b1, b2, b3⟩, hend⟩ := hg
    obtain ⟨its, rv, p, _⟩ := inv_seqB I hqx
    obtain ⟨its2, rv2, p2, _⟩ := inv_seqB I hqy
    obtain ⟨its3, rv3, p3, _⟩ := inv_seqB I hqz
    have l1 := rv.length
    have l2 := rv2.length
    have l3 := rv3.length
    refine wpAny_pyNext_zipD3_end D.S (drawsB (A := X.A.in1) (I.ok.hd hc) D.n1) (drawsB (A := X.A.in1) (I.ok.hd hc) D.n2) (drawsB (A := X.A.in1) (I.ok.hd hc) D.n3) hz hTI hTO ⟨h1, p⟩ ⟨h2, p2⟩ ⟨h3, p3⟩ (by simp; omega) (by simp; omega) (by simp; omega) (by simp; omega) fun h' tk hk => ⟨rfl, I.turnedL (t' := tk) (ch := [z, TI, TO, i1, i2, i3]) (fun c o hb q =>
      hk c o (fun q' => hb (by simp [q'])) (fun q' => hb (by simp [q'])) (fun q' => hb (by simp [q'])) (fun q' => hb (by simp [q'])) (fun q' => hb (by simp [q'])) q) hf⟩
  self := fun A i s Q E st h => wpAny_pyIter_zip st.1 h
def iZ3 (K : PySem.W.Frag) (ta : TA) : TI := fun σ H R => ta σ H fun vs H1 => ∃ b1 b2 b3 a1 a2 a3 xs ys zs, vs = [.ref a1, .ref a2, .ref a3] ∧ SqB b1 K H1 a1 xs ∧ SqB b2 K H1 a2 ys ∧ SqB b3 K H1 a3 zs ∧ R (ItZ3 b1 b2 b3 K a1 a2 a3) H1
theorem pi_z3 {X : Cx} {e e2 e3 : Expr} {ta : TA} {p pos tpos : Pos} {elts : List Expr} {kk : Nat} (hg : Gl X "zip") (hm : X.mg "zip" = none) (ha : PA X [e, e2, e3] ta)
    (hs : starEach [e, e2, e3] X.env = (false, eval e X.env) :: starEach [e2, e3] X.env := by rfl) (hpl : (backTo pos (starEach [e2, e3] X.env)).any (·.1) = false := by rfl) :
    PI X (.Tuple elts kk tpos) (.Call (.Name "zip" p) [e, e2, e3] [] pos) (iZ3 X.K ta) := by
  refine ⟨fun pins s σ H R I h => ?_⟩
  refine Call_ (ld_blt I hg hm PyProof.Rows.boot_zip (PyProof.Rows.callWith_type1 (thn (ha.run pos pins s σ H _ I h) fun us s1 ⟨vs, H1, I1, r1, q1⟩ => ?_) hs hpl))
  obtain ⟨b1, b2, b3, a1, a2, a3, xs, ys, zs, ex, hqx, hqy, hqz, q⟩ := q1
  subst ex
  cases r1 with
  | cons r rr =>
    cases rr with
    | cons r' rr =>
      cases rr with
      | cons r'' rr =>
      cases rr
      cases r
      cases r'
      cases r''
      obtain ⟨its, rv, p1, o1, ho1⟩ := inv_seqB I1 hqx
      obtain ⟨its2, rv2, p2, o2, ho2⟩ := inv_seqB I1 hqy
      obtain ⟨its3, rv3, p3, o3, ho3⟩ := inv_seqB I1 hqz
      have hl1 := Heap.lt_size ho1
      have hl2 := Heap.lt_size ho2
      have hl3 := Heap.lt_size ho3
      refine zip_begins3 (beginsB (b := b1) (its := its.toArray)) (beginsB (b := b2) (its := its2.toArray)) (beginsB (b := b3) (its := its3.toArray)) p1 p2 p3 fun h' hz hTI hTO e1 e2 e3 hsz hk => wpAny_pyIter_zip hz ?_
      have I2 : Inv X pins σ H1 { s1 with heap := h' } := I1.kept (t' := s1.toks) hk
      refine ⟨s1.heap.objs.size + 5, [s1.heap.objs.size + 5, s1.heap.objs.size + 3, s1.heap.objs.size + 4, s1.heap.objs.size, s1.heap.objs.size + 1, s1.heap.objs.size + 2], _, _, H1, rfl, I2, turnZ3 ⟨zip_sep3 (fun b hb => by simp at hb; rw [hb]; exact hl1) (fun b hb => by simp at hb; rw [hb]; exact hl2) (fun b hb => by simp at hb; rw [hb]; exact hl3), Nat.ne_of_lt hl1, Nat.ne_of_lt (Nat.lt_succ_of_lt hl2), Nat.ne_of_lt (Nat.lt_succ_of_lt (Nat.lt_succ_of_lt hl3))⟩, ⟨hz, hTI, ⟨_, _, _, hTO⟩, itB_0 e1, itB_0 e2, itB_0 e3⟩, fun c hcm => ?_, q⟩
      have e' : c = s1.heap.objs.size + 5 ∨ c = s1.heap.objs.size + 3 ∨ c = s1.heap.objs.size + 4 ∨ c = s1.heap.objs.size ∨ c = s1.heap.objs.size + 1 ∨ c = s1.heap.objs.size + 2 := by simpa using hcm
      have hle : s1.heap.objs.size ≤ c := by
        rcases e' with z | z | z | z | z | z
        · rw [z]; exact Nat.le_add_right _ _
        · rw [z]; exact Nat.le_add_right _ _
        · rw [z]; exact Nat.le_add_right _ _
        · rw [z]; exact Nat.le_refl _
        · rw [z]; exact Nat.le_add_right _ _
        · rw [z]; exact Nat.le_add_right _ _
      exact I1.fpOk hle (I1.hok.fresh hle)

/-! ### as sources -/
def Sq (b : Bool) (H : Hp) (a : Addr) (xs : List V) : Prop := match b with
  | true => H a = some (.lst xs)
  | false => H a = some (.tup xs)
theorem Sq.b {b : Bool} {H : Hp} {a : Addr} {xs : List V} {K : PySem.W.Frag} (h : Sq b H a xs) : SqB b K H a xs := by
  cases b
  · exact .inl (.inl h)
  · exact .inl (.inl h)
theorem Sq.le {U : UA} {b : Bool} {H H' : Hp} {a : Addr} {xs : List V} (h : Sq b H a xs) (nm : b = true → ¬ Mv U a) (l : Le U H H') : Sq b H' a xs := by
  cases b
  · exact l.tup _ _ h
  · exact l.keep _ _ (nm rfl) h
def YE (xs : List V) : Nat → Hp → V → Hp → Prop := fun i H v H' => ∃ T x, v = .ref T ∧ H T = none ∧ H' = upd H T (.tup [.int (i : Nat), x]) ∧ xs[i]? = some x
def YZ2 (xs ys : List V) : Nat → Hp → V → Hp → Prop := fun i H v H' => ∃ T x y, v = .ref T ∧ H T = none ∧ H' = upd H T (.tup [x, y]) ∧ xs[i]? = some x ∧ ys[i]? = some y
def YZ3 (xs ys zs : List V) : Nat → Hp → V → Hp → Prop := fun i H v H' => ∃ T x y z, v = .ref T ∧ H T = none ∧ H' = upd H T (.tup [x, y, z]) ∧ xs[i]? = some x ∧ ys[i]? = some y ∧ zs[i]? = some z
theorem walk_E {K : PySem.W.Frag} {b : Bool} {a : Addr} {xs : List V} : Walk (ItE b K a) xs.length (fun H => Sq b H a xs) (YE xs) :=
  ⟨fun i H hi q => ⟨xs, _, q.b, List.getElem?_eq_getElem hi⟩, fun H q => ⟨xs, q.b, rfl⟩, fun i H x H' hi q ⟨T, y, e1, e2, e3, f⟩ => ⟨T, y, e1, e2, e3, f _ q.b⟩⟩
theorem walk_Z2 {K : PySem.W.Frag} {b1 b2 : Bool} {a1 a2 : Addr} {xs ys : List V} {n : Nat} (hn : n = min xs.length ys.length) : Walk (ItZ2 b1 b2 K a1 a2) n (fun H => Sq b1 H a1 xs ∧ Sq b2 H a2 ys) (YZ2 xs ys) :=
  ⟨fun i H hi q => ⟨xs, ys, xs[i]'(by omega), ys[i]'(by omega), ⟨q.1.b, List.getElem?_eq_getElem _⟩, q.2.b, List.getElem?_eq_getElem _⟩, fun H q => ⟨xs, ys, q.1.b, q.2.b, by omega, by omega⟩,
    fun i H x H' hi q ⟨T, y, z, e1, e2, e3, f, g⟩ => ⟨T, y, z, e1, e2, e3, f _ q.1.b, g _ q.2.b⟩⟩
theorem walk_Z3 {K : PySem.W.Frag} {b1 b2 b3 : Bool} {a1 a2 a3 : Addr} {xs ys zs : List V} {n : Nat} (hn : n = min xs.length (min ys.length zs.length)) : Walk (ItZ3 b1 b2 b3 K a1 a2 a3) n (fun H => Sq b1 H a1 xs ∧ Sq b2 H a2 ys ∧ Sq b3 H a3 zs) (YZ3 xs ys zs) :=
  ⟨fun i H hi q => ⟨xs, ys, zs, xs[i]'(by omega), ys[i]'(by omega), zs[i]'(by omega), ⟨q.1.b, List.getElem?_eq_getElem _⟩, ⟨q.2.1.b, List.getElem?_eq_getElem _⟩, q.2.2.b, List.getElem?_eq_getElem _⟩, fun H q => ⟨xs, ys, zs, q.1.b, q.2.1.b, q.2.2.b, by omega, by omega⟩,
    fun i H x H' hi q ⟨T, y, z, u, e1, e2, e3, f, g, h⟩ => ⟨T, y, z, u, e1, e2, e3, f _ q.1.b, g _ q.2.1.b, h _ q.2.2.b⟩⟩
section
variable {X : Cx} {U : UA} {σ : L2.St} {H : Hp} {e a b c : Expr} {es : List Expr} {P Pa Pb : VP} {pos q : Pos}
theorem yE_le {xs : List V} {i : Nat} {H H' : Hp} {x : V} (j : Jn U H) (y : YE xs i H x H') : Le U H H' := by
  obtain ⟨T, a, _, h, e, _⟩ := y
  subst e
  exact Le.new j h
theorem yZ2_le {xs ys : List V} {i : Nat} {H H' : Hp} {x : V} (j : Jn U H) (y : YZ2 xs ys i H x H') : Le U H H' := by
  obtain ⟨T, a, b, _, h, e, _⟩ := y
  subst e
  exact Le.new j h
theorem yZ3_le {xs ys zs : List V} {i : Nat} {H H' : Hp} {x : V} (j : Jn U H) (y : YZ3 xs ys zs i H x H') : Le U H H' := by
  obtain ⟨T, a, b, c, _, h, e, _⟩ := y
  subst e
  exact Le.new j h
theorem Src.enum {elts : List Expr} {kk : Nat} {tpos p : Pos} {p1 : Addr} {b1 : Bool} {xs : List V} (hg : Gl X "enumerate") (hm : X.mg "enumerate" = none) (ha : R X U a σ H (Is (.ref p1))) (h1 : Sq b1 H p1 xs) (n1 : b1 = true → ¬ Mv U p1)
    (hs1 : starEach [a] X.env = (false, eval a X.env) :: starEach [] X.env := by rfl) (hs : starEach [a] X.env = [(false, eval a X.env)] := by rfl) :
    Src X U (.Tuple elts kk tpos) (.Call (.Name "enumerate" p) [a] [] pos) σ H (Wk xs.length (fun H => Sq b1 H p1 xs) (YE xs)) :=
  Src.of (pi_enumB hg hm (RA.last ha hs1) hs) fun H1 l j Rr q => ⟨rfl, l, j, fun vs H2 l2 j2 ⟨v, r, e, e1, e2⟩ => by
    cases e1; cases e2
    exact ⟨b1, p1, xs, e, ((h1.le n1 l).le n1 l2).b, q _ H2 l2 j2 walk_E⟩⟩
theorem Src.zip2 {elts : List Expr} {kk : Nat} {tpos p : Pos} {p1 : Addr} {b1 b2 : Bool} {xs ys : List V} (hg : Gl X "zip") (hm : X.mg "zip" = none) (ha : R X U a σ H (Is (.ref p1))) (hb : R X U b σ H (fun v H1 => ∃ p, v = .ref p ∧ Sq b2 H1 p ys)) (h1 : Sq b1 H p1 xs) (n1 : b1 = true → ¬ Mv U p1)
    (hs1 : starEach [b] X.env = (false, eval b X.env) :: starEach [] X.env := by rfl) (hs : starEach [a, b] X.env = (false, eval a X.env) :: starEach [b] X.env := by rfl) (hpl : (backTo pos (starEach [b] X.env)).any (·.1) = false := by rfl) :
    Src X U (.Tuple elts kk tpos) (.Call (.Name "zip" p) [a, b] [] pos) σ H (fun J H1 => ∃ p2, Sq b2 H1 p2 ys ∧ Walk J (min xs.length ys.length) (fun H => Sq b1 H p1 xs ∧ Sq b2 H p2 ys) (YZ2 xs ys)) :=
  Src.of (pi_z2 hg hm (RA.cons ha (RA.last hb hs1) hs) hs hpl) fun H1 l j Rr q => ⟨rfl, l, j, fun vs H2 l2 j2 ⟨v, r, e, e1, w, r', e', ⟨p2, e2, h2⟩, e3⟩ => by
    cases e1; cases e2; cases e3; subst e'
    exact ⟨b1, b2, p1, p2, xs, ys, e, ((h1.le n1 l).le n1 l2).b, h2.b, q _ H2 l2 j2 ⟨p2, h2, walk_Z2 rfl⟩⟩⟩
theorem Src.zip3 {elts : List Expr} {kk : Nat} {tpos p : Pos} {p1 p2 p3 : Addr} {b1 b2 b3 : Bool} {xs ys zs : List V} (hg : Gl X "zip") (hm : X.mg "zip" = none) (ha : R X U a σ H (Is (.ref p1))) (hb : R X U b σ H (Is (.ref p2))) (hc : R X U c σ H (Is (.ref p3))) (h1 : Sq b1 H p1 xs) (n1 : b1 = true → ¬ Mv U p1) (h2 : Sq b2 H p2 ys) (n2 : b2 = true → ¬ Mv U p2) (h3 : Sq b3 H p3 zs) (n3 : b3 = true → ¬ Mv U p3)
    (hs2 : starEach [c] X.env = (false, eval c X.env) :: starEach [] X.env := by rfl) (hs1 : starEach [b, c] X.env = (false, eval b X.env) :: starEach [c] X.env := by rfl) (hs : starEach [a, b, c] X.env = (false, eval a X.env) :: starEach [b, c] X.env := by rfl) (hpl : (backTo pos (starEach [b, c] X.env)).any (·.1) = false := by rfl) :
    Src X U (.Tuple elts kk tpos) (.Call (.Name "zip" p) [a, b, c] [] pos) σ H (Wk (min xs.length (min ys.length zs.length)) (fun H => Sq b1 H p1 xs ∧ Sq b2 H p2 ys ∧ Sq b3 H p3 zs) (YZ3 xs ys zs)) :=
  Src.of (pi_z3 hg hm (RA.cons ha (RA.cons hb (RA.last hc hs2) hs1) hs) hs hpl) fun H1 l j Rr q => ⟨rfl, l, j, fun vs H2 l2 j2 ⟨v, r, e, e1, w, r', e', e2, w', r'', e'', e3, e4⟩ => by
    cases e1; cases e2; cases e3; cases e4; subst e'; subst e''
    exact ⟨b1, b2, b3, p1, p2, p3, xs, ys, zs, e, ((h1.le n1 l).le n1 l2).b, ((h2.le n2 l).le n2 l2).b, ((h3.le n3 l).le n3 l2).b, q _ H2 l2 j2 (walk_Z3 rfl)⟩⟩
end
end K62
end
section
set_option Elab.async false
set_option linter.all false
set_option maxRecDepth 100000
set_option maxHeartbeats 4000000
namespace K62
open PySem PySem.Spec PyProof.Rows L2
def topS (i : Nat) : Stmt := PySem.Challenge.pw_slantpanes_k62_whole_any_stripes_meet_or.main.body.getD i (.Pass ⟨0, 0, 0, 0⟩)
abbrev s_is_integer : Stmt := topS 8
abbrev N_is_integer : List Str := ["thing"]
abbrev ps_is_integer : List Str := ["thing"]
theorem sc_is_integer : FnScope N_is_integer ps_is_integer (defScope s_is_integer) := ⟨rfl, rfl, rfl, by decide +kernel, rfl, by decide +kernel, by decide +kernel⟩
abbrev s_are_integers : Stmt := topS 9
abbrev N_are_integers : List Str := ["thing", "item"]
abbrev ps_are_integers : List Str := ["thing"]
theorem sc_are_integers : FnScope N_are_integers ps_are_integers (defScope s_are_integers) := ⟨rfl, rfl, rfl, by decide +kernel, rfl, by decide +kernel, by decide +kernel⟩
abbrev s_inverse_of : Stmt := topS 10
abbrev N_inverse_of : List Str := ["number", "modulus", "one", "other", "left", "right", "many"]
abbrev ps_inverse_of : List Str := ["number", "modulus"]
theorem sc_inverse_of : FnScope N_inverse_of ps_inverse_of (defScope s_inverse_of) := ⟨rfl, rfl, rfl, by decide +kernel, rfl, by decide +kernel, by decide +kernel⟩
abbrev s_is_period_number : Stmt := topS 11
abbrev N_is_period_number : List Str := ["thing", "root", "left", "prime"]
abbrev ps_is_period_number : List Str := ["thing"]
theorem sc_is_period_number : FnScope N_is_period_number ps_is_period_number (defScope s_is_period_number) := ⟨rfl, rfl, rfl, by decide +kernel, rfl, by decide +kernel, by decide +kernel⟩
abbrev s_is_cell_row : Stmt := topS 12
abbrev N_is_cell_row : List Str := ["thing"]
abbrev ps_is_cell_row : List Str := ["thing"]
theorem sc_is_cell_row : FnScope N_is_cell_row ps_is_cell_row (defScope s_is_cell_row) := ⟨rfl, rfl, rfl, by decide +kernel, rfl, by decide +kernel, by decide +kernel⟩
abbrev s_is_cell_of : Stmt := topS 13
abbrev N_is_cell_of : List Str := ["thing", "breadth"]
abbrev ps_is_cell_of : List Str := ["thing", "breadth"]
theorem sc_is_cell_of : FnScope N_is_cell_of ps_is_cell_of (defScope s_is_cell_of) := ⟨rfl, rfl, rfl, by decide +kernel, rfl, by decide +kernel, by decide +kernel⟩
abbrev s_product_at : Stmt := topS 14
abbrev N_product_at : List Str := ["row", "cell", "one", "other"]
abbrev ps_product_at : List Str := ["row", "cell"]
theorem sc_product_at : FnScope N_product_at ps_product_at (defScope s_product_at) := ⟨rfl, rfl, rfl, by decide +kernel, rfl, by decide +kernel, by decide +kernel⟩
abbrev s_cell_sum : Stmt := topS 15
abbrev N_cell_sum : List Str := ["one", "other", "many", "a", "b"]
abbrev ps_cell_sum : List Str := ["one", "other", "many"]
theorem sc_cell_sum : FnScope N_cell_sum ps_cell_sum (defScope s_cell_sum) := ⟨rfl, rfl, rfl, by decide +kernel, rfl, by decide +kernel, by decide +kernel⟩
abbrev s_is_class_row : Stmt := topS 16
abbrev N_is_class_row : List Str := ["period", "thing", "common", "number"]
abbrev ps_is_class_row : List Str := ["period", "thing"]
theorem sc_is_class_row : FnScope N_is_class_row ps_is_class_row (defScope s_is_class_row) := ⟨rfl, rfl, rfl, by decide +kernel, rfl, by decide +kernel, by decide +kernel⟩
abbrev s_is_stripe_row : Stmt := topS 17
abbrev N_is_stripe_row : List Str := ["thing"]
abbrev ps_is_stripe_row : List Str := ["thing"]
theorem sc_is_stripe_row : FnScope N_is_stripe_row ps_is_stripe_row (defScope s_is_stripe_row) := ⟨rfl, rfl, rfl, by decide +kernel, rfl, by decide +kernel, by decide +kernel⟩
abbrev s_lies_on : Stmt := topS 18
abbrev N_lies_on : List Str := ["stripe", "cell"]
abbrev ps_lies_on : List Str := ["stripe", "cell"]
theorem sc_lies_on : FnScope N_lies_on ps_lies_on (defScope s_lies_on) := ⟨rfl, rfl, rfl, by decide +kernel, rfl, by decide +kernel, by decide +kernel⟩
abbrev s_unit_steps : Stmt := topS 20
abbrev N_unit_steps : List Str := ["breadth", "i", "at"]
abbrev ps_unit_steps : List Str := ["breadth"]
theorem sc_unit_steps : FnScope N_unit_steps ps_unit_steps (defScope s_unit_steps) := ⟨rfl, rfl, rfl, by decide +kernel, rfl, by decide +kernel, by decide +kernel⟩
abbrev s_gathered_steps : Stmt := topS 21
abbrev N_gathered_steps : List Str := ["steps", "row", "modulus", "left", "values", "least", "at", "i", "step", "value"]
abbrev ps_gathered_steps : List Str := ["steps", "row", "modulus"]
theorem sc_gathered_steps : FnScope N_gathered_steps ps_gathered_steps (defScope s_gathered_steps) := ⟨rfl, rfl, rfl, by decide +kernel, rfl, by decide +kernel, by decide +kernel⟩
abbrev s_narrowed : Stmt := topS 22
abbrev N_narrowed : List Str := ["cell", "steps", "row", "r", "modulus", "left", "value", "wanted", "common", "order", "many", "first", "number"]
abbrev ps_narrowed : List Str := ["cell", "steps", "row", "r", "modulus"]
theorem sc_narrowed : FnScope N_narrowed ps_narrowed (defScope s_narrowed) := ⟨rfl, rfl, rfl, by decide +kernel, rfl, by decide +kernel, by decide +kernel⟩
abbrev s_cells_on : Stmt := topS 23
abbrev N_cells_on : List Str := ["stripes", "breadth", "found", "period", "row", "r"]
abbrev ps_cells_on : List Str := ["stripes", "breadth"]
theorem sc_cells_on : FnScope N_cells_on ps_cells_on (defScope s_cells_on) := ⟨rfl, rfl, rfl, by decide +kernel, rfl, by decide +kernel, by decide +kernel⟩
abbrev s_corner_form : Stmt := topS 24
abbrev N_corner_form : List Str := ["steps", "left", "breadth", "i", "least", "at", "many", "j", "step", "row", "a", "b", "number"]
abbrev ps_corner_form : List Str := ["steps"]
theorem sc_corner_form : FnScope N_corner_form ps_corner_form (defScope s_corner_form) := ⟨rfl, rfl, rfl, by decide +kernel, rfl, by decide +kernel, by decide +kernel⟩
abbrev s_least_cell : Stmt := topS 25
abbrev N_least_cell : List Str := ["cell", "corners", "found", "i", "corner"]
abbrev ps_least_cell : List Str := ["cell", "corners"]
theorem sc_least_cell : FnScope N_least_cell ps_least_cell (defScope s_least_cell) := ⟨rfl, rfl, rfl, by decide +kernel, rfl, by decide +kernel, by decide +kernel⟩
abbrev s_common_period : Stmt := topS 27
abbrev N_common_period : List Str := ["stripes", "found", "period", "row", "r"]
abbrev ps_common_period : List Str := ["stripes"]
theorem sc_common_period : FnScope N_common_period ps_common_period (defScope s_common_period) := ⟨rfl, rfl, rfl, by decide +kernel, rfl, by decide +kernel, by decide +kernel⟩
abbrev s_relations_of : Stmt := topS 28
abbrev N_relations_of : List Str := ["stripes", "breadth", "period", "many", "cell", "steps", "i", "row", "near"]
abbrev ps_relations_of : List Str := ["stripes", "breadth"]
theorem sc_relations_of : FnScope N_relations_of ps_relations_of (defScope s_relations_of) := ⟨rfl, rfl, rfl, by decide +kernel, rfl, by decide +kernel, by decide +kernel⟩
abbrev s_bar_of : Stmt := topS 29
abbrev N_bar_of : List Str := ["stripes", "breadth", "numbers", "some", "steps", "row", "period", "step", "pairs", "number", "many", "stripe", "pair"]
abbrev ps_bar_of : List Str := ["stripes", "breadth", "numbers"]
theorem sc_bar_of : FnScope N_bar_of ps_bar_of (defScope s_bar_of) := ⟨rfl, rfl, rfl, by decide +kernel, rfl, by decide +kernel, by decide +kernel⟩
abbrev s_few_that_bar : Stmt := topS 30
abbrev N_few_that_bar : List Str := ["stripes", "breadth", "numbers", "left", "number", "others", "other"]
abbrev ps_few_that_bar : List Str := ["stripes", "breadth", "numbers"]
theorem sc_few_that_bar : FnScope N_few_that_bar ps_few_that_bar (defScope s_few_that_bar) := ⟨rfl, rfl, rfl, by decide +kernel, rfl, by decide +kernel, by decide +kernel⟩
abbrev s_bar_among : Stmt := topS 31
abbrev N_bar_among : List Str := ["stripes", "breadth", "numbers"]
abbrev ps_bar_among : List Str := ["stripes", "breadth", "numbers"]
theorem sc_bar_among : FnScope N_bar_among ps_bar_among (defScope s_bar_among) := ⟨rfl, rfl, rfl, by decide +kernel, rfl, by decide +kernel, by decide +kernel⟩
abbrev s_is_bar_pair : Stmt := topS 32
abbrev N_is_bar_pair : List Str := ["stripes", "thing"]
abbrev ps_is_bar_pair : List Str := ["stripes", "thing"]
theorem sc_is_bar_pair : FnScope N_is_bar_pair ps_is_bar_pair (defScope s_is_bar_pair) := ⟨rfl, rfl, rfl, by decide +kernel, rfl, by decide +kernel, by decide +kernel⟩
abbrev s_is_bar : Stmt := topS 33
abbrev N_is_bar : List Str := ["stripes", "breadth", "thing", "some", "period", "i", "pair", "near", "far", "number", "many", "stripe"]
abbrev ps_is_bar : List Str := ["stripes", "breadth", "thing"]
theorem sc_is_bar : FnScope N_is_bar ps_is_bar (defScope s_is_bar) := ⟨rfl, rfl, rfl, by decide +kernel, rfl, by decide +kernel, by decide +kernel⟩
abbrev s_are_stripes : Stmt := topS 38
abbrev N_are_stripes : List Str := ["thing", "stripe"]
abbrev ps_are_stripes : List Str := ["thing"]
theorem sc_are_stripes : FnScope N_are_stripes ps_are_stripes (defScope s_are_stripes) := ⟨rfl, rfl, rfl, by decide +kernel, rfl, by decide +kernel, by decide +kernel⟩
abbrev s_need_stripe_row : Stmt := topS 39
abbrev N_need_stripe_row : List Str := ["stripes"]
abbrev ps_need_stripe_row : List Str := ["stripes"]
theorem sc_need_stripe_row : FnScope N_need_stripe_row ps_need_stripe_row (defScope s_need_stripe_row) := ⟨rfl, rfl, rfl, by decide +kernel, rfl, by decide +kernel, by decide +kernel⟩
abbrev s_judge_meeting : Stmt := topS 40
abbrev N_judge_meeting : List Str := ["stripes", "breadth", "found"]
abbrev ps_judge_meeting : List Str := ["stripes"]
theorem sc_judge_meeting : FnScope N_judge_meeting ps_judge_meeting (defScope s_judge_meeting) := ⟨rfl, rfl, rfl, by decide +kernel, rfl, by decide +kernel, by decide +kernel⟩
abbrev s_meeting_holds : Stmt := topS 41
abbrev N_meeting_holds : List Str := ["stripes", "thing", "breadth", "stripe"]
abbrev ps_meeting_holds : List Str := ["stripes", "thing"]
theorem sc_meeting_holds : FnScope N_meeting_holds ps_meeting_holds (defScope s_meeting_holds) := ⟨rfl, rfl, rfl, by decide +kernel, rfl, by decide +kernel, by decide +kernel⟩
abbrev s_do_meet : Stmt := topS 42
abbrev N_do_meet : List Str := ["stripes"]
abbrev ps_do_meet : List Str := ["stripes"]
theorem sc_do_meet : FnScope N_do_meet ps_do_meet (defScope s_do_meet) := ⟨rfl, rfl, rfl, by decide +kernel, rfl, by decide +kernel, by decide +kernel⟩
abbrev s_common_cells : Stmt := topS 43
abbrev N_common_cells : List Str := ["stripes", "found", "corners"]
abbrev ps_common_cells : List Str := ["stripes"]
theorem sc_common_cells : FnScope N_common_cells ps_common_cells (defScope s_common_cells) := ⟨rfl, rfl, rfl, by decide +kernel, rfl, by decide +kernel, by decide +kernel⟩
abbrev s__law_urn : Stmt := topS 45
abbrev N__law_urn : List Str := ["_law_script", "_law_cells", "_law_mixed", "_law_cell"]
abbrev ps__law_urn : List Str := ["_law_script"]
theorem sc__law_urn : FnScope N__law_urn ps__law_urn (defScope s__law_urn) := ⟨rfl, rfl, rfl, by decide +kernel, rfl, by decide +kernel, by decide +kernel⟩
abbrev s__law_draw : Stmt := topS 46
abbrev N__law_draw : List Str := ["_law_urn_here", "_law_below", "_law_cell"]
abbrev ps__law_draw : List Str := ["_law_urn_here", "_law_below"]
theorem sc__law_draw : FnScope N__law_draw ps__law_draw (defScope s__law_draw) := ⟨rfl, rfl, rfl, by decide +kernel, rfl, by decide +kernel, by decide +kernel⟩
abbrev s__law_pick : Stmt := topS 47
abbrev N__law_pick : List Str := ["_law_urn_here", "_law_some"]
abbrev ps__law_pick : List Str := ["_law_urn_here", "_law_some"]
theorem sc__law_pick : FnScope N__law_pick ps__law_pick (defScope s__law_pick) := ⟨rfl, rfl, rfl, by decide +kernel, rfl, by decide +kernel, by decide +kernel⟩
abbrev s__law_great : Stmt := topS 48
abbrev N__law_great : List Str := ["_law_urn_here", "_law_below", "_law_found", "_law_size"]
abbrev ps__law_great : List Str := ["_law_urn_here", "_law_below"]
theorem sc__law_great : FnScope N__law_great ps__law_great (defScope s__law_great) := ⟨rfl, rfl, rfl, by decide +kernel, rfl, by decide +kernel, by decide +kernel⟩
abbrev s__law_divisor : Stmt := topS 49
abbrev N__law_divisor : List Str := ["_law_numbers", "_law_found", "_law_number", "_law_one", "_law_other"]
abbrev ps__law_divisor : List Str := ["_law_numbers"]
theorem sc__law_divisor : FnScope N__law_divisor ps__law_divisor (defScope s__law_divisor) := ⟨rfl, rfl, rfl, by decide +kernel, rfl, by decide +kernel, by decide +kernel⟩
abbrev s__law_powers : Stmt := topS 50
abbrev N__law_powers : List Str := ["_law_m", "_law_found", "_law_p", "_law_q"]
abbrev ps__law_powers : List Str := ["_law_m"]
theorem sc__law_powers : FnScope N__law_powers ps__law_powers (defScope s__law_powers) := ⟨rfl, rfl, rfl, by decide +kernel, rfl, by decide +kernel, by decide +kernel⟩
abbrev s__law_fixed : Stmt := topS 51
abbrev N__law_fixed : List Str := ["_law_urn_here", "_law_m", "_law_numbers", "_law_found", "_law_at", "_law_p", "_law_q", "_law_number"]
abbrev ps__law_fixed : List Str := ["_law_urn_here", "_law_m", "_law_numbers"]
theorem sc__law_fixed : FnScope N__law_fixed ps__law_fixed (defScope s__law_fixed) := ⟨rfl, rfl, rfl, by decide +kernel, rfl, by decide +kernel, by decide +kernel⟩
abbrev s__law_dot : Stmt := topS 52
abbrev N__law_dot : List Str := ["_law_one", "_law_other", "_law_x", "_law_y"]
abbrev ps__law_dot : List Str := ["_law_one", "_law_other"]
theorem sc__law_dot : FnScope N__law_dot ps__law_dot (defScope s__law_dot) := ⟨rfl, rfl, rfl, by decide +kernel, rfl, by decide +kernel, by decide +kernel⟩
abbrev s__law_period : Stmt := topS 53
abbrev N__law_period : List Str := ["_law_urn_here", "_law_primes", "_law_far", "_law_m", "_law_p", "_law_step"]
abbrev ps__law_period : List Str := ["_law_urn_here", "_law_primes", "_law_far"]
theorem sc__law_period : FnScope N__law_period ps__law_period (defScope s__law_period) := ⟨rfl, rfl, rfl, by decide +kernel, rfl, by decide +kernel, by decide +kernel⟩
abbrev s__law_summed : Stmt := topS 54
abbrev N__law_summed : List Str := ["_law_urn_here", "_law_found", "_law_one", "_law_other", "_law_m", "_law_k", "_law_l", "_law_numbers", "_law_divisor_here", "_law_x", "_law_y"]
abbrev ps__law_summed : List Str := ["_law_urn_here", "_law_found"]
theorem sc__law_summed : FnScope N__law_summed ps__law_summed (defScope s__law_summed) := ⟨rfl, rfl, rfl, by decide +kernel, rfl, by decide +kernel, by decide +kernel⟩
abbrev s__law_stripes : Stmt := topS 55
abbrev N__law_stripes : List Str := ["_law_urn_here", "_law_d", "_law_size", "_law_cell", "_law_primes", "_law_far", "_law_rare", "_law_found", "_law_is_through", "_law_turn", "_law_shift", "_law_way", "_law_m", "_law_c", "_law_one", "_law_r", "_law_p", "_law_q", "_law_place"]
abbrev ps__law_stripes : List Str := ["_law_urn_here", "_law_d"]
theorem sc__law_stripes : FnScope N__law_stripes ps__law_stripes (defScope s__law_stripes) := ⟨rfl, rfl, rfl, by decide +kernel, rfl, by decide +kernel, by decide +kernel⟩
abbrev s__law_moved : Stmt := topS 56
abbrev N__law_moved : List Str := ["_law_stripes_here", "_law_step", "_law_m", "_law_c", "_law_r"]
abbrev ps__law_moved : List Str := ["_law_stripes_here", "_law_step"]
theorem sc__law_moved : FnScope N__law_moved ps__law_moved (defScope s__law_moved) := ⟨rfl, rfl, rfl, by decide +kernel, rfl, by decide +kernel, by decide +kernel⟩
abbrev s__law_is_integer : Stmt := topS 57
abbrev N__law_is_integer : List Str := ["_law_thing"]
abbrev ps__law_is_integer : List Str := ["_law_thing"]
theorem sc__law_is_integer : FnScope N__law_is_integer ps__law_is_integer (defScope s__law_is_integer) := ⟨rfl, rfl, rfl, by decide +kernel, rfl, by decide +kernel, by decide +kernel⟩
abbrev s__law_is_bar : Stmt := topS 58
abbrev N__law_is_bar : List Str := ["_law_stripes_here", "_law_thing", "_law_d", "_law_pair", "_law_whole", "_law_sums", "_law_at", "_law_l", "_law_m", "_law_c", "_law_r", "_law_x", "_law_total", "_law_number"]
abbrev ps__law_is_bar : List Str := ["_law_stripes_here", "_law_thing"]
theorem sc__law_is_bar : FnScope N__law_is_bar ps__law_is_bar (defScope s__law_is_bar) := ⟨rfl, rfl, rfl, by decide +kernel, rfl, by decide +kernel, by decide +kernel⟩
abbrev s__law_is_paper : Stmt := topS 59
abbrev N__law_is_paper : List Str := ["_law_stripes_here", "_law_thing", "_law_cell", "_law_x", "_law_m", "_law_c", "_law_r"]
abbrev ps__law_is_paper : List Str := ["_law_stripes_here", "_law_thing"]
theorem sc__law_is_paper : FnScope N__law_is_paper ps__law_is_paper (defScope s__law_is_paper) := ⟨rfl, rfl, rfl, by decide +kernel, rfl, by decide +kernel, by decide +kernel⟩
abbrev s__law_parts : Stmt := topS 60
abbrev N__law_parts : List Str := ["_law_urn_here", "_law_stripes_here", "_law_found", "_law_good", "_law_at", "_law_m", "_law_c", "_law_r", "_law_p", "_law_e", "_law_q", "_law_number"]
abbrev ps__law_parts : List Str := ["_law_urn_here", "_law_stripes_here"]
theorem sc__law_parts : FnScope N__law_parts ps__law_parts (defScope s__law_parts) := ⟨rfl, rfl, rfl, by decide +kernel, rfl, by decide +kernel, by decide +kernel⟩
abbrev s_law : Stmt := topS 61
abbrev N_law : List Str := ["_law_script", "_law_urn_here", "_law_turn", "_law_d", "_law_cell", "_law_stripes_here", "_law_is_through", "_law_paper", "_law_do_all", "_law_step", "_law_thing", "_law_moved_here", "_law_written", "_law_m", "_law_c", "_law_r", "_law_u", "_law_some", "_law_place", "_law_x", "_law_y", "_law_number", "_law_stripe", "_law_at", "_law_l", "_law_one"]
abbrev ps_law : List Str := ["_law_script"]
theorem sc_law : FnScope N_law ps_law (defScope s_law) := ⟨rfl, rfl, rfl, by decide +kernel, rfl, by decide +kernel, by decide +kernel⟩
/-- the built-in names that the text leaves alone -/
structure Bln (mg : Str → Option Value) : Prop where
  abs : mg "abs" = none
  all : mg "all" = none
  bool : mg "bool" = none
  enumerate : mg "enumerate" = none
  int : mg "int" = none
  isinstance : mg "isinstance" = none
  len : mg "len" = none
  list : mg "list" = none
  max : mg "max" = none
  min : mg "min" = none
  range : mg "range" = none
  repr : mg "repr" = none
  str : mg "str" = none
  sum : mg "sum" = none
  tuple : mg "tuple" = none
  zip : mg "zip" = none
end K62
end
section
set_option linter.all false
/-! Plain mathematics for k62: rows, stripes, periods. -/
namespace K62
abbrev Row := List Int
def dot (r c : List Int) : Int := (List.zipWith (· * ·) r c).sum
def addk (a : List Int) (k : Int) (b : List Int) : List Int := List.zipWith (fun x y => x + k * y) a b
/-- ints below 2 ^ n -/
def Bd (n : Nat) (l : List Int) : Prop := ∀ x ∈ l, x.natAbs < 2 ^ n
structure Stp where
  m : Int
  c : List Int
  r : Int
def On (s : Stp) (x : List Int) : Prop := s.m ∣ dot s.c x - s.r
/-- the primes of a law's periods -/
def PQs : List (Nat × Nat) := [(2, 1), (3, 1), (2, 3), (5, 1), (2, 5), (7, 1), (3, 11), (13, 29), (2, 23)]
def Per (p q : Nat) (m : Int) : Prop := ∃ a b : Nat, m = ((p ^ a * q ^ b : Nat) : Int)
def gcdl (m : Nat) (c : List Int) : Nat := c.foldl (fun a x => Nat.gcd a x.natAbs) m
/-- a stripe of the breadth d over the primes p and q -/
structure VS (p q d : Nat) (s : Stp) : Prop where
  per : Per p q s.m
  pos : 0 < s.m
  small : s.m.natAbs < 2 ^ 134
  len : s.c.length = d
  cs : ∀ x ∈ s.c, 0 ≤ x ∧ x < s.m
  prim : gcdl s.m.natAbs s.c = 1
  r0 : 0 ≤ s.r
  r1 : s.r < s.m

theorem zip_range (f : Int → Int → Int) (r c : List Int) : ((List.range (min r.length c.length)).map fun i => f (r.getD i 0) (c.getD i 0)) = List.zipWith f r c := by
  apply List.ext_getElem?
  intro i
  rw [List.getElem?_map, List.getElem?_zipWith]
  by_cases hi : i < min r.length c.length
  · have h1 : i < r.length := by omega
    have h2 : i < c.length := by omega
    rw [List.getElem?_range hi]
    simp [h1, h2]
  · rw [List.getElem?_eq_none (l := List.range _) (by simp; omega)]
    by_cases h1 : i < r.length
    · rw [List.getElem?_eq_none (l := c) (by omega)]; cases r[i]? <;> rfl
    · rw [List.getElem?_eq_none (l := r) (by omega)]; rfl
theorem dot_range (r c : List Int) : ((List.range (min r.length c.length)).map fun i => r.getD i 0 * c.getD i 0).sum = dot r c := by
  rw [zip_range (fun x y => x * y)]; rfl
theorem addk_len {a b : List Int} {k : Int} : (addk a k b).length = min a.length b.length := by simp [addk]

/-! ### periods -/
theorem PQ_facts : ∀ x ∈ PQs, (2 ≤ x.1 ∧ x.1 < 30) ∧ (x.2 = 1 ∨ (2 ≤ x.2 ∧ x.2 < 30)) ∧ x.1 * x.2 ≤ 1000 ∧ x.1 ≠ x.2 ∧ Nat.gcd x.1 x.2 = 1 := by decide
theorem PQ_prime : ∀ x ∈ PQs, ∀ k, k < 30 → 2 ≤ k → (k = x.1 ∨ x.1 < k ∨ Nat.gcd k x.1 = 1) ∧ (k = x.2 ∨ x.2 < k ∨ Nat.gcd k x.2 = 1) := by decide
theorem coprime_pow {k p a : Nat} (h : Nat.gcd k p = 1) : Nat.gcd k (p ^ a) = 1 := Nat.Coprime.pow_right a h
theorem not_dvd {k n : Nat} (h : Nat.gcd k n = 1) (hk : 2 ≤ k) : ¬ k ∣ n := fun d => by
  rw [Nat.gcd_eq_left d] at h; omega
/-- what is left of p ^ a * q ^ b behind the numbers below k -/
def lft (p q a b k : Nat) : Nat := (if p < k then 1 else p ^ a) * (if q < k then 1 else q ^ b)
def rt (p q k : Nat) : Nat := (if p < k then p else 1) * (if q < k then q else 1)
theorem rt_le {p q k : Nat} (hp : 0 < p) (hq : 0 < q) : rt p q k ≤ p * q := by
  unfold rt
  apply Nat.mul_le_mul <;> split <;> omega
end K62
namespace K62
theorem lft_step {x : Nat × Nat} (hx : x ∈ PQs) {a b k : Nat} (h2 : 2 ≤ k) (h30 : k < 30) : ∃ e c, lft x.1 x.2 a b k = k ^ e * c ∧ Nat.gcd k c = 1 ∧ lft x.1 x.2 a b (k + 1) = c ∧ (e ≠ 0 → rt x.1 x.2 k * k ≤ rt x.1 x.2 (k + 1)) ∧ rt x.1 x.2 k ≤ rt x.1 x.2 (k + 1) := by
  obtain ⟨⟨f1, f2⟩, f3, f4, f5, f6⟩ := PQ_facts x hx
  obtain ⟨g1, g2⟩ := PQ_prime x hx k h30 h2
  have hq : 0 < x.2 := by omega
  generalize x.1 = p at *
  generalize x.2 = q at *
  have mono : rt p q k ≤ rt p q (k + 1) := by
    unfold rt
    apply Nat.mul_le_mul <;> (repeat' split) <;> omega
  -- the other factor is coprime to k
  have cop : ∀ r c : Nat, (k = r ∨ r < k ∨ Nat.gcd k r = 1) → k ≠ r → Nat.gcd k (if r < k then 1 else r ^ c) = 1 := fun r c h ne => by
    by_cases hr : r < k
    · rw [if_pos hr]; simp
    · rw [if_neg hr]
      rcases h with h | h | h
      · exact absurd h ne
      · exact absurd h hr
      · exact coprime_pow h
  have same : ∀ r c : Nat, k ≠ r → (if r < k + 1 then 1 else r ^ c) = (if r < k then 1 else r ^ c) := fun r c ne => by
    by_cases hr : r < k
    · rw [if_pos hr, if_pos (by omega)]
    · rw [if_neg hr, if_neg (by omega)]
  by_cases e1 : k = p
  · have ne : k ≠ q := by omega
    refine ⟨a, (if q < k then 1 else q ^ b), ?_, cop q b g2 ne, ?_, fun _ => ?_, mono⟩
    · unfold lft; rw [if_neg (show ¬ p < k by omega), ← e1]
    · unfold lft; rw [if_pos (show p < k + 1 by omega), same q b ne, Nat.one_mul]
    · unfold rt
      rw [if_neg (show ¬ p < k by omega), if_pos (show p < k + 1 by omega), Nat.one_mul, ← e1, Nat.mul_comm]
      apply Nat.mul_le_mul_left
      split <;> split <;> omega
  · by_cases e2 : k = q
    · refine ⟨b, (if p < k then 1 else p ^ a), ?_, cop p a g1 e1, ?_, fun _ => ?_, mono⟩
      · unfold lft; rw [if_neg (show ¬ q < k by omega), ← e2, Nat.mul_comm]
      · unfold lft; rw [if_pos (show q < k + 1 by omega), same p a e1, Nat.mul_one]
      · unfold rt
        rw [if_neg (show ¬ q < k by omega), if_pos (show q < k + 1 by omega), Nat.mul_one, ← e2]
        apply Nat.mul_le_mul_right
        split <;> split <;> omega
    · refine ⟨0, lft p q a b k, by simp, ?_, ?_, fun h => absurd rfl h, mono⟩
      · unfold lft
        exact Nat.Coprime.mul_right (cop p a g1 e1) (cop q b g2 e2)
      · unfold lft; rw [same p a e1, same q b e2]
theorem lft_two {x : Nat × Nat} (hx : x ∈ PQs) {a b : Nat} : lft x.1 x.2 a b 2 = x.1 ^ a * x.2 ^ b := by
  obtain ⟨⟨f1, f2⟩, f3, f4, f5, f6⟩ := PQ_facts x hx
  unfold lft
  rw [if_neg (by omega)]
  by_cases h : x.2 < 2
  · rw [if_pos h, show x.2 = 1 by omega]; simp
  · rw [if_neg h]
theorem lft_end {x : Nat × Nat} (hx : x ∈ PQs) {a b : Nat} : lft x.1 x.2 a b 30 = 1 := by
  obtain ⟨⟨f1, f2⟩, f3, f4, f5, f6⟩ := PQ_facts x hx
  unfold lft
  rw [if_pos f2, if_pos (by omega)]
theorem lft_pos {x : Nat × Nat} (hx : x ∈ PQs) {a b k : Nat} : 0 < lft x.1 x.2 a b k := by
  obtain ⟨⟨f1, f2⟩, f3, f4, f5, f6⟩ := PQ_facts x hx
  unfold lft
  apply Nat.mul_pos <;> split
  · omega
  · exact Nat.pow_pos (by omega)
  · omega
  · exact Nat.pow_pos (by omega)
theorem rt_two {x : Nat × Nat} : 1 ≤ rt x.1 x.2 2 ∨ True := .inr trivial
end K62
namespace K62
theorem gcd_mod (m n : Int) : Int.gcd m (n % m) = Int.gcd m n := by
  rw [Int.emod_def, Int.mul_comm, Int.gcd_sub_mul_right_right]
end K62
end
section
set_option Elab.async false
set_option linter.all false
set_option maxRecDepth 100000
set_option maxHeartbeats 4000000
namespace K62
open PySem PySem.Spec PyProof.Rows L2
/-- the module's constants -/
structure Cst (mg : Str → Option Value) : Prop where
  MOST_PRIME : ∃ t, mg "MOST_PRIME" = some (.int 30 t)
  MOST_ROOT : ∃ t, mg "MOST_ROOT" = some (.int 1000 t)
  MOST_BREADTH : ∃ t, mg "MOST_BREADTH" = some (.int 3 t)
  MOST_STRIPES : ∃ t, mg "MOST_STRIPES" = some (.int 12 t)
  MEET : ∃ t, mg "MEET" = some (.str "meet" t)
  NEVER : ∃ t, mg "NEVER" = some (.str "never" t)
  gcd : mg "gcd" = some (.builtin "math.gcd")
theorem getV {l : List Int} {i : Nat} {x : V} (h : (l.map V.int)[i]? = some x) : x = V.int (l.getD i 0) ∧ l.getD i 0 ∈ l := by
  rw [List.getElem?_map] at h
  obtain ⟨y, hy, rfl⟩ := Option.map_eq_some_iff.mp h
  rw [List.getD_eq_getElem?_getD, hy]
  exact ⟨rfl, List.mem_of_getElem? hy⟩
theorem Bd.mul {l m : List Int} (h1 : Bd 400000 l) (h2 : Bd 400000 m) {x y : Int} (hx : x ∈ l) (hy : y ∈ m) : CMulW x y := wide_mul (h1 x hx) (h2 y hy) (by decide) (by decide) (by decide)
/-- the int in a slot -/
def slI (σ : L2.St) (i : Nat) : Int := match σ[i]? with
  | some (some (.int x)) => x
  | _ => 0
variable {P : Program} {w : World} {K : PySem.W.Frag} {mg : Str → Option Value} {base : Heap}

/-! ### is_integer, are_integers -/
abbrev sp_is_integer : Sp := FSp (α := Int) nU (fun i vs _ => vs = [.int i]) (fun _ => Is (.bl true))
theorem ok_is_integer (F : DefAt K mg "is_integer" s_is_integer ps_is_integer) (B : Bln mg) : Callee P w K mg base 1 "is_integer" ps_is_integer sp_is_integer := by
  refine callee_of F sc_is_integer (fun vs H Q E h => ?_) fun f cdv A outer s H vs Q E hr h => ?_
  · obtain ⟨a, _, rfl, _⟩ := h; rfl
  obtain ⟨i, _, rfl, k⟩ := h
  refine S.ret (U := none) trivial (R.andB (R.isi (fun _ _ => .base (.int i)) (kit_ty (r := true) (by decide +kernel)) (by rfl) B.isinstance (R.var (i := 0) rfl (.inl rfl) rfl) (R.bltn (by rfl) B.int PyProof.Rows.boot_int rfl))
    (fun _ => R.one (R.notB (R.isi (fun _ _ => .base (.int i)) (kit_ty (r := false) (by decide +kernel)) (by rfl) B.isinstance (R.var (i := 0) rfl (.inl rfl) rfl) (R.bltn (by rfl) B.bool PyProof.Rows.boot_bool rfl))))) fun v H1 l _ e => k v H1 l trivial e
abbrev sp_are_integers : Sp := FSp (α := List Int) nU (fun l vs H => ∃ v, vs = [v] ∧ TpI l v H ∧ l.length ≤ 1000) (fun _ => Is (.bl true))
theorem ok_are_integers (F : DefAt K mg "are_integers" s_are_integers ps_are_integers) (B : Bln mg) (C1 : Callee P w K mg base 1 "is_integer" ps_is_integer sp_is_integer) : Callee P w K mg base 2 "are_integers" ps_are_integers sp_are_integers := by
  refine callee_of F sc_are_integers (fun vs H Q E h => ?_) fun f cdv A outer s H vs Q E hr h => ?_
  · obtain ⟨a, _, ⟨v, rfl, _⟩, _⟩ := h; rfl
  obtain ⟨xs, _, ⟨v, rfl, ⟨p, rfl, hp⟩, hz⟩, k⟩ := h
  refine S.ret (U := none) trivial (R.andB (R.isi (k := true) (fun H1 l => .base (.tup (l.tup _ _ hp))) (kit_ty (by decide +kernel)) (by rfl) B.isinstance (R.var (i := 0) rfl (.inl rfl) rfl) (R.bltn (by rfl) B.tuple PyProof.Rows.boot_tuple rfl))
    (fun _ => R.one (R.allN (n := (xs.map V.int).length) (f := fun _ => true) (H0 := H) rfl (by rfl) B.all (R.lc (own := [("item", 1)]) rfl sc_are_integers.nd (Src.tup (R.var (i := 0) rfl (.inl rfl) rfl) hp) (blkOk_by (N := N_are_integers) (sc := defScope s_are_integers) (by decide +kernel))
      (fun J H1 l j wk => LcK.map (fun i => Is (.bl true)) wk (by rw [List.length_map]; omega) l trivial (fun i H x H' => yAt_le) (fun H' l' => l'.tup _ _ (l.tup _ _ hp)) (fun i x H' H'' hi l' j' y => ?_)))))) fun v H1 l _ e => k v H1 l trivial ?_
  · obtain ⟨rfl, hx⟩ := y
    obtain ⟨rfl, _⟩ := getV hx
    refine ⟨_, fun s Hb C cl fp => Tg.name sc_are_integers.nd (i := 1) rfl (.inl rfl), rfl, fun s Hb C cl fp => R.callP C1 hr (by decide) (by rfl) (RA.last (R.var (i := 1) rfl (.inl rfl) rfl)) ?_⟩
    rintro vs H1 _ _ ⟨v, r, rfl, rfl, rfl⟩
    exact ⟨_, rfl, fun v H2 _ _ e => e⟩
  · rw [e]; simp [Is]

/-! ### inverse_of -/
def InvOf (a m : Int) (v : Int) : Prop := 0 ≤ v ∧ v < m ∧ (Int.gcd a m = 1 → m ∣ v * a - 1)
abbrev sp_inverse_of : Sp := FSp (α := Int × Int) nU (fun x vs _ => vs = [.int x.1, .int x.2] ∧ 0 < x.2 ∧ x.2.natAbs < 2 ^ 8000) (fun x => In (InvOf x.1 x.2))
theorem inv_turn {m one other left right : Int} (h0 : 0 < other) (h1 : other < one) (hs : left.natAbs * other.natAbs + right.natAbs * one.natAbs ≤ m.natAbs) :
    right.natAbs * (one - one / other * other).natAbs + (left - one / other * right).natAbs * other.natAbs ≤ m.natAbs := by
  have hq : 0 ≤ one / other := Int.ediv_nonneg (by omega) (by omega)
  have hr0 := Int.emod_nonneg one (show other ≠ 0 by omega)
  have er : one - one / other * other = one % other := by rw [Int.emod_def, Int.mul_comm]
  rw [er]
  have en : one.natAbs = (one / other).natAbs * other.natAbs + (one % other).natAbs := by
    have := Int.emod_def one other
    rw [Int.mul_comm] at this
    have h3 : (one / other * other).natAbs = (one / other).natAbs * other.natAbs := Int.natAbs_mul _ _
    have : one = one / other * other + one % other := by omega
    have h4 : 0 ≤ one / other * other := Int.mul_nonneg hq (by omega)
    omega
  have el : (left - one / other * right).natAbs ≤ left.natAbs + (one / other).natAbs * right.natAbs := by
    rw [← Int.natAbs_mul]; omega
  have e2 := Nat.mul_le_mul_right other.natAbs el
  rw [Nat.add_mul] at e2
  rw [en, Nat.mul_add] at hs
  have e3 : right.natAbs * ((one / other).natAbs * other.natAbs) = (one / other).natAbs * right.natAbs * other.natAbs := by
    rw [Nat.mul_comm (one / other).natAbs right.natAbs, Nat.mul_assoc]
  omega
theorem ok_inverse_of (F : DefAt K mg "inverse_of" s_inverse_of ps_inverse_of) (B : Bln mg) : Callee P w K mg base 1 "inverse_of" ps_inverse_of sp_inverse_of := by
  refine callee_of F sc_inverse_of (fun vs H Q E h => ?_) fun f cdv A outer s H vs Q E hr h => ?_
  · obtain ⟨a, _, ⟨rfl, _⟩, _⟩ := h; rfl
  obtain ⟨⟨a, m⟩, _, ⟨rfl, hm, hb⟩, k⟩ := h
  -- one, other, left, right = (modulus, number % modulus, 0, 1)
  refine S.asgT (U := none) (P := fun v H1 => ∃ p, v = .ref p ∧ H1 p = some (.tup [.int m, .int (a % m), .int 0, .int 1])) trivial (R.tup (RA.cons (R.var (i := 1) rfl (.inl rfl) rfl) (RA.cons (R.mod hm (R.var (i := 0) rfl (.inl rfl) rfl) (R.var (i := 1) rfl (.inl rfl) rfl)) (RA.cons R.int (RA.last R.int)))) ?_ ?_) ?_
  · rintro vs H1 ⟨v, r, rfl, _, v, r, rfl, _, v, r, rfl, _, v, r, rfl, _, rfl⟩; show 4 ≤ sizeLine; decide
  · rintro vs p H1 _ _ ⟨v, r, rfl, rfl, v, r, rfl, rfl, v, r, rfl, rfl, v, r, rfl, rfl, rfl⟩ _; exact ⟨p, rfl, upd_same⟩
  rintro v H1 l1 _ ⟨p, rfl, hp⟩
  refine ⟨_, Tg.tup rfl hp (Tgs.cons (Tg.name sc_inverse_of.nd (i := 2) rfl (.inl rfl)) (Tgs.cons (Tg.name sc_inverse_of.nd (i := 3) rfl (.inl rfl)) (Tgs.cons (Tg.name sc_inverse_of.nd (i := 4) rfl (.inl rfl)) (Tgs.cons (Tg.name sc_inverse_of.nd (i := 5) rfl (.inl rfl)) Tgs.nil)))), ?_⟩
  -- while other != 0:
  refine S.cut (Mid := fun σ' H' => ∃ left x5 x6, Le none H H' ∧ σ' = [some (.int a), some (.int m), some (.int 1), some (.int 0), some (.int left), x5, x6] ∧ m ∣ left * a - 1 ∨ ∃ one left x5 x6, Le none H H' ∧ σ' = [some (.int a), some (.int m), some (.int one), some (.int 0), some (.int left), x5, x6] ∧ Int.gcd a m ≠ 1)
    (S1.while (U := none) PassesOwn.never (fun σ' H' => ∃ one other left right x6, Le none H H' ∧ σ' = [some (.int a), some (.int m), some (.int one), some (.int other), some (.int left), some (.int right), x6] ∧ 0 ≤ other ∧ other < one ∧ one ≤ m ∧ m ∣ left * a - one ∧ m ∣ right * a - other ∧ Int.gcd one other = Int.gcd a m ∧ left.natAbs * other.natAbs + right.natAbs * one.natAbs ≤ m.natAbs)
      (fun σ' _ => (slI σ' 3).toNat) ⟨m, a % m, 0, 1, none, l1, rfl, Int.emod_nonneg _ (by omega), Int.emod_lt_of_pos _ hm, Int.le_refl _, ⟨-1, by omega⟩, ⟨a / m, ?_⟩, ?_, by simp⟩ (fun _ _ _ => trivial)
      (φ := fun σ' _ b => b = !decide (V.int (slI σ' 3) = V.int 0)) (fun σ' H' w => ?_) (fun σ' H' w e H2 l2 _ => ?_) (fun σ' H' w e H2 l2 _ => ?_)) (fun σ' H' w => ?_)
  · have := Int.emod_def a m; rw [this]; rw [Int.one_mul]; omega
  · rw [gcd_mod, Int.gcd_comm]
  · obtain ⟨one, other, left, right, x6, l, rfl, r⟩ := w
    exact RT.ne rfl (R.var (i := 3) rfl (.inl rfl) rfl) R.int
  · obtain ⟨one, other, left, right, x6, l, rfl, h0, h1, h2, h3, h4, h5, h6⟩ := w
    have hne : other ≠ 0 := fun z => by subst z; exact Bool.noConfusion (e : true = false)
    have hp : 0 < other := by omega
    have b1 : one.natAbs < 2 ^ 8000 := by omega
    have b2 : other.natAbs < 2 ^ 8000 := by omega
    have b3 : (one / other).natAbs < 2 ^ 8000 := by
      have h7 := Int.ediv_nonneg (a := one) (b := other) (by omega) (by omega)
      have h8 : one / other ≤ one := Int.ediv_le_self _ (by omega)
      omega
    have b4 : right.natAbs < 2 ^ 8000 := by
      have : right.natAbs * 1 ≤ right.natAbs * one.natAbs := Nat.mul_le_mul_left _ (by omega)
      omega
    refine S.asgI (U := none) sc_inverse_of.nd (i := 6) rfl (.inl rfl) trivial (R.fdiv (wide_div hp b2 (by decide) (by decide)) (R.var (i := 2) rfl (.inl rfl) rfl) (R.var (i := 3) rfl (.inl rfl) rfl)) fun H3 l3 _ => ?_
    refine S.parI (U := none) rfl sc_inverse_of.nd (i := 2) (j := 3) rfl rfl (by decide) rfl rfl trivial (R.var (i := 3) rfl (.inl rfl) rfl) (R.sub (R.var (i := 2) rfl (.inl rfl) rfl) (R.mul (wide_mul b3 b2 (by decide) (by decide) (by decide)) (R.var (i := 6) rfl (.inl rfl) rfl) (R.var (i := 3) rfl (.inl rfl) rfl))) fun H4 l4 _ => ?_
    refine S.parI (U := none) rfl sc_inverse_of.nd (i := 4) (j := 5) rfl rfl (by decide) rfl rfl trivial (R.var (i := 5) rfl (.inl rfl) rfl) (R.sub (R.var (i := 4) rfl (.inl rfl) rfl) (R.mul (wide_mul b3 b4 (by decide) (by decide) (by decide)) (R.var (i := 6) rfl (.inl rfl) rfl) (R.var (i := 5) rfl (.inl rfl) rfl))) fun H5 l5 _ => ?_
    have er : one - one / other * other = one % other := by rw [Int.emod_def, Int.mul_comm]
    have hr0 := Int.emod_nonneg one hne
    have hr1 := Int.emod_lt_of_pos one hp
    refine S.nil ⟨⟨other, one - one / other * other, right, left - one / other * right, _, (((l.trans l2).trans l3).trans l4).trans l5, rfl, by omega, by omega, by omega, h4, ?_, ?_, ?_⟩, ?_⟩
    · obtain ⟨u, hu⟩ := h3
      obtain ⟨v, hv⟩ := h4
      exact ⟨u - one / other * v, by rw [Int.mul_sub, ← hu, Int.mul_left_comm m, ← hv]; simp only [Int.sub_mul, Int.mul_sub, Int.mul_assoc]; omega⟩
    · rw [er, ← h5, gcd_mod, Int.gcd_comm]
    · have := inv_turn (left := left) hp h1 h6
      rw [Nat.mul_comm (left - _).natAbs] at this ⊢
      rw [Nat.mul_comm other.natAbs] at this
      rw [Nat.mul_comm other.natAbs]
      exact this
    · show ((one - one / other * other) : Int).toNat < other.toNat
      omega
  · obtain ⟨one, other, left, right, x6, l, rfl, h0, h1, h2, h3, h4, h5, h6⟩ := w
    have e0 : other = 0 := Classical.byContradiction fun z => by
      have : decide (V.int other = V.int 0) = false := decide_eq_false fun q => z (V.int.inj q)
      rw [show slI _ 3 = other from rfl, this] at e
      cases e
    subst e0
    rw [Int.gcd_zero_right] at h5
    by_cases g : Int.gcd a m = 1
    · have : one = 1 := by omega
      subst this
      exact ⟨left, _, _, .inl ⟨l.trans l2, rfl, h3⟩⟩
    · exact ⟨0, none, none, .inr ⟨one, left, _, _, l.trans l2, rfl, g⟩⟩
  · have fin : ∀ left, (Int.gcd a m = 1 → m ∣ left * a - 1) → InvOf a m (left % m) := fun left h => ⟨Int.emod_nonneg _ (by omega), Int.emod_lt_of_pos _ hm, fun g => by
      obtain ⟨u, hu⟩ := h g
      refine ⟨u - left / m * a, ?_⟩
      rw [Int.mul_sub, ← hu, Int.emod_def, Int.sub_mul, Int.mul_assoc]
      omega⟩
    obtain ⟨left, x5, x6, ⟨l, rfl, h⟩ | ⟨one, left, x5, x6, l, rfl, h⟩⟩ := w
    · exact S.ret (U := none) trivial (R.mod hm (R.var (i := 4) rfl (.inl rfl) rfl) (R.var (i := 1) rfl (.inl rfl) rfl)) fun v H2 l2 _ e => k v H2 (l.trans l2) trivial ⟨_, e, fin left fun _ => h⟩
    · exact S.ret (U := none) trivial (R.mod hm (R.var (i := 4) rfl (.inl rfl) rfl) (R.var (i := 1) rfl (.inl rfl) rfl)) fun v H2 l2 _ e => k v H2 (l.trans l2) trivial ⟨_, e, fin left fun g => absurd g h⟩
end K62
end
section
set_option Elab.async false
set_option linter.all false
set_option maxRecDepth 100000
set_option maxHeartbeats 4000000
namespace K62
open PySem PySem.Spec PyProof.Rows L2
variable {P : Program} {w : World} {K : PySem.W.Frag} {mg : Str → Option Value} {base : Heap}

/-! ### product_at, cell_sum -/
abbrev sp_product_at : Sp := FSp (α := List Int × List Int) nU (fun a vs H => ∃ v w, vs = [v, w] ∧ TpI a.1 v H ∧ TpI a.2 w H ∧ a.1.length ≤ 1000 ∧ Bd 400000 a.1 ∧ Bd 400000 a.2) (fun a => Is (.int (dot a.1 a.2)))
theorem ok_product_at (F : DefAt K mg "product_at" s_product_at ps_product_at) (B : Bln mg) : Callee P w K mg base 1 "product_at" ps_product_at sp_product_at := by
  refine callee_of F sc_product_at (fun vs H Q E h => ?_) fun f cdv A outer s H vs Q E hr h => ?_
  · obtain ⟨a, _, ⟨v, w, rfl, _⟩, _⟩ := h; rfl
  obtain ⟨⟨r, c⟩, _, ⟨v, w, rfl, ⟨p, rfl, hp⟩, ⟨q, rfl, hq⟩, hz, b1, b2⟩, k⟩ := h
  refine S.ret (U := none) trivial (R.sumN (H0 := H) (f := fun i => r.getD i 0 * c.getD i 0) rfl (by rfl) B.sum (R.lc (own := [("one", 2), ("other", 3)]) rfl sc_product_at.nd
    (Src.zipT (by rfl) B.zip (R.var (i := 0) rfl (.inl rfl) rfl) (R.var (i := 1) rfl (.inl rfl) rfl) hp hq) (blkOk_by (N := N_product_at) (sc := defScope s_product_at) (by decide +kernel))
    (fun J H1 l j wk => LcK.zip (j1 := 2) (j2 := 3) (fun i => Is (.int (r.getD i 0 * c.getD i 0))) wk ?_ l trivial (fun H' l' => ⟨l'.tup _ _ (l.tup _ _ hp), l'.tup _ _ (l.tup _ _ hq)⟩)
      (fun T x y H'' hT s Hb C cl fp => Tg.tup rfl hT (Tgs.cons (Tg.name sc_product_at.nd (i := 2) rfl (.inl rfl)) (Tgs.cons (Tg.name sc_product_at.nd (i := 3) rfl (.inl rfl)) Tgs.nil)))
      (fun i x y H'' hi l' j' hx hy s Hb C cl fp => ?_)))) fun v H1 l _ e => k v H1 l trivial ?_
  · rw [List.length_map]; show min r.length _ ≤ _; have : r.length ≤ 1000 := hz; omega
  · obtain ⟨rfl, hm1⟩ := getV hx
    obtain ⟨rfl, hm2⟩ := getV hy
    exact R.mul (b1.mul b2 hm1 hm2) (R.var (i := 2) rfl (.inl rfl) rfl) (R.var (i := 3) rfl (.inl rfl) rfl)
  · rw [List.length_map, List.length_map, dot_range] at e
    exact e
abbrev sp_cell_sum : Sp := FSp (α := List Int × List Int × Int) nU (fun a vs H => ∃ v w, vs = [v, w, .int a.2.2] ∧ TpI a.1 v H ∧ TpI a.2.1 w H ∧ a.1.length ≤ 1000 ∧ a.2.2.natAbs < 2 ^ 400000 ∧ Bd 400000 a.2.1) (fun a => TpI (addk a.1 a.2.2 a.2.1))
/-- a def with defaults -/
structure DefAtD (K : PySem.W.Frag) (mg : Str → Option Value) (x : Str) (st : Stmt) (ps : List Str) : Prop where
  ex : ∃ f fd, (∃ dvs kws, FunD K x x (defArgs st) (defBody st) (defScope st) dvs kws f fd) ∧ mg x = some (.ref f) ∧ Binds K fd ps []
theorem callee_ofD {x : Str} {st : Stmt} {N ps : List Str} {k : Nat} {sp : Sp} (F : DefAtD K mg x st ps) (Sc : FnScope N ps (defScope st)) (len : ∀ vs H Q E, sp vs H Q E → vs.length = ps.length)
    (body : ∀ (f : Addr) (cdv : Value) (A : Around) (outer : List Env) (s : Shared) (H : Hp) (vs : List V) (Q : VK) (E : XK), Room k (A.deeper (envOfC x (defScope st) s.heap.objs.size f cdv)) → sp vs H Q E →
      S (cxOf CX0 P w K mg base N x (defScope st) f cdv A outer s H E).nox (defBody st) (start N vs) H { nx := fun _ H' => Q .non H', rt := Q }) : Callee P w K mg base (k + 1) x ps sp := by
  obtain ⟨f, fd, ⟨dvs, kws, F⟩, hm, hb⟩ := F.ex
  exact ⟨f, fd, F.ok Sc len fun cdv A outer s H vs Q E hr h => ⟨_, PSs.nox (t := fun D' σ' H' => D' = _ ∧ σ' = _ ∧ H' = _) (body f cdv A outer s H vs Q E hr h), rfl, rfl, rfl⟩, hm, F.kp, hb⟩
theorem ok_cell_sum (F : DefAtD K mg "cell_sum" s_cell_sum ps_cell_sum) (B : Bln mg) : Callee P w K mg base 1 "cell_sum" ps_cell_sum sp_cell_sum := by
  refine callee_ofD F sc_cell_sum (fun vs H Q E h => ?_) fun f cdv A outer s H vs Q E hr h => ?_
  · obtain ⟨a, _, ⟨v, w, rfl, _⟩, _⟩ := h; rfl
  obtain ⟨⟨r, c, m⟩, _, ⟨v, w, rfl, ⟨p, rfl, hp⟩, ⟨q, rfl, hq⟩, hz, b1, b2⟩, k⟩ := h
  refine S.ret (U := none) trivial (R.tupleI (H0 := H) (f := fun i => r.getD i 0 + m * c.getD i 0) (l := addk r m c) ?_ (by rfl) B.tuple (R.lc (own := [("a", 3), ("b", 4)]) rfl sc_cell_sum.nd
    (Src.zipT (by rfl) B.zip (R.var (i := 0) rfl (.inl rfl) rfl) (R.var (i := 1) rfl (.inl rfl) rfl) hp hq) (blkOk_by (N := N_cell_sum) (sc := defScope s_cell_sum) (by decide +kernel))
    (fun J H1 l j wk => LcK.zip (j1 := 3) (j2 := 4) (fun i => Is (.int (r.getD i 0 + m * c.getD i 0))) wk ?_ l trivial (fun H' l' => ⟨l'.tup _ _ (l.tup _ _ hp), l'.tup _ _ (l.tup _ _ hq)⟩)
      (fun T x y H'' hT s Hb C cl fp => Tg.tup rfl hT (Tgs.cons (Tg.name sc_cell_sum.nd (i := 3) rfl (.inl rfl)) (Tgs.cons (Tg.name sc_cell_sum.nd (i := 4) rfl (.inl rfl)) Tgs.nil)))
      (fun i x y H'' hi l' j' hx hy s Hb C cl fp => ?_)))) fun v H1 l _ e => k v H1 l trivial e
  · rw [List.length_map, List.length_map]; exact zip_range (fun x y => x + m * y) r c
  · rw [List.length_map]; show min r.length _ ≤ _; have : r.length ≤ 1000 := hz; omega
  · obtain ⟨rfl, hm1⟩ := getV hx
    obtain ⟨rfl, hm2⟩ := getV hy
    exact R.add (R.var (i := 3) rfl (.inl rfl) rfl) (R.mul (wide_mul b1 (b2 _ hm2) (by decide) (by decide) (by decide)) (R.var (i := 2) rfl (.inr (.inl rfl)) rfl) (R.var (i := 4) rfl (.inl rfl) rfl))

/-! ### cells -/
abbrev sp_is_cell_row : Sp := FSp (α := List Int) nU (fun l vs H => ∃ v, vs = [v] ∧ TpI l v H ∧ 1 ≤ l.length ∧ l.length ≤ 3) (fun _ => Is (.bl true))
theorem ok_is_cell_row (F : DefAt K mg "is_cell_row" s_is_cell_row ps_is_cell_row) (B : Bln mg) (C : Cst mg) (C1 : Callee P w K mg base 2 "are_integers" ps_are_integers sp_are_integers) : Callee P w K mg base 3 "is_cell_row" ps_is_cell_row sp_is_cell_row := by
  refine callee_of F sc_is_cell_row (fun vs H Q E h => ?_) fun f cdv A outer s H vs Q E hr h => ?_
  · obtain ⟨a, _, ⟨v, rfl, _⟩, _⟩ := h; rfl
  obtain ⟨xs, _, ⟨v, rfl, ⟨p, rfl, hp⟩, h1, h3⟩, k⟩ := h
  obtain ⟨t, mB⟩ := C.MOST_BREADTH
  refine S.ret (U := none) trivial (R.andB (p := true) (R.callP C1 hr (by decide) (by rfl) (RA.last (R.var (i := 0) rfl (.inl rfl) rfl)) ?_) (fun _ => R.one (R.chain op_le op_le R.int (R.lenT (by rfl) B.len hp (R.var (i := 0) rfl (.inl rfl) rfl)) (R.glob (v := .int 3) (by rfl) mB ⟨t, rfl⟩)))) fun v H1 l1 j1 e => k v H1 l1 trivial ?_
  · rintro vs H1 l _ ⟨v, r, rfl, rfl, rfl⟩
    exact ⟨xs, ⟨_, rfl, ⟨p, rfl, l.tup _ _ hp⟩, by omega⟩, fun v H2 _ _ e => e⟩
  · rw [e, List.length_map, decide_eq_true (show (1 : Int) ≤ (xs.length : Int) by omega), decide_eq_true (show (xs.length : Int) ≤ 3 by omega)]; rfl
abbrev sp_is_cell_of : Sp := FSp (α := List Int × Nat) nU (fun x vs H => ∃ v, vs = [v, .int x.2] ∧ TpI x.1 v H ∧ 1 ≤ x.1.length ∧ x.1.length ≤ 3 ∧ x.1.length = x.2) (fun _ => Is (.bl true))
theorem ok_is_cell_of (F : DefAt K mg "is_cell_of" s_is_cell_of ps_is_cell_of) (B : Bln mg) (C1 : Callee P w K mg base 3 "is_cell_row" ps_is_cell_row sp_is_cell_row) : Callee P w K mg base 4 "is_cell_of" ps_is_cell_of sp_is_cell_of := by
  refine callee_of F sc_is_cell_of (fun vs H Q E h => ?_) fun f cdv A outer s H vs Q E hr h => ?_
  · obtain ⟨a, _, ⟨v, rfl, _⟩, _⟩ := h; rfl
  obtain ⟨⟨xs, d⟩, _, ⟨v, rfl, ⟨p, rfl, hp⟩, h1, h3, hd⟩, k⟩ := h
  refine S.ret (U := none) trivial (R.andB (p := true) (R.callP C1 hr (by decide) (by rfl) (RA.last (R.var (i := 0) rfl (.inl rfl) rfl)) ?_) (fun _ => R.one (R.orB (R.isNone (R.var (i := 1) rfl (.inl rfl) rfl)) (fun _ => R.one (R.eq rfl (R.lenT (by rfl) B.len hp (R.var (i := 0) rfl (.inl rfl) rfl)) (R.var (i := 1) rfl (.inl rfl) rfl)))))) fun v H1 l1 j1 e => k v H1 l1 trivial ?_
  · rintro vs H1 l _ ⟨v, r, rfl, rfl, rfl⟩
    exact ⟨xs, ⟨_, rfl, ⟨p, rfl, l.tup _ _ hp⟩, h1, h3⟩, fun v H2 _ _ e => e⟩
  · rw [e, List.length_map, decide_eq_true (show V.int (xs.length : Int) = V.int (d : Int) by rw [show xs.length = d from hd])]; simp [Is]

/-! ### periods -/
abbrev sp_is_period_number : Sp := FSp (α := (Nat × Nat) × Int) nU (fun x vs _ => vs = [.int x.2] ∧ x.1 ∈ PQs ∧ Per x.1.1 x.1.2 x.2) (fun _ => Is (.bl true))
theorem ok_is_period_number (F : DefAt K mg "is_period_number" s_is_period_number ps_is_period_number) (B : Bln mg) (C : Cst mg) (C1 : Callee P w K mg base 1 "is_integer" ps_is_integer sp_is_integer) : Callee P w K mg base 2 "is_period_number" ps_is_period_number sp_is_period_number := by
  refine callee_of F sc_is_period_number (fun vs H Q E h => ?_) fun f cdv A outer s H vs Q E hr h => ?_
  · obtain ⟨a, _, ⟨rfl, _⟩, _⟩ := h; rfl
  obtain ⟨⟨x, m⟩, _, ⟨rfl, hx, a, b, hab⟩, k⟩ := h
  have hab : m = ((x.1 ^ a * x.2 ^ b : Nat) : Int) := hab
  rw [← lft_two hx] at hab
  have hpos := lft_pos (a := a) (b := b) (k := 2) hx
  obtain ⟨t1, mP⟩ := C.MOST_PRIME
  obtain ⟨t2, mR⟩ := C.MOST_ROOT
  have fac := PQ_facts x hx
  -- not is_integer(thing) or thing < 1
  refine S.if (U := none) trivial (RW.pt (RW.orB (p := false) (q := false) (RT.not (φ := (· = true)) (RT.is (R.callP C1 hr (by decide) (by rfl) (RA.last (R.var (i := 0) rfl (.inl rfl) rfl)) ?_)) |>.imp fun k e => by rw [← Bool.not_not k, e]; rfl) (fun _ => RW.or1 ((RT.lt (R.var (i := 0) rfl (.inl rfl) rfl) R.int).imp fun k e => by rw [e]; exact decide_eq_false (by show ¬ m < 1; omega))))) (fun e => Bool.noConfusion (e : true = false)) fun _ H1 l1 _ => S.nil ?_
  · rintro vs H1 l _ ⟨v, r, rfl, rfl, rfl⟩
    exact ⟨m, rfl, fun v H2 _ _ e => e⟩
  -- root, left = 1, thing
  refine S.parI (U := none) rfl sc_is_period_number.nd (i := 1) (j := 2) rfl rfl (by decide) rfl rfl trivial R.int (R.var (i := 0) rfl (.inl rfl) rfl) fun H2 l2 _ => ?_
  -- the loop
  refine S.cut (Mid := fun σ' H' => ∃ root x3, Le none H H' ∧ σ' = [some (.int m), some (.int root), some (.int 1), x3] ∧ root ≤ 1000)
    (S1.for (U := none) (Src.range2 (lo := 2) (hi := 30) (by rfl) B.range (by decide) R.int (R.glob (by rfl) mP ⟨t1, rfl⟩)) trivial PassesOwn.never rfl fun J H3 l3 _ wk => ⟨_, _, _, wk, fun i σ' H' => ∃ (root : Nat) (x3 : Option V), Le none H H' ∧ σ' = [some (.int m), some (.int root), some (.int (lft x.1 x.2 a b (i + 2) : Nat)), x3] ∧ root ≤ rt x.1 x.2 (i + 2), ?_, fun _ _ _ _ _ => trivial, ?_, ?_⟩) ?_
  · refine ⟨1, none, (l1.trans l2).trans l3, ?_, ?_⟩
    · rw [show start N_is_period_number [V.int ((x, m).snd)] = [some (V.int m), none, none, none] from rfl, hab]; rfl
    · unfold rt; rw [if_neg (by omega)]; split <;> omega
  · rintro i v σ' H' H'' hi ⟨root, x3, l, rfl, hr'⟩ ⟨rfl, rfl⟩
    have hi : i < 28 := hi
    refine ⟨_, Tg.name sc_is_period_number.nd (i := 3) rfl (.inl rfl), ?_⟩
    obtain ⟨e, c, h1, h2, h3, h4, h5⟩ := lft_step hx (a := a) (b := b) (k := i + 2) (by omega) (by omega)
    have hc : 0 < c := by rw [← h3]; exact lft_pos hx
    have hk : (2 : Int) + (i : Int) = ((i + 2 : Nat) : Int) := by omega
    have hrb : root ≤ 1000 := Nat.le_trans hr' (Nat.le_trans (rt_le (by omega) (by omega)) fac.2.2.1)
    have dvd_iff : ∀ e', (V.int (((i + 2) ^ e' * c : Nat) % (2 + (i : Int))) = V.int 0) ↔ e' ≠ 0 := fun e' => by
      rw [hk]
      constructor
      · intro q z
        subst z
        have q := V.int.inj q
        rw [Nat.pow_zero, Nat.one_mul] at q
        exact not_dvd h2 (by omega) (Int.natCast_dvd_natCast.mp (Int.dvd_of_emod_eq_zero q))
      · intro z
        obtain ⟨e'', rfl⟩ : ∃ e'', e' = e'' + 1 := ⟨e' - 1, by omega⟩
        congr 1
        exact Int.emod_eq_zero_of_dvd (Int.natCast_dvd_natCast.mpr ⟨(i + 2) ^ e'' * c, by rw [Nat.pow_succ, Nat.mul_comm ((i + 2) ^ e''), Nat.mul_assoc]⟩)
    refine S.if (U := none) trivial (RT.eq rfl (R.mod (by omega) (R.var (i := 2) rfl (.inl rfl) rfl) (R.var (i := 3) rfl (.inl rfl) rfl)) R.int) (fun q H4 l4 _ => ?_) (fun q H4 l4 _ => S.nil (S.nil ?_))
    · have he : e ≠ 0 := (dvd_iff e).mp (by rw [← h1]; exact of_decide_eq_true q.symm)
      refine S.asgI (U := none) sc_is_period_number.nd (i := 1) rfl (.inl rfl) trivial (R.mul (wide_mul (a := 64) (b := 64) (by show ((root : Nat) : Int).natAbs < _; omega) (by omega) (by decide) (by decide) (by decide)) (R.var (i := 1) rfl (.inl rfl) rfl) (R.var (i := 3) rfl (.inl rfl) rfl)) fun H5 l5 _ => ?_
      refine S.one (S1.while (U := none) PassesOwn.never (fun σ' H' => ∃ e' : Nat, Le none H H' ∧ σ' = [some (.int m), some (.int ((root : Int) * (2 + (i : Int)))), some (.int ((((i + 2) ^ e' * c : Nat) : Int))), some (.int (2 + (i : Int)))]) (fun σ' _ => (slI σ' 2).toNat) ⟨e, (l.trans l4).trans l5, by rw [← h1]; rfl⟩ (fun _ _ _ => trivial)
        (φ := fun σ' _ b => b = decide (V.int (slI σ' 2 % (2 + (i : Int))) = V.int 0)) ?_ ?_ ?_)
      · rintro σ' H' ⟨e', l', rfl⟩
        exact RT.eq rfl (R.mod (by omega) (R.var (i := 2) rfl (.inl rfl) rfl) (R.var (i := 3) rfl (.inl rfl) rfl)) R.int
      · rintro σ' H' ⟨e', l', rfl⟩ q' H6 l6 _
        have he' : e' ≠ 0 := (dvd_iff e').mp (of_decide_eq_true q'.symm)
        obtain ⟨e'', rfl⟩ : ∃ e'', e' = e'' + 1 := ⟨e' - 1, by omega⟩
        refine S.asgI (U := none) sc_is_period_number.nd (i := 2) rfl (.inl rfl) trivial (R.fdiv (wide_div (b := 64) (by omega) (by omega) (by decide) (by decide)) (R.var (i := 2) rfl (.inl rfl) rfl) (R.var (i := 3) rfl (.inl rfl) rfl)) fun H7 l7 _ => S.nil ?_
        have ed : ((((i + 2) ^ (e'' + 1) * c : Nat) : Int)) / (2 + (i : Int)) = ((((i + 2) ^ e'' * c : Nat) : Int)) := by
          rw [hk, ← Int.natCast_ediv]
          congr 1
          rw [Nat.pow_succ, Nat.mul_comm ((i + 2) ^ e''), Nat.mul_assoc]
          exact Nat.mul_div_cancel_left _ (by omega)
        refine ⟨⟨e'', (l'.trans l6).trans l7, by rw [← ed]; rfl⟩, ?_⟩
        show (((((i + 2) ^ (e'' + 1) * c : Nat) : Int)) / (2 + (i : Int))).toNat < ((((i + 2) ^ (e'' + 1) * c : Nat) : Int)).toNat
        have hh : (i + 2) ^ (e'' + 1) * c = (i + 2) * ((i + 2) ^ e'' * c) := by rw [Nat.pow_succ, Nat.mul_comm ((i + 2) ^ e'') (i + 2), Nat.mul_assoc]
        rw [ed, Int.toNat_natCast, Int.toNat_natCast, hh]
        have h8 : 0 < (i + 2) ^ e'' * c := Nat.mul_pos (Nat.pow_pos (by omega)) hc
        have h9 : 2 * ((i + 2) ^ e'' * c) ≤ (i + 2) * ((i + 2) ^ e'' * c) := Nat.mul_le_mul_right _ (by omega)
        omega
      · rintro σ' H' ⟨e', l', rfl⟩ q' H6 l6 _
        have he' : e' = 0 := Classical.byContradiction fun z => by
          have : decide (V.int ((((i + 2) ^ e' * c : Nat) : Int) % (2 + (i : Int))) = V.int 0) = true := decide_eq_true ((dvd_iff e').mpr z)
          exact Bool.noConfusion (q'.trans this)
        subst he'
        refine S.nil ⟨root * (i + 2), some (.int (2 + (i : Int))), l'.trans l6, ?_, Nat.le_trans (Nat.mul_le_mul_right _ hr') (h4 he)⟩
        rw [show i + 1 + 2 = i + 2 + 1 by omega, h3, Nat.pow_zero, Nat.one_mul, hk, Int.natCast_mul]
    · have he : e = 0 := Classical.byContradiction fun z => by
        have : decide (V.int (((lft x.1 x.2 a b (i + 2) : Nat) : Int) % (2 + (i : Int))) = V.int 0) = true := decide_eq_true (by rw [h1]; exact (dvd_iff e).mpr z)
        exact Bool.noConfusion (q.trans this)
      refine ⟨root, some (.int (2 + (i : Int))), l.trans l4, ?_, Nat.le_trans hr' h5⟩
      rw [show i + 1 + 2 = i + 2 + 1 by omega, h3, h1, he, Nat.pow_zero, Nat.one_mul]; rfl
  · rintro σ' H' ⟨root, x3, l, rfl, hr'⟩
    refine ⟨root, x3, l, ?_, ?_⟩
    · show [some (V.int m), some (V.int root), some (V.int ((lft x.1 x.2 a b 30 : Nat) : Int)), x3] = _
      rw [lft_end hx]; rfl
    · have : rt x.1 x.2 30 ≤ 1000 := Nat.le_trans (rt_le (by omega) (by omega)) fac.2.2.1
      have hr' : root ≤ rt x.1 x.2 30 := hr'
      omega
  · rintro σ' H' ⟨root, x3, l, rfl, hr'⟩
    refine S.ret (U := none) trivial (R.andB (R.eq rfl (R.var (i := 2) rfl (.inl rfl) rfl) R.int) (fun _ => R.one (R.le (R.var (i := 1) rfl (.inl rfl) rfl) (R.glob (by rfl) mR ⟨t2, rfl⟩)))) fun v H2 l2 _ e => k v H2 (l.trans l2) trivial ?_
    rw [e, decide_eq_true hr']; rfl
end K62
end
section
set_option Elab.async false
set_option linter.all false
set_option maxRecDepth 100000
set_option maxHeartbeats 4000000
namespace K62
open PySem PySem.Spec PyProof.Rows L2
variable {P : Program} {w : World} {K : PySem.W.Frag} {mg : Str → Option Value} {base : Heap}
/-! ### data -/
def Rep2 {α : Type} (R : α → VP) (as : List α) (vs : List V) (H : Hp) : Prop := vs.length = as.length ∧ ∀ (i : Nat) (a : α) (v : V), as[i]? = some a → vs[i]? = some v → R a v H
theorem Rep2.tk {α : Type} {R : α → VP} [∀ a, Fz (R a)] {as : List α} {vs : List V} {H H' : Hp} (h : Rep2 R as vs H) (t : Tk H H') : Rep2 R as vs H' := ⟨h.1, fun i a v e1 e2 => Fz.mv _ _ _ t (h.2 i a v e1 e2)⟩
theorem Rep2.get {α : Type} {R : α → VP} {as : List α} {vs : List V} {H : Hp} (h : Rep2 R as vs H) {i : Nat} {v : V} (e : vs[i]? = some v) : ∃ a, as[i]? = some a ∧ R a v H := by
  have hi : i < as.length := by rw [← h.1]; exact (List.getElem?_eq_some_iff.mp e).1
  exact ⟨_, List.getElem?_eq_getElem hi, h.2 i _ v (List.getElem?_eq_getElem hi) e⟩
theorem Rep2.of {α : Type} {R : α → VP} {as : List α} {vs : List V} {H : Hp} (h : Rep2 R as vs H) {i : Nat} {a : α} (e : as[i]? = some a) : ∃ v, vs[i]? = some v ∧ R a v H := by
  have hi : i < vs.length := by rw [h.1]; exact (List.getElem?_eq_some_iff.mp e).1
  exact ⟨_, List.getElem?_eq_getElem hi, h.2 i a _ e (List.getElem?_eq_getElem hi)⟩
/-- a tuple of told things; a stripe; stripes -/
def TupR {α : Type} (R : α → VP) (as : List α) : VP := fun v H => ∃ p vs, v = .ref p ∧ H p = some (.tup vs) ∧ Rep2 R as vs H
instance {α : Type} {R : α → VP} [∀ a, Fz (R a)] {as : List α} : Fz (TupR R as) := ⟨fun _ _ _ t ⟨p, vs, e, h, r⟩ => ⟨p, vs, e, t p _ h, r.tk t⟩⟩
def StR (s : Stp) : VP := fun v H => ∃ p vc, v = .ref p ∧ H p = some (.tup [.int s.m, vc, .int s.r]) ∧ TpI s.c vc H
instance {s : Stp} : Fz (StR s) := ⟨fun _ _ _ t ⟨p, vc, e, h, r⟩ => ⟨p, vc, e, t p _ h, Fz.mv _ _ _ t r⟩⟩

/-! ### rows and stripes as they are asked -/
abbrev sp_is_class_row : Sp := FSp (α := Int × List Int) nU (fun x vs H => ∃ v, vs = [.int x.1, v] ∧ TpI x.2 v H ∧ 1 ≤ x.2.length ∧ x.2.length ≤ 3 ∧ (∀ y ∈ x.2, 0 ≤ y ∧ y < x.1) ∧ gcdl x.1.natAbs x.2 = 1) (fun _ => Is (.bl true))
theorem gcdl_take {m : Nat} {c : List Int} {i : Nat} (hi : i < c.length) : gcdl m (c.take (i + 1)) = Nat.gcd (gcdl m (c.take i)) (c.getD i 0).natAbs := by
  unfold gcdl
  rw [List.take_add_one, List.getElem?_eq_getElem hi, List.getD_eq_getElem?_getD, List.getElem?_eq_getElem hi, Option.toList_some, List.foldl_append]
  rfl
theorem ok_is_class_row (F : DefAt K mg "is_class_row" s_is_class_row ps_is_class_row) (B : Bln mg) (C : Cst mg) (C1 : Callee P w K mg base 3 "is_cell_row" ps_is_cell_row sp_is_cell_row) : Callee P w K mg base 4 "is_class_row" ps_is_class_row sp_is_class_row := by
  refine callee_of F sc_is_class_row (fun vs H Q E h => ?_) fun f cdv A outer s H vs Q E hr h => ?_
  · obtain ⟨a, _, ⟨v, rfl, _⟩, _⟩ := h; rfl
  obtain ⟨⟨m, c⟩, _, ⟨v, rfl, ⟨p, rfl, hp⟩, h1, h3, hb, hg⟩, k⟩ := h
  have hb : ∀ y ∈ c, 0 ≤ y ∧ y < m := hb
  have h3 : c.length ≤ 3 := h3
  refine S.if (U := none) trivial (RW.pt (RW.orB (p := false) (q := false) ((RT.not (φ := (· = true)) (RT.is (R.callP C1 hr (by decide) (by rfl) (RA.last (R.var (i := 1) rfl (.inl rfl) rfl)) ?_))).imp fun k e => by rw [← Bool.not_not k, e]; rfl)
    (fun _ => RW.or1 ((RT.not (φ := (· = true)) (RT.is (R.cast (R.allN (U := none) (H0 := H) (n := (c.map V.int).length) (f := fun i => decide (0 ≤ c.getD i 0) && decide (c.getD i 0 < m)) rfl (by rfl) B.all (R.lc (own := [("number", 3)]) rfl sc_is_class_row.nd (Src.tup (R.var (i := 1) rfl (.inl rfl) rfl) hp) (blkOk_by (N := N_is_class_row) (sc := defScope s_is_class_row) (by decide +kernel))
      (fun J H1 l j wk => LcK.map (fun i => Is (.bl (decide (0 ≤ c.getD i 0) && decide (c.getD i 0 < m)))) wk (by rw [List.length_map]; omega) l trivial (fun i H x H' => yAt_le) (fun H' l' => l'.tup _ _ (l.tup _ _ hp)) (fun i x H' H'' hi l' j' y => ?_)))) ?_))).imp fun k e => by rw [← Bool.not_not k, e]; rfl)))) (fun e => Bool.noConfusion (e : true = false)) fun _ H1 l1 _ => S.nil ?_
  · rintro vs H1 l _ ⟨v, r, rfl, rfl, rfl⟩
    exact ⟨c, ⟨_, rfl, ⟨p, rfl, l.tup _ _ hp⟩, h1, h3⟩, fun v H2 _ _ e => e⟩
  · obtain ⟨rfl, hx⟩ := y
    obtain ⟨rfl, _⟩ := getV hx
    exact ⟨_, fun s Hb C cl fp => Tg.name sc_is_class_row.nd (i := 3) rfl (.inl rfl), rfl, fun s Hb C cl fp => R.chain op_le op_lt R.int (R.var (i := 3) rfl (.inl rfl) rfl) (R.var (i := 0) rfl (.inr (.inl rfl)) rfl)⟩
  · congr 1
    rw [List.all_eq_true]
    intro i hi
    rw [List.mem_range, List.length_map] at hi
    have hm : c.getD i 0 ∈ c := by rw [List.getD_eq_getElem?_getD, List.getElem?_eq_getElem hi]; exact List.getElem_mem hi
    obtain ⟨q1, q2⟩ := hb _ hm
    rw [decide_eq_true q1, decide_eq_true q2]; rfl
  refine S.asgI (U := none) sc_is_class_row.nd (i := 2) rfl (.inl rfl) trivial (R.var (i := 0) rfl (.inr (.inl rfl)) rfl) fun H2 l2 _ => ?_
  refine S.cut (Mid := fun σ' H' => ∃ x3, Le none H H' ∧ σ' = [some (.int m), some (.ref p), some (.int ((gcdl m.natAbs c : Nat) : Int)), x3])
    (S1.for (U := none) (Src.tup (R.var (i := 1) rfl (.inl rfl) rfl) ((l1.trans l2).tup _ _ hp)) trivial PassesOwn.never rfl fun J H3 l3 _ wk => ⟨_, _, _, wk, fun i σ' H' => ∃ (x2 : Int) (x3 : Option V), Le none H H' ∧ σ' = [some (.int m), some (.ref p), some (.int x2), x3] ∧ x2.natAbs = gcdl m.natAbs (c.take i) ∧ (i ≠ 0 → 0 ≤ x2), ?_, fun i σ' H' _ ⟨_, _, l, _⟩ => l.tup _ _ hp, ?_, ?_⟩) ?_
  · exact ⟨m, none, (l1.trans l2).trans l3, rfl, rfl, fun z => absurd rfl z⟩
  · rintro i v σ' H' H'' hi ⟨x2, x3, l, rfl, hx, _⟩ ⟨rfl, hv⟩
    obtain ⟨rfl, hm⟩ := getV hv
    rw [List.length_map] at hi
    refine ⟨_, Tg.name sc_is_class_row.nd (i := 3) rfl (.inl rfl), ?_⟩
    refine S.asgI (U := none) sc_is_class_row.nd (i := 2) rfl (.inl rfl) trivial (R.gcd (by rfl) C.gcd (R.var (i := 2) rfl (.inl rfl) rfl) (R.var (i := 3) rfl (.inl rfl) rfl)) fun H4 l4 _ => S.nil ⟨_, _, l.trans l4, rfl, ?_, fun _ => Int.natCast_nonneg _⟩
    rw [gcdl_take hi, ← hx, Int.natAbs_natCast]
  · rintro σ' H' ⟨x2, x3, l, rfl, hx, h0⟩
    refine ⟨x3, l, ?_⟩
    rw [List.length_map, List.take_length] at hx
    have := h0 (by rw [List.length_map]; have : 1 ≤ c.length := h1; omega)
    rw [← hx, show ((x2.natAbs : Nat) : Int) = x2 by omega]
  · rintro σ' H' ⟨x3, l, rfl⟩
    refine S.ret (U := none) trivial (R.eq rfl (R.var (i := 2) rfl (.inl rfl) rfl) R.int) fun v H3 l3 _ e => k v H3 (l.trans l3) trivial ?_
    rw [e, show gcdl m.natAbs c = 1 from hg]; rfl

abbrev sp_is_stripe_row : Sp := FSp (α := (Nat × Nat) × Nat × Stp) nU (fun x vs H => ∃ v, vs = [v] ∧ StR x.2.2 v H ∧ x.1 ∈ PQs ∧ VS x.1.1 x.1.2 x.2.1 x.2.2 ∧ 1 ≤ x.2.1 ∧ x.2.1 ≤ 3) (fun _ => Is (.bl true))
theorem ok_is_stripe_row (F : DefAt K mg "is_stripe_row" s_is_stripe_row ps_is_stripe_row) (B : Bln mg) (C1 : Callee P w K mg base 1 "is_integer" ps_is_integer sp_is_integer) (C2 : Callee P w K mg base 2 "is_period_number" ps_is_period_number sp_is_period_number)
    (C3 : Callee P w K mg base 4 "is_class_row" ps_is_class_row sp_is_class_row) : Callee P w K mg base 5 "is_stripe_row" ps_is_stripe_row sp_is_stripe_row := by
  refine callee_of F sc_is_stripe_row (fun vs H Q E h => ?_) fun f cdv A outer s H vs Q E hr h => ?_
  · obtain ⟨a, _, ⟨v, rfl, _⟩, _⟩ := h; rfl
  obtain ⟨⟨x, d, t⟩, _, ⟨v, rfl, ⟨p, vc, rfl, hp, hc⟩, hx, V, d1, d3⟩, k⟩ := h
  have hp : H p = some (.tup [.int t.m, vc, .int t.r]) := hp
  have hc : TpI t.c vc H := hc
  have V : VS x.1 x.2 d t := V
  have d1 : 1 ≤ d := d1
  have d3 : d ≤ 3 := d3
  refine S.if (U := none) trivial (RW.pt (RW.orB (p := false) (q := false) ((RT.not (φ := (· = true)) (RT.is (R.isi (k := true) (fun H1 l => .base (.tup (l.tup _ _ hp))) (kit_ty (by decide +kernel)) (by rfl) B.isinstance (R.var (i := 0) rfl (.inl rfl) rfl) (R.bltn (by rfl) B.tuple PyProof.Rows.boot_tuple rfl)))).imp fun k e => by rw [← Bool.not_not k, e]; rfl)
    (fun _ => RW.orB (p := false) (q := false) ((RT.ne rfl (R.lenT (by rfl) B.len hp (R.var (i := 0) rfl (.inl rfl) rfl)) R.int)) (fun _ => RW.or1 ((RT.not (φ := (· = true)) (RT.is (R.callP C2 hr (by decide) (by rfl) (RA.last (R.ixT (v := .int t.m) hp rfl (R.var (i := 0) rfl (.inl rfl) rfl) R.int)) ?_))).imp fun k e => by rw [← Bool.not_not k, e]; rfl))))) (fun e => Bool.noConfusion (e : true = false)) fun _ H1 l1 _ => S.nil ?_
  · rintro vs H1 l _ ⟨v, r, rfl, rfl, rfl⟩
    exact ⟨(x, t.m), ⟨rfl, hx, V.per⟩, fun v H2 _ _ e => e⟩
  have hp1 := l1.tup _ _ hp
  refine S.ret (U := none) trivial (R.andB (p := true) (R.callP C3 hr (by decide) (by rfl) (RA.cons (R.ixT (v := .int t.m) hp1 rfl (R.var (i := 0) rfl (.inl rfl) rfl) R.int) (RA.last (R.ixT (v := vc) hp1 rfl (R.var (i := 0) rfl (.inl rfl) rfl) R.int))) ?_)
    (fun _ => R.andB (p := true) (R.callP C1 hr (by decide) (by rfl) (RA.last (R.ixT (v := .int t.r) hp1 rfl (R.var (i := 0) rfl (.inl rfl) rfl) R.int)) ?_) (fun _ => R.one (R.chain op_le op_lt R.int (R.ixT (v := .int t.r) hp1 rfl (R.var (i := 0) rfl (.inl rfl) rfl) R.int) (R.ixT (v := .int t.m) hp1 rfl (R.var (i := 0) rfl (.inl rfl) rfl) R.int))))) fun v H2 l2 _ e => k v H2 (l1.trans l2) trivial ?_
  · rintro vs H2 l _ ⟨v, r, rfl, rfl, v', r', rfl, rfl, rfl⟩
    exact ⟨(t.m, t.c), ⟨_, rfl, Fz.le (l1.trans l) hc, by show 1 ≤ t.c.length; rw [V.len]; exact d1, by show t.c.length ≤ 3; rw [V.len]; exact d3, V.cs, V.prim⟩, fun v H2 _ _ e => e⟩
  · rintro vs H1 l _ ⟨v, r, rfl, rfl, rfl⟩
    exact ⟨t.r, rfl, fun v H2 _ _ e => e⟩
  · rw [e, decide_eq_true V.r0, decide_eq_true V.r1]; rfl

abbrev sp_lies_on : Sp := FSp (α := Stp × List Int) nU (fun x vs H => ∃ v w, vs = [v, w] ∧ StR x.1 v H ∧ TpI x.2 w H ∧ 0 < x.1.m ∧ x.1.c.length ≤ 1000 ∧ Bd 400000 x.1.c ∧ Bd 400000 x.2) (fun x => Is (.bl (decide ((dot x.1.c x.2 - x.1.r) % x.1.m = 0))))
theorem ok_lies_on (F : DefAt K mg "lies_on" s_lies_on ps_lies_on) (C1 : Callee P w K mg base 1 "product_at" ps_product_at sp_product_at) : Callee P w K mg base 2 "lies_on" ps_lies_on sp_lies_on := by
  refine callee_of F sc_lies_on (fun vs H Q E h => ?_) fun f cdv A outer s H vs Q E hr h => ?_
  · obtain ⟨a, _, ⟨v, w, rfl, _⟩, _⟩ := h; rfl
  obtain ⟨⟨t, y⟩, _, ⟨v, w, rfl, ⟨p, vc, rfl, hp, hc⟩, hy, hm, hl, b1, b2⟩, k⟩ := h
  refine S.ret (U := none) trivial (R.eq rfl (R.mod hm (R.sub (i := dot t.c y) (R.callP C1 hr (by decide) (by rfl) (RA.cons (R.ixT (v := vc) hp rfl (R.var (i := 0) rfl (.inl rfl) rfl) R.int) (RA.last (R.var (i := 1) rfl (.inl rfl) rfl))) ?_) (R.ixT (v := .int t.r) hp rfl (R.var (i := 0) rfl (.inl rfl) rfl) R.int)) (R.ixT (v := .int t.m) hp rfl (R.var (i := 0) rfl (.inl rfl) rfl) R.int)) R.int) fun v H1 l1 _ e => k v H1 l1 trivial ?_
  · rintro vs H1 l _ ⟨v, r, rfl, rfl, v', r', rfl, rfl, rfl⟩
    exact ⟨(t.c, y), ⟨_, _, rfl, Fz.le l hc, Fz.le l hy, hl, b1, b2⟩, fun v H2 _ _ e => e⟩
  · rw [e, dec_int]
    show V.bl _ = _
    congr 1
end K62
end
section
set_option linter.all false
/-! Rows, spans, the narrowing step. -/
namespace K62
theorem addk_get {a b : List Int} {k : Int} {i : Nat} (h1 : i < a.length) (h2 : i < b.length) : (addk a k b)[i]? = some (a[i] + k * b[i]) := by
  unfold addk
  rw [List.getElem?_zipWith, List.getElem?_eq_getElem h1, List.getElem?_eq_getElem h2]
theorem dot_nil_l (c : List Int) : dot [] c = 0 := rfl
theorem dot_nil_r (r : List Int) : dot r [] = 0 := by cases r <;> rfl
theorem dot_cons (x y : Int) (r c : List Int) : dot (x :: r) (y :: c) = x * y + dot r c := by
  unfold dot; rw [List.zipWith_cons_cons, List.sum_cons]
theorem addk_cons (x y k : Int) (a b : List Int) : addk (x :: a) k (y :: b) = (x + k * y) :: addk a k b := rfl
theorem dot_addk (k : Int) : ∀ (r a b : List Int), a.length = b.length → dot r (addk a k b) = dot r a + k * dot r b
  | [], a, b, _ => by rw [dot_nil_l, dot_nil_l, dot_nil_l]; omega
  | x :: r, [], [], _ => by show dot _ [] = _; rw [dot_nil_r]; omega
  | x :: r, y :: a, z :: b, h => by
    rw [addk_cons, dot_cons, dot_cons, dot_cons, dot_addk k r a b (by simpa using h), Int.mul_add, Int.mul_add, Int.mul_left_comm]
    omega
theorem dot_comm : ∀ (r c : List Int), dot r c = dot c r
  | [], c => by rw [dot_nil_l, dot_nil_r]
  | x :: r, [] => by rw [dot_nil_l, dot_nil_r]
  | x :: r, y :: c => by rw [dot_cons, dot_cons, dot_comm r c, Int.mul_comm]
theorem dot_zeros (d : Nat) : ∀ r : List Int, dot r (List.replicate d 0) = 0 := by
  induction d with
  | zero => intro r; exact dot_nil_r r
  | succ n ih =>
    intro r
    cases r with
    | nil => rfl
    | cons x r => rw [List.replicate_succ, dot_cons, ih, Int.mul_zero]; rfl
theorem addk_zeros (k : Int) : ∀ (a : List Int), addk a k (List.replicate a.length 0) = a
  | [] => rfl
  | x :: a => by rw [List.length_cons, List.replicate_succ, addk_cons, addk_zeros k a, Int.mul_zero, Int.add_zero]
theorem zeros_addk : ∀ (b : List Int), addk (List.replicate b.length 0) 1 b = b
  | [] => rfl
  | x :: b => by rw [List.length_cons, List.replicate_succ, addk_cons, zeros_addk b, Int.one_mul, Int.zero_add]
theorem addk_zero : ∀ (a b : List Int), a.length = b.length → addk a 0 b = a
  | [], b, _ => by cases b <;> rfl
  | x :: a, [], h => by cases h
  | x :: a, y :: b, h => by rw [addk_cons, addk_zero a b (by simpa using h), Int.zero_mul, Int.add_zero]
theorem addk_addk (k j : Int) : ∀ (v w s : List Int), v.length = w.length → w.length = s.length → addk v k (addk w j s) = addk (addk v k w) (k * j) s
  | [], [], [], _, _ => rfl
  | x :: v, y :: w, z :: s, h1, h2 => by
    rw [addk_cons, addk_cons, addk_cons, addk_cons, addk_addk k j v w s (by simpa using h1) (by simpa using h2), Int.mul_add, Int.mul_assoc, Int.add_assoc]
theorem addk_comm (k j : Int) : ∀ (v w s : List Int), v.length = w.length → w.length = s.length → addk (addk v k w) j s = addk (addk v j s) k w
  | [], [], [], _, _ => rfl
  | x :: v, y :: w, z :: s, h1, h2 => by
    rw [addk_cons, addk_cons, addk_cons, addk_cons, addk_comm k j v w s (by simpa using h1) (by simpa using h2)]
    congr 1; omega
theorem addk_scale (k j : Int) : ∀ (w s : List Int), addk w (k * j) s = addk w j (s.map (k * ·))
  | [], s => by cases s <;> rfl
  | x :: w, [] => rfl
  | x :: w, y :: s => by
    rw [List.map_cons, addk_cons, addk_cons, addk_scale k j w s]
    congr 2
    rw [Int.mul_comm k j, Int.mul_assoc]
theorem dot_scale (k : Int) : ∀ (r s : List Int), dot r (s.map (k * ·)) = k * dot r s
  | [], s => by rw [dot_nil_l, dot_nil_l, Int.mul_zero]
  | x :: r, [] => by rw [List.map_nil, dot_nil_r, Int.mul_zero]
  | x :: r, y :: s => by rw [List.map_cons, dot_cons, dot_cons, dot_scale k r s, Int.mul_add, Int.mul_left_comm]
theorem addk_back (k : Int) : ∀ (v w : List Int), v.length = w.length → addk (addk v k w) (-k) w = v
  | [], w, _ => by cases w <;> rfl
  | x :: v, [], h => by cases h
  | x :: v, y :: w, h => by
    rw [addk_cons, addk_cons, addk_back k v w (by simpa using h)]
    congr 1
    rw [Int.neg_mul]; omega

theorem addk_add (j k : Int) : ∀ (w s : List Int), addk (addk w j s) k s = addk w (j + k) s
  | [], s => by cases s <;> rfl
  | x :: w, [] => rfl
  | x :: w, y :: s => by
    rw [addk_cons, addk_cons, addk_cons, addk_add j k w s, Int.add_mul]
    congr 1; omega

/-! ### spans -/
inductive Span (d : Nat) (S : List Row) : Row → Prop
  | zero : Span d S (List.replicate d 0)
  | add {v s : Row} (k : Int) : Span d S v → s ∈ S → Span d S (addk v k s)
def Lens (d : Nat) (S : List Row) : Prop := ∀ s ∈ S, s.length = d
section
variable {d : Nat} {S T : List Row} {v w : Row}
theorem Span.len (hS : Lens d S) (h : Span d S v) : v.length = d := by
  induction h with
  | zero => simp
  | add k _ hs ih => rw [addk_len, ih, hS _ hs, Nat.min_self]
theorem Span.mem (hS : Lens d S) {s : Row} (hs : s ∈ S) : Span d S s := by
  have h1 : Span d S (addk (List.replicate d 0) 1 s) := Span.add 1 Span.zero hs
  have h2 := hS s hs
  subst h2
  rwa [zeros_addk] at h1
theorem Span.comb (hS : Lens d S) (hv : Span d S v) (k : Int) (hw : Span d S w) : Span d S (addk v k w) := by
  induction hw with
  | zero =>
    have h2 := hv.len hS
    subst h2
    rw [addk_zeros]; exact hv
  | add j hw' hs ih =>
    rw [addk_addk k j _ _ _ (by rw [hv.len hS, hw'.len hS]) (by rw [hw'.len hS, hS _ hs])]
    exact Span.add _ ih hs
theorem Span.sub (hT : Lens d T) (h : ∀ s ∈ S, Span d T s) (hv : Span d S v) : Span d T v := by
  induction hv with
  | zero => exact Span.zero
  | add k _ hs ih => exact ih.comb hT k (h _ hs)
theorem Span.dvd {m : Int} {r : Row} (hS : Lens d S) (h : ∀ s ∈ S, m ∣ dot r s) (hv : Span d S v) : m ∣ dot r v := by
  induction hv with
  | zero => rw [dot_zeros]; exact Int.dvd_zero m
  | add k hv' hs ih =>
    rw [dot_addk k _ _ _ (by rw [hv'.len hS, hS _ hs])]
    exact Int.dvd_add ih (Int.dvd_mul_of_dvd_right (h _ hs))
theorem Span.split {s0 : Row} (hS : Lens d (s0 :: S)) (h : Span d (s0 :: S) v) : ∃ k w, Span d S w ∧ v = addk w k s0 := by
  have hS' : Lens d S := fun s hs => hS s (List.mem_cons_of_mem _ hs)
  have h0 : s0.length = d := hS s0 (List.mem_cons_self ..)
  induction h with
  | zero => exact ⟨0, _, Span.zero, by rw [addk_zero]; simp [h0]⟩
  | add k hv hs ih =>
    obtain ⟨j, w, hw, rfl⟩ := ih
    have hl := hw.len hS'
    rcases List.mem_cons.mp hs with rfl | hs
    · exact ⟨j + k, w, hw, addk_add j k w _⟩
    · exact ⟨j, addk w k _, Span.add k hw hs, addk_comm j k _ _ _ (by rw [hl, h0]) (by rw [h0, hS' _ hs])⟩
end
/-- the steps gathered: all but the first are 0 along the row -/
structure Gat (d : Nat) (steps : List Row) (row : Row) (m : Int) (left : List Row) (v : Int) : Prop where
  len : left.length = steps.length
  lens : Lens d left
  to : ∀ s ∈ left, Span d steps s
  fro : ∀ s ∈ steps, Span d left s
  v0 : 0 ≤ v
  v1 : v < m
  hd : ∀ s, left[0]? = some s → m ∣ dot row s - v
  tl : ∀ i s, 1 ≤ i → left[i]? = some s → m ∣ dot row s
/-- what narrowing brings -/
structure Nar (d : Nat) (cell : Row) (steps : List Row) (row : Row) (r m : Int) (cell' : Row) (steps' : List Row) : Prop where
  len : steps'.length = steps.length
  lens : Lens d steps'
  to : ∀ s ∈ steps', Span d steps s
  dvd : ∀ s ∈ steps', m ∣ dot row s
  fro : ∀ y, Span d steps y → m ∣ dot row y → Span d steps' y
  cell : ∃ y, Span d steps y ∧ cell' = addk cell 1 y
  on : m ∣ dot row cell' - r
  dual : ∀ (F : Row) (P : Int), m ∣ P → 0 < P → (∀ s ∈ steps', P ∣ dot F s) → ∃ l : Int, ∀ s ∈ steps, P ∣ dot F s - l * (P / m) * dot row s
def NarNone (steps : List Row) (cell row : Row) (r m : Int) : Prop := ∃ g : Int, 0 < g ∧ g ∣ m ∧ (∀ s ∈ steps, g ∣ dot row s) ∧ ¬ g ∣ dot row cell - r

theorem nar_none {d : Nat} {steps left : List Row} {cell row : Row} {r m v : Int} (G : Gat d steps row m left v) (hm : 0 < m) (hw : ¬ ((Nat.gcd v.natAbs m.natAbs : Nat) : Int) ∣ (r - dot row cell) % m) : NarNone steps cell row r m := by
  have gm : ((Nat.gcd v.natAbs m.natAbs : Nat) : Int) ∣ m := Int.gcd_dvd_right v m
  have gv : ((Nat.gcd v.natAbs m.natAbs : Nat) : Int) ∣ v := Int.gcd_dvd_left v m
  refine ⟨_, ?_, gm, fun s hs => ?_, fun h => hw ?_⟩
  · have : Nat.gcd v.natAbs m.natAbs ≠ 0 := fun z => by
      have := (Nat.gcd_eq_zero_iff.mp z).2; omega
    omega
  · refine Span.dvd G.lens (fun t ht => ?_) (G.fro s hs)
    obtain ⟨i, hi, rfl⟩ := List.mem_iff_getElem.mp ht
    by_cases h0 : i = 0
    · subst h0
      have h1 := Int.dvd_trans gm (G.hd _ (List.getElem?_eq_getElem hi))
      have := Int.dvd_add h1 gv
      rwa [Int.sub_add_cancel] at this
    · exact Int.dvd_trans gm (G.tl i _ (by omega) (List.getElem?_eq_getElem hi))
  · rw [Int.emod_def]
    refine Int.dvd_sub ?_ (Int.dvd_mul_of_dvd_left gm)
    rw [← Int.neg_sub]
    exact Int.dvd_neg.mpr h

theorem nar_some {d : Nat} {steps rest : List Row} {cell row s0 : Row} {r m v g inv : Int} (G : Gat d steps row m (s0 :: rest) v) (hS : Lens d steps) (hc : cell.length = d) (hm : 0 < m) (hg : g = ((Nat.gcd v.natAbs m.natAbs : Nat) : Int)) (hw : g ∣ (r - dot row cell) % m)
    (hi : (m / g) ∣ inv * (v / g) - 1) : Nar d cell steps row r m (addk cell ((r - dot row cell) % m / g * inv % (m / g)) s0) (s0.map (m / g * ·) :: rest) := by
  have gm : g ∣ m := hg ▸ Int.gcd_dvd_right v m
  have gv : g ∣ v := hg ▸ Int.gcd_dvd_left v m
  have hg0 : 0 < g := by
    have : Nat.gcd v.natAbs m.natAbs ≠ 0 := fun z => by
      have := (Nat.gcd_eq_zero_iff.mp z).2; omega
    omega
  obtain ⟨o, rfl⟩ := gm
  obtain ⟨u, rfl⟩ := gv
  obtain ⟨q, hq⟩ := hw
  have e1 : g * o / g = o := Int.mul_ediv_cancel_left _ (by omega)
  have e2 : g * u / g = u := Int.mul_ediv_cancel_left _ (by omega)
  rw [e1, e2] at hi
  rw [e1, hq, Int.mul_ediv_cancel_left _ (show g ≠ 0 by omega)]
  have ho : 0 < o := Int.pos_of_mul_pos_right hm (by omega)
  have h0 : s0.length = d := G.lens s0 (List.mem_cons_self ..)
  have hR : Lens d rest := fun s hs => G.lens s (List.mem_cons_of_mem _ hs)
  have hN : Lens d (s0.map (o * ·) :: rest) := fun s hs => by
    rcases List.mem_cons.mp hs with rfl | hs
    · rw [List.length_map, h0]
    · exact hR s hs
  have r0 : g * o ∣ dot row s0 - g * u := G.hd s0 rfl
  have rr : ∀ s ∈ rest, g * o ∣ dot row s := fun s hs => by
    obtain ⟨i, hi, rfl⟩ := List.mem_iff_getElem.mp hs
    exact G.tl (i + 1) _ (by omega) (by rw [List.getElem?_cons_succ, List.getElem?_eq_getElem hi])
  have sp0 : Span d steps s0 := G.to s0 (List.mem_cons_self ..)
  have map_eq : s0.map (o * ·) = addk (List.replicate d 0) o s0 := by
    rw [← Int.mul_one o, addk_scale, ← (show (s0.map (o * ·)).length = d by rw [List.length_map, h0]), zeros_addk, Int.mul_one]
  refine ⟨by rw [← G.len]; rfl, hN, fun s hs => ?_, fun s hs => ?_, fun y hy hd => ?_, ⟨addk (List.replicate d 0) (q * inv % o) s0, Span.comb hS Span.zero _ sp0, ?_⟩, ?_, fun F P hP hP0 hF => ?_⟩
  · rcases List.mem_cons.mp hs with rfl | hs
    · rw [map_eq]; exact Span.comb hS Span.zero _ sp0
    · exact G.to s (List.mem_cons_of_mem _ hs)
  · rcases List.mem_cons.mp hs with rfl | hs
    · rw [dot_scale]
      obtain ⟨z, hz⟩ := r0
      exact ⟨o * z + u, by rw [show dot row s0 = g * u + g * o * z by omega, Int.mul_add, Int.mul_add, Int.mul_left_comm o g u, Int.mul_assoc g o u, Int.add_comm]; congr 1; rw [Int.mul_left_comm]⟩
    · exact rr s hs
  · have hy' := Span.sub G.lens G.fro hy
    obtain ⟨k, w, hw, rfl⟩ := hy'.split G.lens
    have hwd := hw.dvd hR rr
    rw [dot_addk k _ _ _ (by rw [hw.len hR, h0])] at hd
    have h1 : g * o ∣ k * dot row s0 := (Int.dvd_iff_dvd_of_dvd_add hd).mp hwd
    have h2 : g * o ∣ k * (g * u) := by
      have := Int.dvd_sub h1 (Int.dvd_mul_of_dvd_right (b := k) r0)
      rwa [Int.mul_sub, Int.sub_sub_self] at this
    have h3 : o ∣ k * u := by
      rw [Int.mul_left_comm] at h2
      exact Int.dvd_of_mul_dvd_mul_left (by omega) h2
    have h4 : o ∣ k := by
      have h5 : o ∣ inv * (k * u) := Int.dvd_mul_of_dvd_right h3
      have h6 : o ∣ k * (inv * u - 1) := Int.dvd_mul_of_dvd_right hi
      have := Int.dvd_sub h5 h6
      rwa [Int.mul_sub, Int.mul_left_comm, Int.mul_one, Int.sub_sub_self] at this
    obtain ⟨t, rfl⟩ := h4
    rw [addk_scale]
    refine Span.add t (Span.sub hN (fun s hs => Span.mem hN (List.mem_cons_of_mem _ hs)) hw) (List.mem_cons_self ..)
  · have hz : (List.replicate d (0 : Int)).length = d := by simp
    rw [addk_addk 1 _ _ _ _ (by rw [hc, hz]) (by rw [h0, hz]), Int.one_mul]
    congr 1
    rw [← hc, addk_zeros]
  · rw [dot_addk _ _ _ _ (by rw [hc, h0])]
    have w1 : g * o ∣ (r - dot row cell) - g * q := by rw [← hq]; exact ⟨(r - dot row cell) / (g * o), by rw [Int.emod_def]; omega⟩
    have w2 : o ∣ q * inv % o * u - q := by
      obtain ⟨z, hz⟩ := hi
      refine ⟨q * z - q * inv / o * u, ?_⟩
      have e3 : q * inv % o = q * inv - o * (q * inv / o) := Int.emod_def _ _
      have e4 : inv * u = o * z + 1 := by omega
      rw [e3, Int.sub_mul, Int.mul_assoc q inv u, e4, Int.mul_sub, Int.mul_add, Int.mul_one, Int.mul_left_comm q o z, Int.mul_assoc o]
      omega
    generalize q * inv % o = k at *
    obtain ⟨z1, h1⟩ := r0
    obtain ⟨z2, h2⟩ := w1
    obtain ⟨z3, h3⟩ := w2
    refine ⟨k * z1 + z3 - z2, ?_⟩
    rw [show dot row s0 = g * u + g * o * z1 by omega, Int.mul_add, Int.mul_sub, Int.mul_add]
    have e5 : k * (g * u) = g * (k * u) := Int.mul_left_comm _ _ _
    have e6 : k * u = q + o * z3 := by omega
    have e7 : k * (g * o * z1) = g * o * (k * z1) := Int.mul_left_comm _ _ _
    rw [e5, e6, e7, Int.mul_add, ← Int.mul_assoc g o z3]
    omega
  · obtain ⟨n, rfl⟩ := hP
    have hn : 0 < n := Int.pos_of_mul_pos_right hP0 hm
    have eP : g * o * n / (g * o) = n := Int.mul_ediv_cancel_left _ (by omega)
    rw [eP]
    have f0 := hF _ (List.mem_cons_self ..)
    rw [dot_scale] at f0
    have f1 : g * n ∣ dot F s0 := by
      rw [Int.mul_comm g o, Int.mul_assoc] at f0
      exact Int.dvd_of_mul_dvd_mul_left (by omega) f0
    obtain ⟨f, hf⟩ := f1
    refine ⟨f * inv, ?_⟩
    have gen : ∀ s ∈ s0 :: rest, g * o * n ∣ dot F s - f * inv * n * dot row s := fun s hs => by
      rcases List.mem_cons.mp hs with rfl | hs
      · obtain ⟨z1, h1⟩ := r0
        obtain ⟨z, hz⟩ := hi
        refine ⟨-(f * z) - f * inv * z1, ?_⟩
        rw [hf, show dot row s = g * u + g * o * z1 by omega, Int.mul_add, Int.mul_sub, Int.mul_neg]
        have e8 : f * inv * n * (g * u) = g * n * (f * (inv * u)) := by
          simp only [Int.mul_comm, Int.mul_left_comm, Int.mul_assoc]
        have e9 : f * inv * n * (g * o * z1) = g * o * n * (f * inv * z1) := by
          simp only [Int.mul_comm, Int.mul_left_comm, Int.mul_assoc]
        have e10 : g * n * (f * (o * z)) = g * o * n * (f * z) := by
          simp only [Int.mul_comm, Int.mul_left_comm, Int.mul_assoc]
        rw [e8, e9, show inv * u = o * z + 1 by omega, Int.mul_add, Int.mul_one, Int.mul_add, e10]
        omega
      · refine Int.dvd_sub (hF s (List.mem_cons_of_mem _ hs)) ?_
        obtain ⟨z, hz⟩ := rr s hs
        exact ⟨f * inv * z, by rw [hz]; simp only [Int.mul_comm, Int.mul_left_comm, Int.mul_assoc]⟩
    intro s hs
    have hsp := G.fro s hs
    have key : ∀ {y : Row}, Span d (s0 :: rest) y → g * o * n ∣ dot F y - f * inv * n * dot row y := fun {y} hy => by
      induction hy with
      | zero => rw [dot_zeros, dot_zeros, Int.mul_zero]; exact Int.dvd_zero _
      | add k hv ht ih =>
        rw [dot_addk k _ _ _ (by rw [hv.len G.lens, G.lens _ ht]), dot_addk k _ _ _ (by rw [hv.len G.lens, G.lens _ ht])]
        have := Int.dvd_add ih (Int.dvd_mul_of_dvd_right (b := k) (gen _ ht))
        rw [Int.mul_sub, Int.mul_left_comm k] at this
        rw [Int.mul_add]
        have e11 : ∀ A B C D : Int, A + k * B - (C + D) = A - C + (k * B - D) := fun _ _ _ _ => by omega
        rw [e11]; exact this
    exact key hsp
end K62
end
section
set_option linter.all false
/-! The gathering of steps: one pass, its bounds. -/
namespace K62
structure GI (d : Nat) (steps : List Row) (row : Row) (m : Int) (left : List Row) (vals : List Int) : Prop where
  len : left.length = steps.length
  vlen : vals.length = steps.length
  lens : Lens d left
  to : ∀ s ∈ left, Span d steps s
  fro : ∀ s ∈ steps, Span d left s
  v0 : ∀ x ∈ vals, 0 ≤ x ∧ x < m
  cg : ∀ (i : Nat) s x, left[i]? = some s → vals[i]? = some x → m ∣ dot row s - x
def Ent (A : Nat) (left : List Row) : Prop := ∀ s ∈ left, ∀ x ∈ s, x.natAbs ≤ A
theorem Ent.mono {A B : Nat} {l : List Row} (h : Ent A l) (hab : A ≤ B) : Ent B l := fun s hs x hx => Nat.le_trans (h s hs x hx) hab
theorem addk_ent {A B : Nat} {a b : Row} {k : Int} (ha : ∀ x ∈ a, x.natAbs ≤ A) (hb : ∀ x ∈ b, x.natAbs ≤ B) : ∀ x ∈ addk a k b, x.natAbs ≤ A + k.natAbs * B := by
  intro x hx
  obtain ⟨i, hi, rfl⟩ := List.mem_iff_getElem.mp hx
  have hi' := hi
  rw [addk_len] at hi'
  have h1 : i < a.length := by omega
  have h2 : i < b.length := by omega
  have e : (addk a k b)[i] = a[i] + k * b[i] := Option.some.inj (by rw [← List.getElem?_eq_getElem, addk_get h1 h2])
  rw [e]
  have q1 := ha _ (List.getElem_mem h1)
  have q2 := hb _ (List.getElem_mem h2)
  have q3 : (k * b[i]).natAbs ≤ k.natAbs * B := by rw [Int.natAbs_mul]; exact Nat.mul_le_mul_left _ q2
  omega
theorem getD_mem {l : List Int} {i : Nat} (h : i < l.length) : l.getD i 0 ∈ l := by rw [List.getD_eq_getElem?_getD, List.getElem?_eq_getElem h]; exact List.getElem_mem h
theorem mem_set {α : Type} {l : List α} {i : Nat} {x y : α} (h : y ∈ l.set i x) : y = x ∨ ∃ j, j ≠ i ∧ l[j]? = some y := by
  obtain ⟨j, hj, rfl⟩ := List.mem_iff_getElem.mp h
  by_cases e : i = j
  · subst e; left; simp
  · right
    rw [List.length_set] at hj
    exact ⟨j, fun z => e z.symm, by rw [List.getElem_set_ne e, List.getElem?_eq_getElem hj]⟩
theorem GI.step {d : Nat} {steps : List Row} {row : Row} {m : Int} {left : List Row} {vals : List Int} (G : GI d steps row m left vals) (hS : Lens d steps) {i at_ : Nat} {si sa : Row} {vi l : Int} (hne : i ≠ at_) (h1 : left[i]? = some si) (h2 : left[at_]? = some sa) (h3 : vals[i]? = some vi) (h4 : vals[at_]? = some l) (hl : 0 < l) (hm : l < m) :
    GI d steps row m (left.set i (addk si (-(vi / l)) sa)) (vals.set i (vi % l)) := by
  have hsi := G.lens si (List.mem_of_getElem? h1)
  have hsa := G.lens sa (List.mem_of_getElem? h2)
  have hi : i < left.length := (List.getElem?_eq_some_iff.mp h1).1
  have hL : Lens d (left.set i (addk si (-(vi / l)) sa)) := fun s hs => by
    rcases mem_set hs with rfl | ⟨j, _, hj⟩
    · rw [addk_len, hsi, hsa, Nat.min_self]
    · exact G.lens s (List.mem_of_getElem? hj)
  have ha' : sa ∈ left.set i (addk si (-(vi / l)) sa) := List.mem_of_getElem? (i := at_) (by rw [List.getElem?_set_ne hne]; exact h2)
  refine ⟨by rw [List.length_set]; exact G.len, by rw [List.length_set]; exact G.vlen, hL, fun s hs => ?_, fun s hs => ?_, fun x hx => ?_, fun j s x e1 e2 => ?_⟩
  · rcases mem_set hs with rfl | ⟨j, _, hj⟩
    · exact (G.to si (List.mem_of_getElem? h1)).comb hS _ (G.to sa (List.mem_of_getElem? h2))
    · exact G.to s (List.mem_of_getElem? hj)
  · refine Span.sub hL (fun t ht => ?_) (G.fro s hs)
    obtain ⟨j, hj⟩ := List.mem_iff_getElem?.mp ht
    by_cases e : j = i
    · subst e
      rw [h1] at hj; cases hj
      have : Span d (left.set j (addk si (-(vi / l)) sa)) (addk (addk si (-(vi / l)) sa) (- -(vi / l)) sa) := (Span.mem hL (List.mem_of_getElem? (i := j) (by rw [List.getElem?_set_self hi]))).comb hL _ (Span.mem hL ha')
      rwa [addk_back _ _ _ (by rw [hsi, hsa])] at this
    · exact Span.mem hL (List.mem_of_getElem? (i := j) (by rw [List.getElem?_set_ne (fun z => e z.symm)]; exact hj))
  · rcases mem_set hx with rfl | ⟨j, _, hj⟩
    · exact ⟨Int.emod_nonneg _ (by omega), Int.lt_trans (Int.emod_lt_of_pos _ hl) hm⟩
    · exact G.v0 x (List.mem_of_getElem? hj)
  · by_cases e : i = j
    · subst e
      have hv : i < vals.length := (List.getElem?_eq_some_iff.mp h3).1
      rw [List.getElem?_set_self hi] at e1
      rw [List.getElem?_set_self hv] at e2
      cases e1; cases e2
      rw [dot_addk _ _ _ _ (by rw [hsi, hsa])]
      obtain ⟨z1, q1⟩ := G.cg i _ _ h1 h3
      obtain ⟨z2, q2⟩ := G.cg at_ _ _ h2 h4
      refine ⟨z1 - vi / l * z2, ?_⟩
      rw [Int.emod_def, show dot row si = vi + m * z1 by omega, show dot row sa = l + m * z2 by omega, Int.neg_mul, Int.mul_add, Int.mul_sub, Int.mul_left_comm (vi / l) m z2, Int.mul_comm (vi / l) l]
      omega
    · rw [List.getElem?_set_ne e] at e1 e2
      exact G.cg j s x e1 e2
theorem sum_set : ∀ {l : List Int} {i : Nat} {x y : Int}, l[i]? = some x → (l.set i y).sum = l.sum - x + y
  | a :: l, 0, x, y, h => by
    have : a = x := by simpa using h
    subst this
    rw [List.set_cons_zero, List.sum_cons, List.sum_cons]; omega
  | a :: l, i + 1, x, y, h => by
    rw [List.set_cons_succ, List.sum_cons, List.sum_cons, sum_set (by simpa using h)]; omega
  | [], i, x, y, h => by simp at h
theorem sum_nonneg : ∀ {l : List Int}, (∀ x ∈ l, 0 ≤ x) → 0 ≤ l.sum
  | [], _ => by simp
  | a :: l, h => by
    rw [List.sum_cons]
    have := h a (List.mem_cons_self ..)
    have := sum_nonneg (l := l) fun x hx => h x (List.mem_cons_of_mem _ hx)
    omega
theorem sum_le : ∀ {l : List Int} {b : Int}, (∀ x ∈ l, x ≤ b) → l.sum ≤ l.length * b
  | [], _, _ => by simp
  | a :: l, b, h => by
    rw [List.sum_cons, List.length_cons]
    have h1 := h a (List.mem_cons_self ..)
    have h2 := sum_le (l := l) fun x hx => h x (List.mem_cons_of_mem _ hx)
    rw [Int.natCast_succ, Int.add_mul]; omega
theorem le_sum : ∀ {l : List Int} {x : Int}, (∀ x ∈ l, 0 ≤ x) → x ∈ l → x ≤ l.sum
  | a :: l, x, h, hx => by
    rw [List.sum_cons]
    have h0 := sum_nonneg (l := l) fun x hx => h x (List.mem_cons_of_mem _ hx)
    rcases List.mem_cons.mp hx with rfl | hx
    · omega
    · have := h a (List.mem_cons_self ..)
      have := le_sum (fun x hx => h x (List.mem_cons_of_mem _ hx)) hx
      omega
theorem pow_add_ge (x y : Nat) : ∀ n, x ^ (n + 1) + (n + 1) * x ^ n * y ≤ (x + y) ^ (n + 1)
  | 0 => by simp
  | n + 1 => by
    have ih := pow_add_ge x y n
    have h1 := Nat.mul_le_mul_right (x + y) ih
    rw [← Nat.pow_succ] at h1
    refine Nat.le_trans ?_ h1
    have e1 : (n + 1) * x ^ n * y * x = (n + 1) * x ^ (n + 1) * y := by rw [Nat.pow_succ]; simp only [Nat.mul_comm, Nat.mul_left_comm, Nat.mul_assoc]
    have e2 : ∀ a b : Nat, (a + b) * (x + y) = a * x + b * x + (a * y + b * y) := fun a b => by rw [Nat.add_mul, Nat.mul_add, Nat.mul_add]; omega
    have e3 : (n + 1 + 1) * x ^ (n + 1) * y = (n + 1) * x ^ (n + 1) * y + x ^ (n + 1) * y := by rw [Nat.add_mul (n + 1) 1, Nat.add_mul, Nat.one_mul]
    rw [e2, e1, e3, Nat.pow_succ x (n + 1)]
    omega
/-- the entries grow by no more than the values' sum shrinks -/
theorem bern {x l T n : Nat} (h : x ≤ (n + 1) * l) : (1 + T) * x ^ (n + 1) ≤ (x + T * l) ^ (n + 1) := by
  refine Nat.le_trans ?_ (pow_add_ge x (T * l) n)
  rw [Nat.add_mul, Nat.one_mul]
  apply Nat.add_le_add_left
  have := Nat.mul_le_mul_left (T * x ^ n) h
  calc T * x ^ (n + 1) = T * x ^ n * x := by rw [Nat.pow_succ, Nat.mul_assoc]
    _ ≤ T * x ^ n * ((n + 1) * l) := this
    _ = (n + 1) * x ^ n * (T * l) := by simp only [Nat.mul_comm, Nat.mul_left_comm, Nat.mul_assoc]
/-- within a pass: i places are behind -/
structure Pass (A : Nat) (left0 : List Row) (vals0 : List Int) (at_ : Nat) (l : Int) (i : Nat) (left : List Row) (vals : List Int) : Prop where
  same : ∀ k, i ≤ k ∨ k = at_ → left[k]? = left0[k]? ∧ vals[k]? = vals0[k]?
  low : ∀ k x, k < i → k ≠ at_ → vals[k]? = some x → x < l
  tot : ∃ T : Nat, vals0.sum = vals.sum + T * l ∧ Ent (A * (1 + T)) left ∧ ((∃ k x, k < i ∧ k ≠ at_ ∧ vals0[k]? = some x ∧ x ≠ 0) → 1 ≤ T)
theorem Pass.start {A : Nat} {left0 : List Row} {vals0 : List Int} {at_ : Nat} {l : Int} (hA : Ent A left0) : Pass A left0 vals0 at_ l 0 left0 vals0 :=
  ⟨fun _ _ => ⟨rfl, rfl⟩, fun k x h => absurd h (by omega), ⟨0, by simp, by simpa using hA, fun ⟨k, x, h, _⟩ => absurd h (by omega)⟩⟩
theorem Pass.skip {A : Nat} {left0 : List Row} {vals0 : List Int} {at_ : Nat} {l : Int} {i : Nat} {left : List Row} {vals : List Int} (h : Pass A left0 vals0 at_ l i left vals) (hl : 0 < l) (hs : i = at_ ∨ vals[i]? = some 0 ∨ vals[i]? = none) : Pass A left0 vals0 at_ l (i + 1) left vals := by
  refine ⟨fun k hk => h.same k (by omega), fun k x hk hne e => ?_, ?_⟩
  · by_cases e' : k = i
    · subst e'
      rcases hs with z | z | z
      · exact absurd z hne
      · rw [z] at e; cases e; exact hl
      · rw [z] at e; cases e
    · exact h.low k x (by omega) hne e
  · obtain ⟨T, e1, e2, e3⟩ := h.tot
    refine ⟨T, e1, e2, fun ⟨k, x, hk, hne, ex, x0⟩ => ?_⟩
    by_cases e' : k = i
    · subst e'
      have := (h.same k (.inl (Nat.le_refl _))).2
      rcases hs with z | z | z
      · exact absurd z hne
      · rw [z, ex] at this; cases this; exact absurd rfl x0
      · rw [z, ex] at this; cases this
    · exact e3 ⟨k, x, by omega, hne, ex, x0⟩
theorem Pass.turn {A : Nat} {left0 : List Row} {vals0 : List Int} {at_ : Nat} {l : Int} {i : Nat} {left : List Row} {vals : List Int} (h : Pass A left0 vals0 at_ l i left vals) (hA : Ent A left0) (hl : 0 < l) (hne : i ≠ at_) {si sa : Row} {vi : Int} (h1 : left[i]? = some si) (h2 : left[at_]? = some sa) (h3 : vals[i]? = some vi) (h0 : 0 ≤ vi) (hle : vi = 0 ∨ l ≤ vi) :
    Pass A left0 vals0 at_ l (i + 1) (left.set i (addk si (-(vi / l)) sa)) (vals.set i (vi % l)) := by
  have hi : i < left.length := (List.getElem?_eq_some_iff.mp h1).1
  have hv : i < vals.length := (List.getElem?_eq_some_iff.mp h3).1
  have hq : 0 ≤ vi / l := Int.ediv_nonneg h0 (by omega)
  refine ⟨fun k hk => ?_, fun k x hk hne' e => ?_, ?_⟩
  · have : i ≠ k := by omega
    rw [List.getElem?_set_ne this, List.getElem?_set_ne this]
    exact h.same k (by omega)
  · by_cases e' : i = k
    · subst e'
      rw [List.getElem?_set_self hv] at e
      cases e
      exact Int.emod_lt_of_pos _ hl
    · rw [List.getElem?_set_ne e'] at e
      exact h.low k x (by omega) hne' e
  · obtain ⟨T, e1, e2, e3⟩ := h.tot
    refine ⟨T + (vi / l).toNat, ?_, fun s hs x hx => ?_, fun ⟨k, x, hk, hne', ex, x0⟩ => ?_⟩
    · rw [sum_set h3, e1, Int.emod_def, Int.natCast_add, Int.toNat_of_nonneg hq, Int.add_mul, Int.mul_comm l]; omega
    · rcases mem_set hs with rfl | ⟨j, _, hj⟩
      · have m1 : si ∈ left0 := List.mem_of_getElem? ((h.same i (.inl (Nat.le_refl _))).1 ▸ h1)
        have m2 : sa ∈ left0 := List.mem_of_getElem? ((h.same at_ (.inr rfl)).1 ▸ h2)
        have := addk_ent (k := -(vi / l)) (hA si m1) (hA sa m2) x hx
        refine Nat.le_trans this ?_
        rw [Int.natAbs_neg, show (vi / l).natAbs = (vi / l).toNat by omega, Nat.mul_add, Nat.mul_one, Nat.mul_add, Nat.mul_comm (vi / l).toNat]
        omega
      · refine Nat.le_trans (e2 s (List.mem_of_getElem? hj) x hx) (Nat.mul_le_mul_left _ (by omega))
    · by_cases e' : k = i
      · subst e'
        have := (h.same k (.inl (Nat.le_refl _))).2
        rw [h3, ex] at this
        cases this
        have h5 : l ≤ vi := by rcases hle with z | z; exact absurd z x0; exact z
        have : 1 ≤ vi / l := (Int.le_ediv_iff_mul_le hl).mpr (by omega)
        omega
      · have := e3 ⟨k, x, by omega, hne', ex, x0⟩
        omega
/-- the whole: the bound C is kept -/
structure Gb (n C A : Nat) (left : List Row) (vals : List Int) : Prop where
  ent : Ent A left
  pot : A * vals.sum.toNat ^ n ≤ C
theorem Pass.done {n C A : Nat} {left0 : List Row} {vals0 : List Int} {at_ : Nat} {l : Int} {left : List Row} {vals : List Int} (h : Pass A left0 vals0 at_ l vals.length left vals) (hb : Gb (n + 1) C A left0 vals0) (hl : 0 < l) (hn : vals.length = n + 1) (hat : vals0[at_]? = some l) (hv : ∀ x ∈ vals, 0 ≤ x)
    (hex : ∃ k x, k < vals.length ∧ k ≠ at_ ∧ vals0[k]? = some x ∧ x ≠ 0) : (∃ A', Gb (n + 1) C A' left vals) ∧ vals.sum < vals0.sum ∧ 0 < vals.sum := by
  obtain ⟨T, e1, e2, e3⟩ := h.tot
  have hT := e3 hex
  have hatv : vals[at_]? = some l := (h.same at_ (.inr rfl)).2.trans hat
  have h1 : l ≤ vals.sum := le_sum hv (List.mem_of_getElem? hatv)
  have h2 : vals.sum ≤ (vals.length : Int) * l := sum_le fun x hx => by
    obtain ⟨k, hk, rfl⟩ := List.mem_iff_getElem.mp hx
    by_cases e : k = at_
    · subst e; rw [List.getElem?_eq_getElem hk] at hatv; cases hatv; exact Int.le_refl _
    · exact Int.le_of_lt (h.low k _ hk e (List.getElem?_eq_getElem hk))
  have hTl : (1 : Int) * l ≤ (T : Int) * l := Int.mul_le_mul_of_nonneg_right (by omega) (by omega)
  refine ⟨⟨A * (1 + T), e2, ?_⟩, by omega, by omega⟩
  have h3 : vals.sum.toNat ≤ (n + 1) * l.toNat := by
    rw [hn] at h2
    have : ((n + 1 : Nat) : Int) * l = (((n + 1) * l.toNat : Nat) : Int) := by rw [Int.natCast_mul, Int.toNat_of_nonneg (by omega)]
    omega
  have h4 : vals0.sum.toNat = vals.sum.toNat + T * l.toNat := by
    have : (T : Int) * l = ((T * l.toNat : Nat) : Int) := by rw [Int.natCast_mul, Int.toNat_of_nonneg (by omega)]
    omega
  have h5 := bern (T := T) h3
  rw [← h4] at h5
  calc A * (1 + T) * vals.sum.toNat ^ (n + 1) = A * ((1 + T) * vals.sum.toNat ^ (n + 1)) := Nat.mul_assoc _ _ _
    _ ≤ A * vals0.sum.toNat ^ (n + 1) := Nat.mul_le_mul_left _ h5
    _ ≤ C := hb.pot
/-- more than one value is not 0: one stands elsewhere -/
theorem two_nz {vals : List Int} {at_ : Nat} (h : 1 < (vals.filter (fun x => decide (x ≠ 0))).length) : ∃ k x, k < vals.length ∧ k ≠ at_ ∧ vals[k]? = some x ∧ x ≠ 0 := by
  refine Classical.byContradiction fun hc => ?_
  have hz : ∀ k (hk : k < vals.length), k ≠ at_ → vals[k] = 0 := fun k hk hne => Classical.byContradiction fun z => hc ⟨k, _, hk, hne, List.getElem?_eq_getElem hk, z⟩
  have e1 : (vals.take at_).filter (fun x => decide (x ≠ 0)) = [] := by
    rw [List.filter_eq_nil_iff]
    intro x hx
    obtain ⟨k, hk, rfl⟩ := List.mem_iff_getElem.mp hx
    rw [List.length_take] at hk
    rw [List.getElem_take, hz k (by omega) (by omega)]
    decide
  have e2 : (vals.drop (at_ + 1)).filter (fun x => decide (x ≠ 0)) = [] := by
    rw [List.filter_eq_nil_iff]
    intro x hx
    obtain ⟨k, hk, rfl⟩ := List.mem_iff_getElem.mp hx
    rw [List.length_drop] at hk
    rw [List.getElem_drop, hz (at_ + 1 + k) (by omega) (by omega)]
    decide
  have e3 : vals = vals.take at_ ++ (vals[at_]?.toList ++ vals.drop (at_ + 1)) := by
    rw [← List.append_assoc, ← List.take_add_one, List.take_append_drop]
  rw [e3, List.filter_append, List.filter_append, e1, e2, List.nil_append, List.append_nil] at h
  have := List.length_filter_le (fun x => decide (x ≠ 0)) vals[at_]?.toList
  have h2 : (vals[at_]?.toList).length ≤ 1 := by cases vals[at_]? <;> simp
  omega
end K62
namespace K62
theorem one_nz {vals : List Int} {k : Nat} {x : Int} (hk : vals[k]? = some x) (hx : x ≠ 0) (h : (vals.filter (fun x => decide (x ≠ 0))).length ≤ 1) {j : Nat} {y : Int} (hj : vals[j]? = some y) (hne : j ≠ k) : y = 0 := by
  refine Classical.byContradiction fun hy => ?_
  -- two members of the filter
  have key : ∀ (l : List Int) (i j : Nat) (x y : Int), i < j → l[i]? = some x → l[j]? = some y → x ≠ 0 → y ≠ 0 → 2 ≤ (l.filter (fun x => decide (x ≠ 0))).length := by
    intro l
    induction l with
    | nil => intro i j x y _ h; simp at h
    | cons a l ih =>
      intro i j x y hij h1 h2 hx hy
      obtain ⟨j, rfl⟩ : ∃ j', j = j' + 1 := ⟨j - 1, by omega⟩
      rw [List.getElem?_cons_succ] at h2
      cases i with
      | zero =>
        have : a = x := by simpa using h1
        subst this
        rw [List.filter_cons_of_pos (by simpa using hx), List.length_cons]
        have : y ∈ l.filter (fun x => decide (x ≠ 0)) := List.mem_filter.mpr ⟨List.mem_of_getElem? h2, by simpa using hy⟩
        have := List.length_pos_of_mem this
        omega
      | succ i =>
        rw [List.getElem?_cons_succ] at h1
        have := ih i j x y (by omega) h1 h2 hx hy
        by_cases ha : a = 0
        · rw [List.filter_cons_of_neg (by simpa using ha)]; exact this
        · rw [List.filter_cons_of_pos (by simpa using ha), List.length_cons]; omega
  rcases Nat.lt_or_gt_of_ne hne with h1 | h1
  · have := key vals j k y x h1 hj hk hy hx; omega
  · have := key vals k j x y h1 hk hj hx hy; omega
section
variable {d : Nat} {steps left : List Row} {row : Row} {m : Int} {vals : List Int}
theorem gat_zero (G : GI d steps row m left vals) (hm : 0 < m) (h : ∀ x ∈ vals, x = 0) : Gat d steps row m left 0 := by
  have z : ∀ (i : Nat) s, left[i]? = some s → m ∣ dot row s := fun i s hs => by
    have hi : i < vals.length := by rw [G.vlen, ← G.len]; exact (List.getElem?_eq_some_iff.mp hs).1
    have := G.cg i s _ hs (List.getElem?_eq_getElem hi)
    rwa [h _ (List.getElem_mem hi), Int.sub_zero] at this
  exact ⟨G.len, G.lens, G.to, G.fro, Int.le_refl _, hm, fun s hs => by rw [Int.sub_zero]; exact z 0 s hs, fun i s _ hs => z i s hs⟩
theorem gat_swap (G : GI d steps row m left vals) {k : Nat} {x : Int} {s0 sk : Row} (hk : vals[k]? = some x) (hx : x ≠ 0) (h : (vals.filter (fun x => decide (x ≠ 0))).length ≤ 1) (h0 : left[0]? = some s0) (hsk : left[k]? = some sk) :
    Gat d steps row m ((left.set 0 sk).set k s0) x := by
  have hkl : k < left.length := (List.getElem?_eq_some_iff.mp hsk).1
  have mem1 : ∀ s ∈ (left.set 0 sk).set k s0, s ∈ left := fun s hs => by
    rcases mem_set hs with rfl | ⟨j, _, hj⟩
    · exact List.mem_of_getElem? h0
    · rcases mem_set (List.mem_of_getElem? hj) with rfl | ⟨j', _, hj'⟩
      · exact List.mem_of_getElem? hsk
      · exact List.mem_of_getElem? hj'
  have at0 : ((left.set 0 sk).set k s0)[0]? = some sk := by
    by_cases e : k = 0
    · subst e
      rw [h0] at hsk; cases hsk
      rw [List.getElem?_set_self (by rw [List.length_set]; omega)]
    · rw [List.getElem?_set_ne e, List.getElem?_set_self (by omega)]
  have atk : ((left.set 0 sk).set k s0)[k]? = some s0 := by rw [List.getElem?_set_self (by rw [List.length_set]; omega)]
  have ato : ∀ i, i ≠ 0 → i ≠ k → ((left.set 0 sk).set k s0)[i]? = left[i]? := fun i h1 h2 => by rw [List.getElem?_set_ne (fun z => h2 z.symm), List.getElem?_set_ne (fun z => h1 z.symm)]
  have hL : Lens d ((left.set 0 sk).set k s0) := fun s hs => G.lens s (mem1 s hs)
  refine ⟨by rw [List.length_set, List.length_set]; exact G.len, hL, fun s hs => G.to s (mem1 s hs), fun s hs => Span.sub hL (fun t ht => ?_) (G.fro s hs), (G.v0 x (List.mem_of_getElem? hk)).1, (G.v0 x (List.mem_of_getElem? hk)).2, fun s hs => ?_, fun i s hi hs => ?_⟩
  · obtain ⟨j, hj⟩ := List.mem_iff_getElem?.mp ht
    refine Span.mem hL ?_
    by_cases e0 : j = 0
    · subst e0; rw [h0] at hj; cases hj; exact List.mem_of_getElem? atk
    · by_cases ek : j = k
      · subst ek; rw [hsk] at hj; cases hj; exact List.mem_of_getElem? at0
      · exact List.mem_of_getElem? (i := j) (by rw [ato j e0 ek]; exact hj)
  · rw [at0] at hs; cases hs
    exact G.cg k _ _ hsk hk
  · have zero : ∀ (j : Nat) t, j ≠ k → left[j]? = some t → m ∣ dot row t := fun j t hj ht => by
      have hjl : j < vals.length := by rw [G.vlen, ← G.len]; exact (List.getElem?_eq_some_iff.mp ht).1
      have := G.cg j t _ ht (List.getElem?_eq_getElem hjl)
      rwa [one_nz hk hx h (List.getElem?_eq_getElem hjl) hj, Int.sub_zero] at this
    by_cases ek : i = k
    · subst ek
      rw [atk] at hs; cases hs
      exact zero 0 _ (by omega) h0
    · rw [ato i (by omega) ek] at hs
      exact zero i s ek hs
end
theorem GI.start {d : Nat} {steps : List Row} {row : Row} {m : Int} (hm : 0 < m) (hS : Lens d steps) : GI d steps row m steps (steps.map fun s => dot row s % m) := by
  refine ⟨rfl, by rw [List.length_map], hS, fun s hs => Span.mem hS hs, fun s hs => Span.mem hS hs, fun x hx => ?_, fun i s x h1 h2 => ?_⟩
  · obtain ⟨s, _, rfl⟩ := List.mem_map.mp hx
    exact ⟨Int.emod_nonneg _ (by omega), Int.emod_lt_of_pos _ hm⟩
  · rw [List.getElem?_map, h1] at h2
    cases h2
    exact ⟨dot row s / m, by show dot row s - dot row s % m = _; rw [Int.emod_def]; omega⟩
theorem GI.sum_le {d : Nat} {steps left : List Row} {row : Row} {m : Int} {vals : List Int} (G : GI d steps row m left vals) : vals.sum.toNat ≤ steps.length * m.toNat := by
  have h1 := K62.sum_le (l := vals) (b := m) fun x hx => Int.le_of_lt (G.v0 x hx).2
  rw [G.vlen] at h1
  by_cases hz : 0 ≤ m
  · have : (steps.length : Int) * m = ((steps.length * m.toNat : Nat) : Int) := by rw [Int.natCast_mul, Int.toNat_of_nonneg hz]
    omega
  · have : (steps.length : Int) * m ≤ 0 := Int.mul_nonpos_of_nonneg_of_nonpos (by omega) (by omega)
    omega
end K62
end
section
set_option linter.all false
/-! Cells on stripes: what is told, and why none are. -/
namespace K62
def Lc (P : Int) (ss : List Stp) (l : List Int) (y : Row) : Int := (List.zipWith (fun (s : Stp) (k : Int) => k * (P / s.m) * dot s.c y) ss l).sum
def Lr (P : Int) (ss : List Stp) (l : List Int) : Int := (List.zipWith (fun (s : Stp) (k : Int) => k * (P / s.m) * s.r) ss l).sum
structure CI (d : Nat) (ss : List Stp) (cell : Row) (steps : List Row) : Prop where
  cl : cell.length = d
  sl : steps.length = d
  lens : Lens d steps
  on : ∀ s ∈ ss, On s cell
  dv : ∀ s ∈ ss, ∀ t ∈ steps, s.m ∣ dot s.c t
  full : ∀ y : Row, y.length = d → (∀ s ∈ ss, s.m ∣ dot s.c y) → Span d steps y
  dual : ∀ (F : Row) (P : Int), F.length = d → 0 < P → (∀ s ∈ ss, s.m ∣ P) → (∀ t ∈ steps, P ∣ dot F t) → ∃ l : List Int, l.length = ss.length ∧ ∀ y : Row, y.length = d → P ∣ dot F y - Lc P ss l y
/-- a relation that bars -/
def Bars (d : Nat) (P : Int) (ss : List Stp) (l : List Int) : Prop := l.length = ss.length ∧ (∀ y : Row, y.length = d → P ∣ Lc P ss l y) ∧ ¬ P ∣ Lr P ss l
def CN (d : Nat) (ss : List Stp) : Prop := ∀ P : Int, 0 < P → (∀ s ∈ ss, s.m ∣ P) → ∃ l, Bars d P ss l
def Meets (d : Nat) (ss : List Stp) : Prop := ∃ x : Row, x.length = d ∧ ∀ s ∈ ss, On s x
theorem Lc_append {P : Int} {ss : List Stp} {l : List Int} {s : Stp} {k : Int} {y : Row} (h : l.length = ss.length) : Lc P (ss ++ [s]) (l ++ [k]) y = Lc P ss l y + k * (P / s.m) * dot s.c y := by
  unfold Lc
  rw [List.zipWith_append h.symm, List.sum_append]
  simp
theorem Lr_append {P : Int} {ss : List Stp} {l : List Int} {s : Stp} {k : Int} (h : l.length = ss.length) : Lr P (ss ++ [s]) (l ++ [k]) = Lr P ss l + k * (P / s.m) * s.r := by
  unfold Lr
  rw [List.zipWith_append h.symm, List.sum_append]
  simp
theorem Lc_on {P : Int} {x : Row} : ∀ {ss : List Stp} {l : List Int}, (∀ s ∈ ss, s.m ∣ P) → (∀ s ∈ ss, On s x) → P ∣ Lc P ss l x - Lr P ss l
  | [], l, _, _ => by simp [Lc, Lr]
  | s :: ss, [], _, _ => by simp [Lc, Lr]
  | s :: ss, k :: l, h1, h2 => by
    have ih := Lc_on (ss := ss) (l := l) (fun s hs => h1 s (List.mem_cons_of_mem _ hs)) (fun s hs => h2 s (List.mem_cons_of_mem _ hs))
    unfold Lc Lr at ih ⊢
    rw [List.zipWith_cons_cons, List.zipWith_cons_cons, List.sum_cons, List.sum_cons]
    obtain ⟨n, hn⟩ := h1 s (List.mem_cons_self ..)
    obtain ⟨z, hz⟩ := h2 s (List.mem_cons_self ..)
    have e : P ∣ k * (P / s.m) * dot s.c x - k * (P / s.m) * s.r := by
      rw [← Int.mul_sub, hz]
      by_cases h0 : s.m = 0
      · rw [h0]; simp
      · rw [hn, Int.mul_ediv_cancel_left _ h0]
        exact ⟨k * z, by simp only [Int.mul_comm, Int.mul_left_comm, Int.mul_assoc]⟩
    have := Int.dvd_add e ih
    have e2 : ∀ A B C D : Int, A - B + (C - D) = A + C - (B + D) := fun _ _ _ _ => by omega
    rwa [e2] at this
theorem bars_no {d : Nat} {P : Int} {ss : List Stp} {l : List Int} (h : Bars d P ss l) (hm : ∀ s ∈ ss, s.m ∣ P) : ¬ Meets d ss := fun ⟨x, hx, ho⟩ => by
  have h1 := Lc_on (l := l) hm ho
  have h2 := Int.dvd_sub (h.2.1 x hx) h1
  rw [Int.sub_sub_self] at h2
  exact h.2.2 h2
def prodm (ss : List Stp) : Int := (ss.map Stp.m).foldr (· * ·) 1
theorem prodm_pos : ∀ {ss : List Stp}, (∀ s ∈ ss, 0 < s.m) → 0 < prodm ss
  | [], _ => by decide
  | s :: ss, h => Int.mul_pos (h s (List.mem_cons_self ..)) (prodm_pos fun t ht => h t (List.mem_cons_of_mem _ ht))
theorem prodm_dvd : ∀ {ss : List Stp} {s : Stp}, s ∈ ss → s.m ∣ prodm ss
  | t :: ss, s, h => by
    rcases List.mem_cons.mp h with rfl | h
    · exact Int.dvd_mul_right _ _
    · exact Int.dvd_mul_of_dvd_right (prodm_dvd h)
theorem CN.no {d : Nat} {ss : List Stp} (h : CN d ss) (hp : ∀ s ∈ ss, 0 < s.m) : ¬ Meets d ss := by
  obtain ⟨l, hl⟩ := h _ (prodm_pos hp) fun s hs => prodm_dvd hs
  exact bars_no hl fun s hs => prodm_dvd hs
theorem CI.meets {d : Nat} {ss : List Stp} {cell : Row} {steps : List Row} (h : CI d ss cell steps) : Meets d ss := ⟨cell, h.cl, h.on⟩

/-! unit steps -/
def unit (n i : Nat) : Row := (List.range n).map fun k => if k = i then 1 else 0
def units (n : Nat) : List Row := (List.range n).map (unit n)
theorem unit_len {n i : Nat} : (unit n i).length = n := by simp [unit]
theorem units_lens {n : Nat} : Lens n (units n) := fun s hs => by
  obtain ⟨i, _, rfl⟩ := List.mem_map.mp hs
  exact unit_len
theorem unit_get {n i j : Nat} (h : j < n) : (unit n i)[j]? = some (if j = i then 1 else 0) := by
  unfold unit
  rw [List.getElem?_map, List.getElem?_range h]; rfl
/-- the first k numbers of y, 0 behind -/
def cutz (y : Row) (k : Nat) : Row := (List.range y.length).map fun j => if j < k then y.getD j 0 else 0
theorem cutz_len {y : Row} {k : Nat} : (cutz y k).length = y.length := by simp [cutz]
theorem span_units {n : Nat} {y : Row} (hy : y.length = n) : Span n (units n) y := by
  have key : ∀ k, k ≤ n → Span n (units n) (cutz y k) := by
    intro k
    induction k with
    | zero =>
      intro _
      have : cutz y 0 = List.replicate n 0 := by
        apply List.ext_getElem?
        intro i
        unfold cutz
        rw [hy]
        by_cases hi : i < n
        · rw [List.getElem?_map, List.getElem?_range hi]; simp [hi]
        · rw [List.getElem?_eq_none (by simp; omega), List.getElem?_eq_none (by simp; omega)]
      rw [this]; exact Span.zero
    | succ k ih =>
      intro hk
      have h1 := ih (by omega)
      have hu : unit n k ∈ units n := List.mem_map.mpr ⟨k, List.mem_range.mpr (by omega), rfl⟩
      have h2 := Span.add (y.getD k 0) h1 hu
      have e : addk (cutz y k) (y.getD k 0) (unit n k) = cutz y (k + 1) := by
        apply List.ext_getElem?
        intro i
        by_cases hi : i < n
        · unfold addk
          rw [List.getElem?_zipWith, unit_get hi]
          unfold cutz
          rw [hy, List.getElem?_map, List.getElem?_range hi, List.getElem?_map, List.getElem?_range hi]
          show some _ = some _
          congr 1
          by_cases e1 : i = k
          · subst e1; simp
          · rw [if_neg e1, Int.mul_zero, Int.add_zero]
            dsimp only
            by_cases e2 : i < k
            · rw [if_pos e2, if_pos (by omega)]
            · rw [if_neg e2, if_neg (by omega)]
        · rw [List.getElem?_eq_none (by rw [addk_len, cutz_len, unit_len]; omega), List.getElem?_eq_none (by rw [cutz_len]; omega)]
      rwa [e] at h2
  have h := key n (Nat.le_refl _)
  have e : cutz y n = y := by
    unfold cutz
    apply List.ext_getElem?
    intro i
    rw [hy]
    by_cases hi : i < n
    · have : i < y.length := by omega
      rw [List.getElem?_map, List.getElem?_range hi]; simp [hi, this]
    · rw [List.getElem?_eq_none (by simp; omega), List.getElem?_eq_none (by omega)]
  rwa [e] at h
theorem ci_start (d : Nat) : CI d [] (List.replicate d 0) (units d) := by
  refine ⟨by simp, by simp [units], units_lens, (fun s hs => nomatch hs), (fun s hs => nomatch hs), fun y hy _ => span_units hy, fun F P _ _ _ hF => ⟨[], rfl, fun y hy => ?_⟩⟩
  have := Span.dvd units_lens hF (span_units hy)
  simpa [Lc] using this
theorem dot_addk_l (k : Int) {F c y : Row} (h : F.length = c.length) : dot (addk F k c) y = dot F y + k * dot c y := by
  rw [dot_comm, dot_addk _ _ _ _ h, dot_comm y F, dot_comm y c]
theorem ci_step {d : Nat} {ss : List Stp} {cell cell' : Row} {steps steps' : List Row} {s : Stp} (I : CI d ss cell steps) (N : Nar d cell steps s.c s.r s.m cell' steps') (hc : s.c.length = d) (hl : cell'.length = d) : CI d (ss ++ [s]) cell' steps' := by
  obtain ⟨y0, hy0, e0⟩ := N.cell
  have hy0l := hy0.len I.lens
  refine ⟨hl, N.len.trans I.sl, N.lens, fun t ht => ?_, fun t ht u hu => ?_, fun y hy hd => ?_, fun F P hF hP hm hd => ?_⟩
  · rcases List.mem_append.mp ht with ht | ht
    · have h1 := hy0.dvd I.lens (I.dv t ht)
      have h2 : t.m ∣ dot t.c cell - t.r := I.on t ht
      show t.m ∣ dot t.c cell' - t.r
      rw [e0, dot_addk _ _ _ _ (by rw [I.cl, hy0l]), Int.one_mul]
      have := Int.dvd_add h2 h1
      have e : ∀ a b c : Int, a - b + c = a + c - b := fun _ _ _ => by omega
      rwa [e] at this
    · have : t = s := by simpa using ht
      subst this
      exact N.on
  · rcases List.mem_append.mp ht with ht | ht
    · exact (N.to u hu).dvd I.lens (I.dv t ht)
    · have : t = s := by simpa using ht
      subst this
      exact N.dvd u hu
  · exact N.fro y (I.full y hy fun t ht => hd t (List.mem_append_left _ ht)) (hd s (List.mem_append_right _ (List.mem_singleton.mpr rfl)))
  · obtain ⟨l, h1⟩ := N.dual F P (hm s (List.mem_append_right _ (List.mem_singleton.mpr rfl))) hP hd
    obtain ⟨l', hl', h2⟩ := I.dual (addk F (-(l * (P / s.m))) s.c) P (by rw [addk_len, hF, hc, Nat.min_self]) hP (fun t ht => hm t (List.mem_append_left _ ht)) (fun t ht => by
      rw [dot_addk_l _ (by rw [hF, hc])]
      have := h1 t ht
      have e : ∀ a b c : Int, a + -b * c = a - b * c := fun a b c => by rw [Int.neg_mul]; omega
      rwa [e])
    refine ⟨l' ++ [l], by rw [List.length_append, List.length_append, hl']; rfl, fun y hy => ?_⟩
    have := h2 y hy
    rw [dot_addk_l _ (by rw [hF, hc])] at this
    rw [Lc_append hl']
    have e : ∀ a b c : Int, a + -b * c - d = a - (d + b * c) := fun a b c => by rw [Int.neg_mul]; omega
    have e : dot F y + -(l * (P / s.m)) * dot s.c y - Lc P ss l' y = dot F y - (Lc P ss l' y + l * (P / s.m) * dot s.c y) := by rw [Int.neg_mul]; omega
    rwa [e] at this
theorem cn_more {d : Nat} {ss : List Stp} {s : Stp} (h : CN d ss) : CN d (ss ++ [s]) := fun P hP hm => by
  obtain ⟨l, h1, h2, h3⟩ := h P hP fun t ht => hm t (List.mem_append_left _ ht)
  refine ⟨l ++ [0], by rw [List.length_append, List.length_append, h1]; rfl, fun y hy => ?_, ?_⟩
  · rw [Lc_append h1, Int.zero_mul, Int.zero_mul, Int.add_zero]; exact h2 y hy
  · rw [Lr_append h1, Int.zero_mul, Int.zero_mul, Int.add_zero]; exact h3
theorem cn_step {d : Nat} {ss : List Stp} {cell : Row} {steps : List Row} {s : Stp} (I : CI d ss cell steps) (N : NarNone steps cell s.c s.r s.m) (hc : s.c.length = d) (hm0 : 0 < s.m) : CN d (ss ++ [s]) := fun P hP hm => by
  obtain ⟨g, hg, gm, hd, hn⟩ := N
  obtain ⟨o, ho⟩ := gm
  obtain ⟨n, hn'⟩ := hm s (List.mem_append_right _ (List.mem_singleton.mpr rfl))
  have eP : P / s.m = n := by rw [hn', Int.mul_ediv_cancel_left _ (by omega)]
  have hPg : P = g * (o * n) := by rw [hn', ho, Int.mul_assoc]
  obtain ⟨l, hl, h1⟩ := I.dual (s.c.map (o * n * ·)) P (by rw [List.length_map, hc]) hP (fun t ht => hm t (List.mem_append_left _ ht)) (fun t ht => by
    rw [dot_comm, dot_scale, dot_comm]
    obtain ⟨z, hz⟩ := hd t ht
    exact ⟨z, by rw [hz, hPg]; simp only [Int.mul_comm, Int.mul_left_comm, Int.mul_assoc]⟩)
  have e1 : ∀ y, dot (s.c.map (o * n * ·)) y = o * n * dot s.c y := fun y => by rw [dot_comm, dot_scale, dot_comm]
  refine ⟨l ++ [-o], by rw [List.length_append, List.length_append, hl]; rfl, fun y hy => ?_, fun hz => hn ?_⟩
  · rw [Lc_append hl, eP]
    have := h1 y hy
    rw [e1] at this
    have e : Lc P ss l y + -o * n * dot s.c y = -(o * n * dot s.c y - Lc P ss l y) := by rw [Int.neg_mul, Int.neg_mul]; omega
    rw [e]; exact Int.dvd_neg.mpr this
  · rw [Lr_append hl, eP] at hz
    have h2 := h1 cell I.cl
    rw [e1] at h2
    have h3 := Lc_on (l := l) (fun t ht => hm t (List.mem_append_left _ ht)) I.on
    have h4 := Int.dvd_add (Int.dvd_add h2 h3) hz
    have e : o * n * dot s.c cell - Lc P ss l cell + (Lc P ss l cell - Lr P ss l) + (Lr P ss l + -o * n * s.r) = o * n * (dot s.c cell - s.r) := by
      rw [Int.mul_sub, Int.neg_mul, Int.neg_mul]; omega
    rw [e, hPg, Int.mul_comm g] at h4
    have hon : o * n ≠ 0 := fun z => by rw [z, Int.mul_zero] at hPg; omega
    exact Int.dvd_of_mul_dvd_mul_left hon h4
end K62
end
section
set_option Elab.async false
set_option linter.all false
set_option maxRecDepth 100000
set_option maxHeartbeats 4000000
set_option exponentiation.threshold 100
namespace K62
open PySem PySem.Spec PyProof.Rows L2
variable {P : Program} {w : World} {K : PySem.W.Frag} {mg : Str → Option Value} {base : Heap}
/-- the sum of a list's ints -/
def lsum (o : Option HO) : Nat := match o with
  | some (.lst vs) => ((vs.map fun v => match v with | .int i => i | _ => 0).sum : Int).toNat
  | _ => 0
theorem lsum_ints (ns : List Int) : lsum (some (.lst (ns.map V.int))) = ns.sum.toNat := by
  show ((List.map _ (ns.map V.int)).sum : Int).toNat = _
  rw [List.map_map]
  congr 1; congr 1
  exact List.map_id'' (fun _ => rfl) ns
theorem Rep2.set {α : Type} {R : α → VP} {as : List α} {vs : List V} {H : Hp} (h : Rep2 R as vs H) {i : Nat} {a : α} {v : V} (hv : R a v H) : Rep2 R (as.set i a) (vs.set i v) H := by
  refine ⟨by rw [List.length_set, List.length_set]; exact h.1, fun j b u e1 e2 => ?_⟩
  by_cases e : i = j
  · subst e
    by_cases hi : i < as.length
    · rw [List.getElem?_set_self hi] at e1
      rw [List.getElem?_set_self (by rw [h.1]; exact hi)] at e2
      cases e1; cases e2; exact hv
    · rw [List.getElem?_eq_none (by rw [List.length_set]; omega)] at e1; cases e1
  · rw [List.getElem?_set_ne e] at e1 e2
    exact h.2 j b u e1 e2
theorem ne_int (a b : Int) : (!decide (V.int a = V.int b)) = decide (a ≠ b) := by
  by_cases h : a = b
  · subst h; simp
  · rw [decide_eq_true h, decide_eq_false (fun z => h (V.int.inj z))]; rfl
theorem given_nz (vals : List Int) : Evl.given (vals.map V.int).length (fun i => decide (vals.getD i 0 ≠ 0)) (fun i => V.int (vals.getD i 0)) = (vals.filter (fun x => decide (x ≠ 0))).map V.int := by
  rw [List.length_map]
  exact given_filter vals fun x => decide (x ≠ 0)
theorem ixN_nat {n i : Nat} (h : i < n) : ixN n (i : Int) = some i := by
  unfold ixN
  rw [if_pos (by omega), if_pos (by omega)]
  simp

structure GsA where
  d : Nat
  steps : List Row
  row : Row
  m : Int
  b : Nat
  β : Nat
  H0 : Hp
abbrev GsA.C (x : GsA) : Nat := 2 ^ x.b * (x.steps.length * x.m.toNat) ^ x.steps.length
structure GsA.Ok (x : GsA) : Prop where
  lens : Lens x.d x.steps
  d3 : x.d ≤ 1000
  n0 : 0 < x.steps.length
  n1 : x.steps.length ≤ 1000
  m0 : 0 < x.m
  row : x.row.length ≤ 1000
  brow : Bd 400000 x.row
  ent : Ent (2 ^ x.b) x.steps
  c1 : x.C < 2 ^ 400000
  b1 : x.b < 400000
  m1 : x.m.natAbs < 2 ^ 8000
abbrev sp_gathered_steps : Sp := FSp (α := GsA) nU (fun x vs H => ∃ p us w, vs = [.ref p, w, .int x.m] ∧ H = x.H0 ∧ H p = some (.lst us) ∧ Rep2 TpI x.steps us H ∧ TpI x.row w H ∧ x.Ok)
  (fun x v H => ∃ T L us left vv, v = .ref T ∧ H T = some (.tup [.ref L, .int vv]) ∧ x.H0 L = none ∧ H L = some (.lst us) ∧ Rep2 TpI left us H ∧ Gat x.d x.steps x.row x.m left vv ∧ ∃ A, Ent A left ∧ (A ≤ x.C ∨ A ≤ 2 ^ x.b))
/-- what stands between two passes -/
structure GsW (x : GsA) (L Vl : Addr) (left : List Row) (vals : List Int) (us : List V) (A : Nat) (H' : Hp) : Prop where
  le : Le none x.H0 H'
  hl : H' L = some (.lst us)
  rep : Rep2 TpI left us H'
  hv : H' Vl = some (.lst (vals.map V.int))
  gi : GI x.d x.steps x.row x.m left vals
  ent : Ent A left
theorem bd_of_ent {A n : Nat} {left : List Row} (h : Ent A left) (hA : A < 2 ^ n) {s : Row} (hs : s ∈ left) : Bd n s := fun y hy => Nat.lt_of_le_of_lt (h s hs y hy) hA
theorem ok_gathered_steps (F : DefAt K mg "gathered_steps" s_gathered_steps ps_gathered_steps) (B : Bln mg) (C1 : Callee P w K mg base 1 "product_at" ps_product_at sp_product_at) (C2 : Callee P w K mg base 1 "cell_sum" ps_cell_sum sp_cell_sum) :
    Callee P w K mg base 2 "gathered_steps" ps_gathered_steps sp_gathered_steps := by
  refine callee_of F sc_gathered_steps (fun vs H Q E h => ?_) fun f cdv A outer s H vs Q E hr h => ?_
  · obtain ⟨a, _, ⟨p, us, w, rfl, _⟩, _⟩ := h; rfl
  obtain ⟨x, _, ⟨p, us, w0, rfl, rfl, hp, hrep, ⟨pr, rfl, hrow⟩, O⟩, k⟩ := h
  -- left = list(steps)
  refine S.asg (U := none) sc_gathered_steps.nd (i := 3) rfl (.inl rfl) trivial (R.listL trivial (by rfl) B.list hp (fun z => z) (R.var (i := 0) rfl (.inl rfl) rfl)) ?_
  rintro v H1 l1 _ ⟨L, us1, rfl, hL0, _, hL1, rfl⟩
  have hrep1 : Rep2 TpI x.steps us1 H1 := hrep.tk l1.tup
  -- values
  refine S.asgLc (U := none) (i := 4) (own := [("step", 8)]) (P := NLs none H1 fun vs _ => vs.length = us1.length ∧ ∀ i y, vs[i]? = some y → y = V.int (dot x.row (x.steps.getD i []) % x.m)) rfl sc_gathered_steps.nd rfl rfl (sw_true rfl rfl rfl (by decide +kernel)) trivial (Src.lst (R.var (i := 3) rfl (.inl rfl) rfl) hL1 (fun z => z)) (blkOk_by (N := N_gathered_steps) (sc := defScope s_gathered_steps) (by decide +kernel))
    (fun J H2 l2 j2 wk => LcK.map (fun i => Is (V.int (dot x.row (x.steps.getD i []) % x.m))) wk ?_ l2 trivial (fun i H x H' => yAt_le) (fun H' l' => l'.keep _ _ (fun z => z) (l2.keep _ _ (fun z => z) hL1)) (fun i y H' H'' hi l' j' yy => ?_)) ?_
  · rw [hrep1.1]; have := O.n1; omega
  · obtain ⟨rfl, hy⟩ := yy
    have hr2 : Rep2 TpI x.steps us1 H'' := hrep1.tk (l2.trans l').tup
    obtain ⟨sr, hs1, hs2⟩ := hr2.get hy
    refine ⟨_, fun s Hb C cl fp => Tg.name sc_gathered_steps.nd (i := 8) rfl (.inl rfl), rfl, fun s Hb C cl fp => R.mod O.m0 (R.callP C1 hr (by decide) (by rfl) (RA.cons (R.var (i := 1) rfl (.inr (.inl rfl)) rfl) (RA.last (R.var (i := 8) rfl (.inl rfl) rfl))) ?_) (R.var (i := 2) rfl (.inr (.inl rfl)) rfl)⟩
    rintro vs H3 l3 _ ⟨v, r, rfl, rfl, v', r', rfl, rfl, rfl⟩
    refine ⟨(x.row, sr), ⟨_, _, rfl, ⟨pr, rfl, ((l1.trans (l2.trans l')).trans l3).tup _ _ hrow⟩, Fz.le l3 hs2, O.row, O.brow, bd_of_ent O.ent (Nat.pow_lt_pow_right (by omega) O.b1) (List.mem_of_getElem? hs1)⟩, fun v H4 _ _ e => ?_⟩
    rw [List.getD_eq_getElem?_getD, hs1]; exact e
  rintro v H2 l2 _ ⟨Vl, vv, rfl, hV0, _, hV2, hvz, hvv⟩
  have evv := ints_of hvz hvv
  rw [hrep1.1] at evv
  have ev2 : (List.range x.steps.length).map (fun i => dot x.row (x.steps.getD i []) % x.m) = x.steps.map fun s => dot x.row s % x.m := by
    apply List.ext_getElem?
    intro i
    by_cases hi : i < x.steps.length
    · rw [List.getElem?_map, List.getElem?_range hi, List.getElem?_map, List.getElem?_eq_getElem hi]; simp [hi]
    · rw [List.getElem?_eq_none (by simp; omega), List.getElem?_eq_none (by simp; omega)]
  rw [ev2] at evv
  subst evv
  have hLV : L ≠ Vl := fun z => by rw [← z, hL1] at hV0; cases hV0
  -- the while
  refine S.cut (Mid := fun σ' H' => ∃ left vals us A x5 x6 x7 x8 x9, σ' = [some (.ref p), some (.ref pr), some (.int x.m), some (.ref L), some (.ref Vl), x5, x6, x7, x8, x9] ∧ GsW x L Vl left vals us A H' ∧ (A ≤ x.C ∨ A ≤ 2 ^ x.b) ∧ (vals.filter (fun x => decide (x ≠ 0))).length ≤ 1)
    (S1.while (U := none) PassesOwn.never (fun σ' H' => ∃ left vals us A x5 x6 x7 x8 x9, σ' = [some (.ref p), some (.ref pr), some (.int x.m), some (.ref L), some (.ref Vl), x5, x6, x7, x8, x9] ∧ GsW x L Vl left vals us A H' ∧ A * vals.sum.toNat ^ x.steps.length ≤ x.C ∧ (A ≤ 2 ^ x.b ∨ 0 < vals.sum))
      (fun _ H' => lsum (H' Vl)) ⟨x.steps, _, us1, 2 ^ x.b, none, none, none, none, none, rfl, ⟨(l1.trans l2), l2.keep _ _ (fun z => z) hL1, hrep1.tk l2.tup, hV2, GI.start O.m0 O.lens, O.ent⟩, Nat.mul_le_mul_left _ (Nat.pow_le_pow_left (GI.start O.m0 O.lens).sum_le _), .inl (Nat.le_refl _)⟩ (fun _ _ _ => trivial)
      (φ := fun _ H' b => ∀ vals : List Int, H' Vl = some (.lst (vals.map V.int)) → b = decide (1 < (vals.filter (fun x => decide (x ≠ 0))).length)) (fun σ' H' wi => ?_) (fun σ' H' wi e H3 l3 _ => ?_) (fun σ' H' wi e H3 l3 _ => ?_)) (fun σ' H' wi => ?_)
  · -- the test
    obtain ⟨left, vals, us, A, x5, x6, x7, x8, x9, rfl, W, hpot, hA⟩ := wi
    refine RT.imp (RT.gt (R.lenN (H0 := H') (n := (vals.filter (fun x => decide (x ≠ 0))).length) (by rfl) B.len (R.lc (own := [("value", 9)]) rfl sc_gathered_steps.nd (Src.lst (R.var (i := 4) rfl (.inl rfl) rfl) W.hv (fun z => z)) (blkOk_by (N := N_gathered_steps) (sc := defScope s_gathered_steps) (by decide +kernel))
      (fun J H2 l2 j2 wk => LcK.sel (fun i => decide (vals.getD i 0 ≠ 0)) (fun i => V.int (vals.getD i 0)) wk ?_ l2 trivial (fun i H x H' => yAt_le) (fun H' l' => l'.keep _ _ (fun z => z) (l2.keep _ _ (fun z => z) W.hv)) (fun i y H' H'' hi l' j' yy => ?_))) ?_) R.int) ?_
    · rw [List.length_map, W.gi.vlen]; have := O.n1; omega
    · obtain ⟨rfl, hy⟩ := yy
      obtain ⟨rfl, _⟩ := getV hy
      refine ⟨_, fun s Hb C cl fp => Tg.name sc_gathered_steps.nd (i := 9) rfl (.inl rfl), rfl, fun s Hb C cl fp => RTs.one ((RT.ne rfl (R.var (i := 9) rfl (.inl rfl) rfl) R.int).imp fun b e => ?_), fun _ s Hb C cl fp => R.var (i := 9) rfl (.inl rfl) rfl⟩
      rw [e, ne_int]
    · rintro vs H1 rfl
      rw [given_nz, List.length_map]
    · rintro b rfl vals' hv'
      rw [W.hv] at hv'
      have : vals = vals' := by
        have := congrArg (List.map fun v => match v with | V.int i => i | _ => 0) (HO.lst.inj (Option.some.inj hv'))
        simpa [List.map_map, Function.comp_def] using this
      subst this
      congr 1
      apply propext; constructor <;> intro h <;> omega
  · -- a pass
    obtain ⟨left, vals, us, A, x5, x6, x7, x8, x9, rfl, W, hpot, hA⟩ := wi
    have e1 : 1 < (vals.filter (fun x => decide (x ≠ 0))).length := of_decide_eq_true (e vals W.hv).symm
    have W3 : GsW x L Vl left vals us A H3 := ⟨W.le.trans l3, l3.keep _ _ (fun z => z) W.hl, W.rep.tk l3.tup, l3.keep _ _ (fun z => z) W.hv, W.gi, W.ent⟩
    refine S.asg (U := none) sc_gathered_steps.nd (i := 5) rfl (.inl rfl) trivial (R.minN (H0 := H3) (ns := vals.filter (fun x => decide (x ≠ 0))) (Qs := fun vs _ => vs = Evl.given (vals.map V.int).length (fun i => decide (vals.getD i 0 ≠ 0)) (fun i => V.int (vals.getD i 0))) ?_ (by omega) rfl (by rfl) B.min (R.lc (own := [("value", 9)]) rfl sc_gathered_steps.nd (Src.lst (R.var (i := 4) rfl (.inl rfl) rfl) W3.hv (fun z => z)) (blkOk_by (N := N_gathered_steps) (sc := defScope s_gathered_steps) (by decide +kernel))
      (fun J H2 l2 j2 wk => LcK.sel (fun i => decide (vals.getD i 0 ≠ 0)) (fun i => V.int (vals.getD i 0)) wk ?_ l2 trivial (fun i H x H' => yAt_le) (fun H' l' => l'.keep _ _ (fun z => z) (l2.keep _ _ (fun z => z) W3.hv)) (fun i y H' H'' hi l' j' yy => ?_)))) ?_
    · rintro vs H1 rfl
      exact given_nz vals
    · rw [List.length_map, W.gi.vlen]; have := O.n1; omega
    · obtain ⟨rfl, hy⟩ := yy
      obtain ⟨rfl, _⟩ := getV hy
      refine ⟨_, fun s Hb C cl fp => Tg.name sc_gathered_steps.nd (i := 9) rfl (.inl rfl), rfl, fun s Hb C cl fp => RTs.one ((RT.ne rfl (R.var (i := 9) rfl (.inl rfl) rfl) R.int).imp fun b e => ?_), fun _ s Hb C cl fp => R.var (i := 9) rfl (.inl rfl) rfl⟩
      rw [e, ne_int]
    rintro v H4 l4 _ ⟨l, rfl, hl1, hl2⟩
    have hlm : l ∈ vals := (List.mem_filter.mp hl1).1
    have hl0 : l ≠ 0 := of_decide_eq_true (List.mem_filter.mp hl1).2
    have hlp : 0 < l := by have := (W.gi.v0 l hlm).1; omega
    have hlm' : l < x.m := (W.gi.v0 l hlm).2
    have hv4 := l4.keep _ _ (fun z => z) W3.hv
    refine S.asg (U := none) sc_gathered_steps.nd (i := 6) rfl (.inl rfl) trivial (R.index hv4 (fun z => z) hlm (R.var (i := 4) rfl (.inl rfl) rfl) (R.var (i := 5) rfl (.inl rfl) rfl) rfl (pe_bm PySem.F.plainAttrs_list PySem.F.slot_list_index PySem.F.type_list_index mt_index (R.var (i := 4) rfl (.inl rfl) rfl) (RA.last (R.var (i := 5) rfl (.inl rfl) rfl)))) ?_
    rintro v H5 l5 _ ⟨_, rfl, at_, rfl, hat⟩
    have l45 := (l3.trans l4).trans l5
    have W5 : GsW x L Vl left vals us A H5 := ⟨W.le.trans l45, l45.keep _ _ (fun z => z) W.hl, W.rep.tk l45.tup, l45.keep _ _ (fun z => z) W.hv, W.gi, W.ent⟩
    have hlen : us.length = vals.length := by rw [W.rep.1, W.gi.len, W.gi.vlen]
    have hatl : at_ < vals.length := (List.getElem?_eq_some_iff.mp hat).1
    refine S.one (S1.for (U := none) (Src.range1 (n := us.length) (by rfl) B.range (by have := O.n1; have := W.rep.1; have := W.gi.len; omega) (R.lenL (by rfl) B.len W5.hl (fun z => z) (R.var (i := 3) rfl (.inl rfl) rfl))) trivial PassesOwn.never rfl fun J H6 l6 _ wk => ⟨_, _, _, wk,
      fun i σ' H' => ∃ left' vals' us' A' x7 x8 x9, σ' = [some (.ref p), some (.ref pr), some (.int x.m), some (.ref L), some (.ref Vl), some (.int l), some (.int (at_ : Nat)), x7, x8, x9] ∧ GsW x L Vl left' vals' us' A' H' ∧ Pass A left vals at_ l i left' vals', ?_, fun _ _ _ _ _ => trivial, ?_, ?_⟩)
    · exact ⟨left, vals, us, A, _, _, _, rfl, ⟨W5.le.trans l6, l6.keep _ _ (fun z => z) W5.hl, W5.rep.tk l6.tup, l6.keep _ _ (fun z => z) W5.hv, W.gi, W.ent⟩, Pass.start W.ent⟩
    · rintro i v σ' H' H'' hi ⟨left', vals', us', A', x7, x8, x9, rfl, W', Ps⟩ ⟨rfl, rfl⟩
      have hi : i < us.length := by rw [Int.toNat_natCast] at hi; exact hi
      have hvl : vals'.length = vals.length := by rw [W'.gi.vlen, W.gi.vlen]
      have hul : us'.length = vals.length := by rw [W'.rep.1, W'.gi.len, W.gi.vlen]
      refine ⟨_, Tg.name sc_gathered_steps.nd (i := 7) rfl (.inl rfl), ?_⟩
      have hvi : vals'[i]? = some (vals'.getD i 0) := by rw [List.getD_eq_getElem?_getD, List.getElem?_eq_getElem (by omega)]; rfl
      have gv : ∀ (j : Nat) y, vals'[j]? = some y → atI (vals'.map V.int) (j : Int) = some (V.int y) := fun j y e => atI_nat (by rw [List.getElem?_map, e]; rfl)
      have hatv : vals'[at_]? = some l := (Ps.same at_ (.inr rfl)).2.trans hat
      refine S.if (U := none) trivial (RW.pt (RW.andB (RT.ne rfl (R.var (i := 7) rfl (.inl rfl) rfl) (R.var (i := 6) rfl (.inl rfl) rfl)) (fun _ => RW.and1 (RT.ne rfl (R.ixL W'.hv (gv i _ hvi) (fun z => z) (R.var (i := 4) rfl (.inl rfl) rfl) (R.var (i := 7) rfl (.inl rfl) rfl)) R.int)))) (fun q H7 l7 _ => ?_) (fun q H7 l7 _ => S.nil (S.nil ?_))
      · have q := Bool.and_eq_true_iff.mp q.symm
        have q1 : i ≠ at_ := fun z => by subst z; simp at q
        have q2 : vals'.getD i 0 ≠ 0 := fun z => by rw [z] at q; simp at q
        obtain ⟨ui, hui⟩ : ∃ u, us'[i]? = some u := ⟨_, List.getElem?_eq_getElem (by omega)⟩
        obtain ⟨ua, hua⟩ : ∃ u, us'[at_]? = some u := ⟨_, List.getElem?_eq_getElem (by omega)⟩
        obtain ⟨si, hsi, ri⟩ := W'.rep.get hui
        obtain ⟨sa, hsa, ra⟩ := W'.rep.get hua
        have mi := (Ps.same i (.inl (Nat.le_refl _)))
        have ma := (Ps.same at_ (.inr rfl)).1
        have memi : si ∈ left := List.mem_of_getElem? (mi.1 ▸ hsi)
        have mema : sa ∈ left := List.mem_of_getElem? (ma ▸ hsa)
        have hvi0 : vals[i]? = some (vals'.getD i 0) := mi.2 ▸ hvi
        have hvm := W.gi.v0 _ (List.mem_of_getElem? hvi0)
        have hle : l ≤ vals'.getD i 0 := hl2 _ (List.mem_filter.mpr ⟨List.mem_of_getElem? hvi0, by simpa using q2⟩)
        have hAb : A < 2 ^ 400000 := by
          rcases hA with h | h
          · exact Nat.lt_of_le_of_lt h (Nat.pow_lt_pow_right (by omega) O.b1)
          · have h1 : 1 ≤ vals.sum.toNat ^ x.steps.length := Nat.pow_pos (by omega)
            have h2 : A * 1 ≤ A * vals.sum.toNat ^ x.steps.length := Nat.mul_le_mul_left _ h1
            have := O.c1
            omega
        have hqb : (-(vals'.getD i 0 / l)).natAbs < 2 ^ 400000 := by
          have h1 := Int.ediv_nonneg hvm.1 (show 0 ≤ l by omega)
          have h2 : vals'.getD i 0 / l ≤ vals'.getD i 0 := Int.ediv_le_self _ hvm.1
          have h3 := O.m1
          have h4 : (2 : Nat) ^ 8000 ≤ 2 ^ 400000 := Nat.pow_le_pow_right (by omega) (by omega)
          omega
        have hLt := l7.keep _ _ (fun z => z) W'.hl
        have hVt := l7.keep _ _ (fun z => z) W'.hv
        refine S.setL (U := none) trivial (R.callP (P := TpI (addk si (-(vals'.getD i 0 / l)) sa)) C2 hr (by decide) (by rfl) (RA.cons (R.ixL hLt (atI_nat hui) (fun z => z) (R.var (i := 3) rfl (.inl rfl) rfl) (R.var (i := 7) rfl (.inl rfl) rfl)) (RA.cons (R.ixL hLt (atI_nat hua) (fun z => z) (R.var (i := 3) rfl (.inl rfl) rfl) (R.var (i := 6) rfl (.inl rfl) rfl))
          (RA.last (R.neg (R.fdiv (wide_div hlp (b := 8000) (by have := O.m1; omega) (by decide) (by decide)) (R.ixL hVt (gv i _ hvi) (fun z => z) (R.var (i := 4) rfl (.inl rfl) rfl) (R.var (i := 7) rfl (.inl rfl) rfl)) (R.var (i := 5) rfl (.inl rfl) rfl)))))) ?_) ?_
        · rintro vs H8 l8 _ ⟨v, r, rfl, rfl, v', r', rfl, rfl, v'', r'', rfl, rfl, rfl⟩
          exact ⟨(si, sa, -(vals'.getD i 0 / l)), ⟨_, _, rfl, Fz.le (l7.trans l8) ri, Fz.le (l7.trans l8) ra, by rw [W.gi.lens si memi]; exact O.d3, hqb, bd_of_ent W.ent hAb mema⟩, fun v H9 _ _ e => e⟩
        · rintro v H8 l8 _ hv8
          refine ⟨L, us', _, i, R.var (i := 3) rfl (.inl rfl) rfl, R.var (i := 7) rfl (.inl rfl) rfl, l8.keep _ _ (fun z => z) hLt, (fun z => z), ixN_nat (by omega), fun H9 l9 _ hL9 => ?_⟩
          have l79 := (l7.trans l8).trans l9
          have hV9 : (upd H9 L (.lst (us'.set i v))) Vl = some (.lst (vals'.map V.int)) := by
            rw [upd_ne (fun z => hLV z.symm)]; exact l79.keep _ _ (fun z => z) W'.hv
          -- values[i] = values[i] % least
          refine S.setL (U := none) trivial (R.mod hlp (R.ixL hV9 (gv i _ hvi) (fun z => z) (R.var (i := 4) rfl (.inl rfl) rfl) (R.var (i := 7) rfl (.inl rfl) rfl)) (R.var (i := 5) rfl (.inl rfl) rfl)) ?_
          rintro v' H10 l10 _ rfl
          refine ⟨Vl, vals'.map V.int, _, i, R.var (i := 4) rfl (.inl rfl) rfl, R.var (i := 7) rfl (.inl rfl) rfl, l10.keep _ _ (fun z => z) hV9, (fun z => z), ixN_nat (by rw [List.length_map]; omega), fun H11 l11 _ hV11 => S.nil (S.nil ?_)⟩
          have hL11 : H11 L = some (.lst (us'.set i v)) := (l10.trans l11).keep _ _ (fun z => z) upd_same
          have tk : Tk H'' (upd H11 Vl (.lst ((vals'.map V.int).set i (V.int (vals'.getD i 0 % l))))) := (l79.tup.trans (upd_tk hL9)).trans ((l10.trans l11).tup.trans (upd_tk hV11))
          have ent' : Ent (A * (1 + (Ps.turn W.ent hlp q1 hsi hsa hvi hvm.1 (.inr hle)).tot.choose)) (left'.set i (addk si (-(vals'.getD i 0 / l)) sa)) := (Ps.turn W.ent hlp q1 hsi hsa hvi hvm.1 (.inr hle)).tot.choose_spec.2.1
          refine ⟨left'.set i (addk si (-(vals'.getD i 0 / l)) sa), vals'.set i (vals'.getD i 0 % l), us'.set i v, _, _, _, _, rfl, ⟨?_, ?_, ?_, ?_, W'.gi.step O.lens q1 hsi hsa hvi hatv hlp hlm', ent'⟩, Ps.turn W.ent hlp q1 hsi hsa hvi hvm.1 (.inr hle)⟩
          · have a1 : Le none x.H0 (upd H9 L (.lst (us'.set i v))) := (W'.le.trans l79).mut trivial hL0
            have a2 : Le none x.H0 H11 := a1.trans (l10.trans l11)
            exact a2.mut trivial (l1.fresh trivial hV0)
          · rw [upd_ne hLV]; exact hL11
          · exact (W'.rep.tk tk).set (Fz.mv _ _ _ ((l9.tup.trans (upd_tk hL9)).trans ((l10.trans l11).tup.trans (upd_tk hV11))) hv8)
          · rw [upd_same, List.map_set]
      · -- nothing is done
        refine ⟨left', vals', us', A', _, _, _, rfl, ⟨W'.le.trans l7, l7.keep _ _ (fun z => z) W'.hl, W'.rep.tk l7.tup, l7.keep _ _ (fun z => z) W'.hv, W'.gi, W'.ent⟩, Ps.skip hlp ?_⟩
        by_cases h1 : i = at_
        · exact .inl h1
        · refine .inr (.inl ?_)
          rw [hvi]
          congr 1
          refine Classical.byContradiction fun h2 => ?_
          have h3 : (!decide (V.int (i : Int) = V.int (at_ : Int))) = true := by rw [dec_int]; simpa using (fun z : (i : Int) = at_ => h1 (by omega))
          have h4 : (!decide (V.int (vals'.getD i 0) = V.int 0)) = true := by rw [dec_int]; simpa using h2
          rw [h3, h4] at q
          exact Bool.noConfusion q
    · -- behind the pass
      rintro σ' H' ⟨left', vals', us', A', x7, x8, x9, rfl, W', Ps⟩
      rw [Int.toNat_natCast, hlen] at Ps
      have hvl : vals'.length = vals.length := by rw [W'.gi.vlen, W.gi.vlen]
      have hn : ∃ n, x.steps.length = n + 1 := ⟨x.steps.length - 1, by have := O.n0; omega⟩
      obtain ⟨n, hn⟩ := hn
      rw [hn] at hpot
      rw [← hvl] at Ps
      obtain ⟨⟨A2, hG⟩, h1, h2⟩ := Ps.done (n := n) (C := x.C) ⟨W.ent, hpot⟩ hlp (by rw [W'.gi.vlen, hn]) hat (fun y hy => (W'.gi.v0 y hy).1) (by
        obtain ⟨k, y, a1, a2, a3, a4⟩ := two_nz (at_ := at_) e1
        exact ⟨k, y, by rw [hvl]; exact a1, a2, a3, a4⟩)
      refine ⟨⟨left', vals', us', A2, _, _, _, _, _, rfl, ⟨W'.le, W'.hl, W'.rep, W'.hv, W'.gi, hG.ent⟩, by rw [hn]; exact hG.pot, .inr h2⟩, ?_⟩
      show lsum (H' Vl) < lsum _
      rw [W'.hv, W.hv, lsum_ints, lsum_ints]
      omega
  · -- the end of the while
    obtain ⟨left, vals, us, A, x5, x6, x7, x8, x9, rfl, W, hpot, hA⟩ := wi
    have e1 : ¬ 1 < (vals.filter (fun x => decide (x ≠ 0))).length := of_decide_eq_false (e vals W.hv).symm
    refine ⟨left, vals, us, A, _, _, _, _, _, rfl, ⟨W.le.trans l3, l3.keep _ _ (fun z => z) W.hl, W.rep.tk l3.tup, l3.keep _ _ (fun z => z) W.hv, W.gi, W.ent⟩, ?_, by omega⟩
    rcases hA with h | h
    · exact .inr h
    · have h1 : 1 ≤ vals.sum.toNat ^ x.steps.length := Nat.pow_pos (by omega)
      have h2 : A * 1 ≤ A * vals.sum.toNat ^ x.steps.length := Nat.mul_le_mul_left _ h1
      exact .inl (by omega)
  · -- for at in range(len(left))
    obtain ⟨left, vals, us, A, x5, x6, x7, x8, x9, rfl, W, hA, h1⟩ := wi
    have hlen : us.length = vals.length := by rw [W.rep.1, W.gi.len, W.gi.vlen]
    have hn0 : 0 < us.length := by rw [W.rep.1, W.gi.len]; exact O.n0
    refine S.cut (Mid := fun σ' H' => ∃ x5 x6 x7 x8 x9, σ' = [some (.ref p), some (.ref pr), some (.int x.m), some (.ref L), some (.ref Vl), x5, x6, x7, x8, x9] ∧ GsW x L Vl left vals us A H' ∧ ∀ y ∈ vals, y = 0) (S1.for (U := none) (Src.range1 (n := us.length) (by rfl) B.range (by have := O.n1; have := W.rep.1; have := W.gi.len; omega) (R.lenL (by rfl) B.len W.hl (fun z => z) (R.var (i := 3) rfl (.inl rfl) rfl))) trivial PassesOwn.never rfl fun J H6 l6 _ wk => ⟨_, _, _, wk,
      fun i σ' H' => ∃ x5 x6 x7 x8 x9, σ' = [some (.ref p), some (.ref pr), some (.int x.m), some (.ref L), some (.ref Vl), x5, x6, x7, x8, x9] ∧ GsW x L Vl left vals us A H' ∧ ∀ (j : Nat) y, j < i → vals[j]? = some y → y = 0, ?_, fun _ _ _ _ _ => trivial, ?_, ?_⟩) ?_
    · exact ⟨_, _, _, _, _, rfl, ⟨W.le.trans l6, l6.keep _ _ (fun z => z) W.hl, W.rep.tk l6.tup, l6.keep _ _ (fun z => z) W.hv, W.gi, W.ent⟩, fun j y hj => absurd hj (by omega)⟩
    · rintro i v σ' H'' _ hi ⟨x5, x6, x7, x8, x9, rfl, W', hz⟩ ⟨rfl, rfl⟩
      have hi : i < us.length := by rw [Int.toNat_natCast] at hi; exact hi
      have hvi : vals[i]? = some (vals.getD i 0) := by rw [List.getD_eq_getElem?_getD, List.getElem?_eq_getElem (by omega)]; rfl
      have gv : atI (vals.map V.int) (i : Int) = some (V.int (vals.getD i 0)) := atI_nat (by rw [List.getElem?_map, hvi]; rfl)
      refine ⟨_, Tg.name sc_gathered_steps.nd (i := 6) rfl (.inl rfl), ?_⟩
      refine S.if (U := none) trivial (RT.ne rfl (R.ixL W'.hv gv (fun z => z) (R.var (i := 4) rfl (.inl rfl) rfl) (R.var (i := 6) rfl (.inl rfl) rfl)) R.int) (fun q H7 l7 _ => ?_) (fun q H7 l7 _ => S.nil (S.nil ?_))
      · have q2 : vals.getD i 0 ≠ 0 := fun z => by rw [z] at q; simp at q
        obtain ⟨ui, hui⟩ : ∃ u, us[i]? = some u := ⟨_, List.getElem?_eq_getElem hi⟩
        obtain ⟨u0, hu0⟩ : ∃ u, us[0]? = some u := ⟨_, List.getElem?_eq_getElem hn0⟩
        obtain ⟨si, hsi, ri⟩ := W'.rep.get hui
        obtain ⟨s0, hs0, r0⟩ := W'.rep.get hu0
        have hL7 := l7.keep _ _ (fun z => z) W'.hl
        have hV7 := l7.keep _ _ (fun z => z) W'.hv
        refine S.swapL (U := none) (P := NT [ui, u0]) rfl trivial (R.tup (RA.cons (R.ixL hL7 (atI_nat hui) (fun z => z) (R.var (i := 3) rfl (.inl rfl) rfl) (R.var (i := 6) rfl (.inl rfl) rfl)) (RA.last (R.ixL hL7 (atI_nat (j := 0) hu0) (fun z => z) (R.var (i := 3) rfl (.inl rfl) rfl) R.int))) ?_ ?_) ?_
        · rintro vs H8 ⟨v, r, rfl, _, v', r', rfl, _, rfl⟩; show 2 ≤ sizeLine; decide
        · rintro vs p' H8 _ _ ⟨v, r, rfl, rfl, v', r', rfl, rfl, rfl⟩ _; exact ⟨p', rfl, upd_same⟩
        rintro v H8 l8 _ ⟨T, rfl, hT⟩
        refine ⟨T, ui, u0, L, us, 0, i, 0, i, rfl, hT, R.var (i := 3) rfl (.inl rfl) rfl, R.int, fun H2 => R.var (i := 3) rfl (.inl rfl) rfl, fun H2 => R.var (i := 6) rfl (.inl rfl) rfl, l8.keep _ _ (fun z => z) hL7, (fun z => z), ixN_nat (n := us.length) (i := 0) hn0, ixN_nat hi, fun H9 t9 _ k9 hL9 => ?_⟩
        have l78 := l7.trans l8
        have hV9 : H9 Vl = some (.lst (vals.map V.int)) := k9 Vl _ (fun z => hLV z.symm) (fun z => z) (l8.keep _ _ (fun z => z) hV7)
        have le9 : Le none x.H0 H9 := ⟨fun q ob _ hq => k9 q ob (fun z => by rw [z, hL0] at hq; cases hq) (fun z => z) ((W'.le.trans l78).keep q ob (fun z => z) hq), (W'.le.trans l78).tup.trans t9, fun _ => trivial⟩
        refine S.ret (U := none) (P := NT [.ref L, .int (vals.getD i 0)]) trivial (R.tup (RA.cons (R.var (i := 3) rfl (.inl rfl) rfl) (RA.last (R.ixL hV9 gv (fun z => z) (R.var (i := 4) rfl (.inl rfl) rfl) (R.var (i := 6) rfl (.inl rfl) rfl)))) ?_ ?_) ?_
        · rintro vs H8 ⟨v, r, rfl, _, v', r', rfl, _, rfl⟩; show 2 ≤ sizeLine; decide
        · rintro vs p' H8 _ _ ⟨v, r, rfl, rfl, v', r', rfl, rfl, rfl⟩ _; exact ⟨p', rfl, upd_same⟩
        rintro v H10 l10 _ ⟨T2, rfl, hT2⟩
        have rep9 : Rep2 TpI left us H10 := W'.rep.tk ((l78.tup.trans t9).trans l10.tup)
        obtain ⟨_, a1⟩ := id rep9
        have ent' : ∀ s ∈ (left.set 0 si).set i s0, s ∈ left := fun s hs => by
          rcases mem_set hs with rfl | ⟨j, _, hj⟩
          · exact List.mem_of_getElem? hs0
          · rcases mem_set (List.mem_of_getElem? hj) with rfl | ⟨j', _, hj'⟩
            · exact List.mem_of_getElem? hsi
            · exact List.mem_of_getElem? hj'
        exact k _ H10 (le9.trans l10) trivial ⟨T2, L, _, (left.set 0 si).set i s0, _, rfl, hT2, hL0, l10.keep _ _ (fun z => z) hL9, (rep9.set (rep9.2 i si ui hsi hui)).set (rep9.2 0 s0 u0 hs0 hu0), gat_swap W'.gi hvi q2 h1 hs0 hsi, A, fun s hs => W'.ent s (ent' s hs), hA⟩
      · refine ⟨_, _, _, _, _, rfl, ⟨W'.le.trans l7, l7.keep _ _ (fun z => z) W'.hl, W'.rep.tk l7.tup, l7.keep _ _ (fun z => z) W'.hv, W'.gi, W'.ent⟩, fun j y hj hy => ?_⟩
        by_cases e : j = i
        · subst e
          rw [hvi] at hy
          cases hy
          refine Classical.byContradiction fun z => ?_
          have h4 : (!decide (V.int (vals.getD j 0) = V.int 0)) = true := by rw [dec_int]; simpa using z
          rw [h4] at q
          exact Bool.noConfusion q
        · exact hz j y (by omega) hy
    · rintro σ' H'' ⟨x5, x6, x7, x8, x9, rfl, W', hz⟩
      refine ⟨_, _, _, _, _, rfl, W', fun y hy => ?_⟩
      obtain ⟨j, hj, rfl⟩ := List.mem_iff_getElem.mp hy
      exact hz j _ (by rw [Int.toNat_natCast]; omega) (List.getElem?_eq_getElem hj)
    · rintro σ' H'' ⟨x5, x6, x7, x8, x9, rfl, W', hz⟩
      refine S.ret (U := none) (P := NT [.ref L, .int 0]) trivial (R.tup (RA.cons (R.var (i := 3) rfl (.inl rfl) rfl) (RA.last R.int)) ?_ ?_) ?_
      · rintro vs H8 ⟨v, r, rfl, _, v', r', rfl, _, rfl⟩; show 2 ≤ sizeLine; decide
      · rintro vs p' H8 _ _ ⟨v, r, rfl, rfl, v', r', rfl, rfl, rfl⟩ _; exact ⟨p', rfl, upd_same⟩
      rintro v H10 l10 _ ⟨T2, rfl, hT2⟩
      exact k _ H10 (W'.le.trans l10) trivial ⟨T2, L, us, left, _, rfl, hT2, hL0, l10.keep _ _ (fun z => z) W'.hl, W'.rep.tk l10.tup, gat_zero W'.gi O.m0 hz, A, W'.ent, hA⟩
end K62
end
section
set_option Elab.async false
set_option linter.all false
set_option maxRecDepth 100000
set_option maxHeartbeats 4000000
set_option exponentiation.threshold 100
set_option profiler true
set_option profiler.threshold 500
namespace K62
open PySem PySem.Spec PyProof.Rows L2
variable {P : Program} {w : World} {K : PySem.W.Frag} {mg : Str → Option Value} {base : Heap}
def uScope : Scope := match defBody s_unit_steps with
  | [.Return (some (.ListComp _ _ s _)) _] => s
  | _ => defScope s_unit_steps
abbrev sp_unit_steps : Sp := FSp (α := Nat) nU (fun n vs _ => vs = [.int n] ∧ n ≤ 1000) (fun n v H => ∃ L us, v = .ref L ∧ H L = some (.lst us) ∧ Rep2 TpI (units n) us H)
theorem ok_unit_steps (F : DefAt K mg "unit_steps" s_unit_steps ps_unit_steps) (B : Bln mg) : Callee P w K mg base 1 "unit_steps" ps_unit_steps sp_unit_steps := by
  refine callee_of F sc_unit_steps (fun vs H Q E h => ?_) fun f cdv A outer s H vs Q E hr h => ?_
  · obtain ⟨a, _, ⟨rfl, _⟩, _⟩ := h; rfl
  obtain ⟨n, _, ⟨rfl, hn⟩, k⟩ := h
  refine S.ret (U := none) (P := NLs none H fun vs H' => vs.length = n ∧ ∀ i y, vs[i]? = some y → TpI (unit n i) y H') trivial (R.lc (own := [("i", 1)]) rfl sc_unit_steps.nd (Src.range1 (n := n) (by rfl) B.range (by omega) (R.var (i := 0) rfl (.inr (.inl rfl)) rfl)) (blkOk_by (N := N_unit_steps) (sc := defScope s_unit_steps) (by decide +kernel))
    (fun J H1 l j wk => LcK.map (n := n) (fun i => TpI (unit n i)) (by rw [Int.toNat_natCast] at wk; exact wk) (by omega) l trivial (fun i H x H' => yFn_le) (fun _ _ => trivial) (fun i x H' H'' hi l' j' y => ?_))) fun v H1 l1 _ ⟨L, us, e, _, _, hL, hz, hu⟩ => k v H1 l1 trivial ⟨L, us, e, hL, by rw [hz, units, List.length_map, List.length_range], fun i a v e1 e2 => ?_⟩
  · obtain ⟨rfl, rfl⟩ := y
    refine ⟨_, fun s Hb C cl fp => Tg.name sc_unit_steps.nd (i := 1) rfl (.inr rfl), rfl, fun s Hb C cl fp => ?_⟩
    refine R.tupleI (H0 := H'') (n := n) (f := fun k => if k = i then 1 else 0) rfl (by rfl) B.tuple (R.lc (own := [("at", 2)]) rfl sc_unit_steps.nd (Src.range1 (n := n) (by rfl) B.range (by omega) (R.var (i := 0) rfl (.inr (.inl rfl)) rfl)) (blkOk_by (N := N_unit_steps) (sc := relS uScope (defScope s_unit_steps)) (by decide +kernel))
      (fun J H1 l j wk => LcK.map (n := n) (fun k => Is (V.int (if k = i then 1 else 0))) (by rw [Int.toNat_natCast] at wk; exact wk) (by omega) l trivial (fun i H x H' => yFn_le) (fun _ _ => trivial) (fun k x H' H3 hi l' j' y => ?_)))
    obtain ⟨rfl, rfl⟩ := y
    refine ⟨_, fun s Hb C cl fp => Tg.name sc_unit_steps.nd (i := 2) rfl (.inl rfl), rfl, fun s Hb C cl fp => R.ifE (RT.eq rfl (R.var (i := 2) rfl (.inl rfl) rfl) (R.var (i := 1) rfl (.inr (.inl rfl)) rfl)) (fun e => ?_) (fun e => ?_)⟩
    · have : k = i := by have := V.int.inj (of_decide_eq_true e.symm); omega
      rw [if_pos this]; exact R.int
    · have : ¬ k = i := fun z => by have := of_decide_eq_false e.symm; exact this (by rw [z])
      rw [if_neg this]; exact R.int
  · have : i < n := by have := (List.getElem?_eq_some_iff.mp e2).1; omega
    rw [units, List.getElem?_map, List.getElem?_range this] at e1
    cases e1
    exact hu i v e2

structure NwA where
  d : Nat
  cell : Row
  steps : List Row
  row : Row
  r : Int
  m : Int
  b : Nat
  β : Nat
abbrev NwA.g (x : NwA) : Nat := x.steps.length * (x.β + 10) + x.β + 1
structure NwA.Ok (x : NwA) : Prop where
  lens : Lens x.d x.steps
  d3 : x.d ≤ 1000
  n0 : 0 < x.steps.length
  n1 : x.steps.length ≤ 1000
  m0 : 0 < x.m
  m1 : x.m.natAbs < 2 ^ x.β
  β1 : x.β ≤ 8000
  row : x.row.length ≤ 1000
  brow : Bd 400000 x.row
  ent : Ent (2 ^ x.b) x.steps
  cl : x.cell.length = x.d
  cent : ∀ y ∈ x.cell, y.natAbs ≤ 2 ^ x.b
  b1 : x.b + x.g < 400000
abbrev sp_narrowed : Sp := FSp (α := NwA) nU (fun x vs H => ∃ vc p us w, vs = [vc, .ref p, w, .int x.r, .int x.m] ∧ TpI x.cell vc H ∧ H p = some (.lst us) ∧ Rep2 TpI x.steps us H ∧ TpI x.row w H ∧ x.Ok)
  (fun x v H => (v = .non ∧ NarNone x.steps x.cell x.row x.r x.m) ∨ ∃ T vc L us cell steps, v = .ref T ∧ H T = some (.tup [vc, .ref L]) ∧ TpI cell vc H ∧ H L = some (.lst us) ∧ Rep2 TpI steps us H ∧ Nar x.d x.cell x.steps x.row x.r x.m cell steps ∧
    cell.length = x.d ∧ Ent (2 ^ (x.b + x.g)) steps ∧ ∀ y ∈ cell, y.natAbs ≤ 2 ^ (x.b + x.g))
theorem nw_C {b n β : Nat} {m : Int} (hm : m.natAbs < 2 ^ β) (h0 : 0 < m) (hn : n ≤ 1000) : 2 ^ b * (n * m.toNat) ^ n ≤ 2 ^ (b + n * (β + 10)) := by
  rw [Nat.pow_add]
  apply Nat.mul_le_mul_left
  have h1 : n * m.toNat ≤ 2 ^ (β + 10) := by
    rw [Nat.pow_add, Nat.mul_comm]
    exact Nat.mul_le_mul (by omega) (by omega)
  calc (n * m.toNat) ^ n ≤ (2 ^ (β + 10)) ^ n := Nat.pow_le_pow_left h1 n
    _ = 2 ^ (n * (β + 10)) := by rw [← Nat.pow_mul, Nat.mul_comm]
theorem ok_narrowed (F : DefAt K mg "narrowed" s_narrowed ps_narrowed) (B : Bln mg) (Cs : Cst mg) (C1 : Callee P w K mg base 1 "product_at" ps_product_at sp_product_at) (C2 : Callee P w K mg base 1 "cell_sum" ps_cell_sum sp_cell_sum)
    (C3 : Callee P w K mg base 1 "inverse_of" ps_inverse_of sp_inverse_of) (C4 : Callee P w K mg base 2 "gathered_steps" ps_gathered_steps sp_gathered_steps) : Callee P w K mg base 3 "narrowed" ps_narrowed sp_narrowed := by
  refine callee_of F sc_narrowed (fun vs H Q E h => ?_) fun f cdv A outer s H vs Q E hr h => ?_
  · obtain ⟨a, _, ⟨vc, p, us, w, rfl, _⟩, _⟩ := h; rfl
  obtain ⟨x, _, ⟨vc, p, us, w0, rfl, ⟨pc, rfl, hc⟩, hp, hrep, ⟨pr, rfl, hrow⟩, O⟩, k⟩ := h
  have hCle := nw_C (b := x.b) (n := x.steps.length) O.m1 O.m0 O.n1
  have hb1 := O.b1
  have hgle : x.b + x.steps.length * (x.β + 10) + x.β + 1 = x.b + x.g := by unfold NwA.g; omega
  have hmb : x.m.natAbs < 2 ^ 8000 := Nat.lt_of_lt_of_le O.m1 (Nat.pow_le_pow_right (by omega) O.β1)
  let ga : GsA := ⟨x.d, x.steps, x.row, x.m, x.b, x.β, H⟩
  have G : ga.Ok := ⟨O.lens, O.d3, O.n0, O.n1, O.m0, O.row, O.brow, O.ent, Nat.lt_of_le_of_lt hCle (Nat.pow_lt_pow_right (by omega) (by omega)), by show x.b < 400000; omega, hmb⟩
  have sm : ∀ z : Int, 0 ≤ z → z ≤ x.m → z.natAbs < 2 ^ 8000 := fun z h1 h2 => Nat.lt_of_le_of_lt (show z.natAbs ≤ x.m.natAbs by clear hmb G hCle; omega) hmb
  clear hmb
  -- left, value = gathered_steps(..)
  refine S.asgT (U := none) (P := fun v H1 => ∃ T L us1 left vv, v = .ref T ∧ H1 T = some (.tup [.ref L, .int vv]) ∧ H L = none ∧ H1 L = some (.lst us1) ∧ Rep2 TpI left us1 H1 ∧ Gat x.d x.steps x.row x.m left vv ∧ Ent (2 ^ (x.b + x.steps.length * (x.β + 10))) left) trivial
    (R.of (R.call C4 hr (by rfl) (P := fun v H1 => ∃ T L us1 left vv, v = .ref T ∧ H1 T = some (.tup [.ref L, .int vv]) ∧ H L = none ∧ H1 L = some (.lst us1) ∧ Rep2 TpI left us1 H1 ∧ Gat x.d x.steps x.row x.m left vv ∧ Ent (2 ^ (x.b + x.steps.length * (x.β + 10))) left)
      (RA.cons (R.var (i := 1) rfl (.inl rfl) rfl) (RA.cons (R.var (i := 2) rfl (.inl rfl) rfl) (RA.last (R.var (i := 4) rfl (.inl rfl) rfl)))) ?_) (fun H1 l j Q q => ⟨rfl, l, j, q⟩)) ?_
  · rintro vs H1 l1 _ ⟨v, r, rfl, rfl, v', r', rfl, rfl, v'', r'', rfl, rfl, rfl⟩ Q' q
    refine ⟨{ ga with H0 := H1 }, trivial, ⟨p, us, _, rfl, rfl, l1.keep _ _ (fun z => z) hp, hrep.tk l1.tup, ⟨pr, rfl, l1.tup _ _ hrow⟩, ⟨G.lens, G.d3, G.n0, G.n1, G.m0, G.row, G.brow, G.ent, G.c1, G.b1, G.m1⟩⟩, fun v H2 l2 _ ⟨T, L, us1, left, vv, e, hT, hL0, hL, hre, hg, A, hA, hAb⟩ => q v H2 l2 trivial ⟨T, L, us1, left, vv, e, hT, l1.fresh trivial hL0, hL, hre, hg, hA.mono ?_⟩⟩
    rcases hAb with h | h
    · exact Nat.le_trans h hCle
    · exact Nat.le_trans h (Nat.pow_le_pow_right (by decide) (Nat.le_add_right _ _))
  rintro v H1 l1 _ ⟨T, L, us1, left, vv, rfl, hT, hL0, hL1, hre1, hg, hent⟩
  refine ⟨_, Tg.tup rfl hT (Tgs.cons (Tg.name sc_narrowed.nd (i := 5) rfl (.inl rfl)) (Tgs.cons (Tg.name sc_narrowed.nd (i := 6) rfl (.inl rfl)) Tgs.nil)), ?_⟩
  have Gl0 : left ≠ [] := fun z => by have := hg.len; rw [z] at this; have := O.n0; simp at *; omega
  obtain ⟨s0, rest, rfl⟩ := List.exists_cons_of_ne_nil Gl0
  have hs0 : s0.length = x.d := hg.lens s0 (List.mem_cons_self ..)
  have bs0 : ∀ y ∈ s0, y.natAbs ≤ 2 ^ (x.b + x.steps.length * (x.β + 10)) := hent s0 (List.mem_cons_self ..)
  have lt1 : ∀ n, n ≤ x.b + x.g → (2 : Nat) ^ n < 2 ^ 400000 := fun n hn => Nat.pow_lt_pow_right (by omega) (by omega)
  -- wanted
  refine S.asgI (U := none) (v := .int ((x.r - dot x.row x.cell) % x.m)) sc_narrowed.nd (i := 7) rfl (.inl rfl) trivial (R.mod O.m0 (R.sub (R.var (i := 3) rfl (.inl rfl) rfl) (R.callP (P := Is (.int (dot x.row x.cell))) C1 hr (by decide) (by rfl) (RA.cons (R.var (i := 2) rfl (.inl rfl) rfl) (RA.last (R.var (i := 0) rfl (.inl rfl) rfl))) ?_)) (R.var (i := 4) rfl (.inl rfl) rfl)) fun H2 l2 _ => ?_
  · rintro vs H2 l2 _ ⟨v, r, rfl, rfl, v', r', rfl, rfl, rfl⟩
    exact ⟨(x.row, x.cell), ⟨_, _, rfl, ⟨pr, rfl, (l1.trans l2).tup _ _ hrow⟩, ⟨pc, rfl, (l1.trans l2).tup _ _ hc⟩, O.row, O.brow, fun y hy => Nat.lt_of_le_of_lt (O.cent y hy) (lt1 _ (by omega))⟩, fun v H3 _ _ e => e⟩
  -- common
  refine S.asgI (U := none) sc_narrowed.nd (i := 8) rfl (.inl rfl) trivial (R.gcd (by rfl) Cs.gcd (R.var (i := 6) rfl (.inl rfl) rfl) (R.var (i := 4) rfl (.inl rfl) rfl)) fun H3 l3 _ => ?_
  have hm0 := O.m0
  have hgp : (0 : Int) < ((Nat.gcd vv.natAbs x.m.natAbs : Nat) : Int) := by
    have : Nat.gcd vv.natAbs x.m.natAbs ≠ 0 := fun z => by
      have := (Nat.gcd_eq_zero_iff.mp z).2; omega
    omega
  have gm : ((Nat.gcd vv.natAbs x.m.natAbs : Nat) : Int) ∣ x.m := Int.gcd_dvd_right vv x.m
  have gv : ((Nat.gcd vv.natAbs x.m.natAbs : Nat) : Int) ∣ vv := Int.gcd_dvd_left vv x.m
  have gle := Int.le_of_dvd hm0 gm
  generalize hgg : ((Nat.gcd vv.natAbs x.m.natAbs : Nat) : Int) = g at *
  generalize hwd : (x.r - dot x.row x.cell) % x.m = wd at *
  have wd0 : 0 ≤ wd := hwd ▸ Int.emod_nonneg _ (by omega)
  have wd1 : wd < x.m := hwd ▸ Int.emod_lt_of_pos _ hm0
  -- if wanted % common != 0
  refine S.if (U := none) trivial (RT.ne rfl (R.mod hgp (R.var (i := 7) rfl (.inl rfl) rfl) (R.var (i := 8) rfl (.inl rfl) rfl)) R.int) (fun e H4 l4 _ => ?_) (fun e H4 l4 _ => S.nil ?_)
  · have e1 : wd % g ≠ 0 := by rw [ne_int] at e; exact of_decide_eq_true e.symm
    refine S.ret (U := none) trivial R.non fun v H5 l5 _ ev => k v H5 ((((l1.trans l2).trans l3).trans l4).trans l5) trivial (.inl ⟨ev, nar_none hg hm0 ?_⟩)
    rw [hgg, hwd]
    exact fun z => e1 (Int.emod_eq_zero_of_dvd z)
  have e1 : g ∣ wd := by
    rw [ne_int] at e
    have := of_decide_eq_false e.symm
    exact Int.dvd_of_emod_eq_zero (Classical.byContradiction this)
  have hor : 0 < x.m / g := Int.ediv_pos_of_pos_of_dvd hm0 (by omega) gm
  have hole : x.m / g ≤ x.m := Int.ediv_le_self _ (by omega)
  have qw0 : 0 ≤ wd / g := Int.ediv_nonneg wd0 (by omega)
  have qw1 : wd / g ≤ wd := Int.ediv_le_self _ wd0
  -- order
  refine S.asgI (U := none) sc_narrowed.nd (i := 9) rfl (.inr rfl) trivial (R.fdiv (wide_div hgp (sm g (by omega) gle) (by decide) (by decide)) (R.var (i := 4) rfl (.inl rfl) rfl) (R.var (i := 8) rfl (.inl rfl) rfl)) fun H5 l5 _ => ?_
  -- many
  have hv0 := hg.v0
  have hv1 := hg.v1
  refine S.asg (U := none) (P := In fun z => ∃ inv, InvOf (vv / g) (x.m / g) inv ∧ z = wd / g * inv % (x.m / g)) sc_narrowed.nd (i := 10) rfl (.inl rfl) trivial (R.imIn (R.opIn (C := fun _ j => 0 < j) (φ := fun z => ∃ inv, InvOf (vv / g) (x.m / g) inv ∧ z = wd / g * inv) (ψ := (· = x.m / g)) op_mod (fun i j _ e => by rw [e]; exact hor)
      (R.imIn (R.opIn (C := CMulW) (φ := (· = wd / g)) (ψ := InvOf (vv / g) (x.m / g)) op_mulW (fun i j e1 e2 => wide_mul (a := 8000) (b := 8000) (by rw [e1]; exact sm _ qw0 (by omega)) (sm j e2.1 (by have := e2.2.1; omega)) (by decide) (by decide) (by decide))
        (R.toIn (R.fdiv (wide_div hgp (sm g (by omega) gle) (by decide) (by decide)) (R.var (i := 7) rfl (.inl rfl) rfl) (R.var (i := 8) rfl (.inl rfl) rfl)))
        (R.callP C3 hr (by decide) (by rfl) (RA.cons (R.fdiv (wide_div hgp (sm g (by omega) gle) (by decide) (by decide)) (R.var (i := 6) rfl (.inl rfl) rfl) (R.var (i := 8) rfl (.inl rfl) rfl)) (RA.last (R.var (i := 9) rfl (.inr (.inl rfl)) rfl))) ?_)) (fun i ⟨a, b, e1, e2, e3⟩ => ⟨b, e2, by rw [e3, e1]⟩))
      (R.toIn (R.var (i := 9) rfl (.inr (.inl rfl)) rfl))) (fun i ⟨a, b, ⟨inv, h1, h2⟩, e2, e3⟩ => ⟨inv, h1, by rw [e3, h2, e2]⟩)) ?_
  · rintro vs H6 l6 _ ⟨v, r, rfl, rfl, v', r', rfl, rfl, rfl⟩
    exact ⟨(vv / g, x.m / g), ⟨rfl, hor, sm _ (by omega) hole⟩, fun v H7 _ _ e => e⟩
  rintro v H6 l6 _ ⟨many, rfl, inv, hinv, hmany⟩
  have l16 := ((((l1.trans l2).trans l3).trans l4).trans l5).trans l6
  have l26 := (((l2.trans l3).trans l4).trans l5).trans l6
  have hL6 := l26.keep _ _ (fun z => z) hL1
  have hre6 := hre1.tk l26.tup
  -- first = left[0]
  obtain ⟨u0, hu0, ⟨p0, rfl, hp0⟩⟩ := hre6.of (i := 0) (a := s0) rfl
  refine S.asgI (U := none) sc_narrowed.nd (i := 11) rfl (.inl rfl) trivial (R.ixL hL6 (atI_nat (j := 0) hu0) (fun z => z) (R.var (i := 5) rfl (.inl rfl) rfl) R.int) fun H7 l7 _ => ?_
  have hp07 := l7.tup _ _ hp0
  have hmul : ∀ y ∈ s0, CMulW (x.m / g) y := fun y hy => wide_mul (a := 8000) (b := 400000) (sm _ (by omega) hole) (Nat.lt_of_le_of_lt (bs0 y hy) (lt1 _ (by omega))) (by decide) (by decide) (by decide)
  -- left[0] = tuple(..)
  show S _ _ [some (.ref pc), some (.ref p), some (.ref pr), some (.int x.r), some (.int x.m), some (.ref L), some (.int vv), some (.int wd), some (.int g), some (.int (x.m / g)), some (.int many), some (.ref p0), none] _ _
  refine S.setL (U := none) (P := TpI (s0.map (x.m / g * ·))) trivial (R.tupleI (H0 := H7) (n := (s0.map V.int).length) (f := fun i => x.m / g * s0.getD i 0) ?_ (by rfl) B.tuple (R.lc (own := [("number", 12)]) rfl sc_narrowed.nd (Src.tup (R.var (i := 11) rfl (.inl rfl) rfl) hp07) (blkOk_by (N := N_narrowed) (sc := defScope s_narrowed) (by decide +kernel))
      (fun J H1 l j wk => LcK.map (fun i => Is (V.int (x.m / g * s0.getD i 0))) wk (by rw [List.length_map, hs0]; have := O.d3; omega) l trivial (fun i H x H' => yAt_le) (fun H' l' => l'.tup _ _ (l.tup _ _ hp07)) (fun i y H' H'' hi l' j' yy => ?_)))) ?_
  · rw [List.length_map]
    conv => rhs; rw [← range_getD s0, List.map_map]
    rfl
  · obtain ⟨rfl, hy⟩ := yy
    obtain ⟨rfl, hm⟩ := getV hy
    refine ⟨_, fun s Hb C cl fp => Tg.name sc_narrowed.nd (i := 12) rfl (.inl rfl), rfl, fun s Hb C cl fp => R.mul (hmul _ hm) (R.var (i := 9) rfl (.inr (.inl rfl)) rfl) (R.var (i := 12) rfl (.inl rfl) rfl)⟩
  rintro v H8 l8 _ hv8
  have hL8 := (l7.trans l8).keep _ _ (fun z => z) hL6
  refine ⟨L, us1, _, 0, R.var (i := 5) rfl (.inl rfl) rfl, R.int, hL8, (fun z => z), ixN_nat (i := 0) (by rw [hre1.1]; exact Nat.succ_pos _), fun H9 l9 _ hL9 => ?_⟩
  have hmany0 : 0 ≤ many := hmany ▸ Int.emod_nonneg _ (by omega)
  have hmany1 : many < x.m / g := hmany ▸ Int.emod_lt_of_pos _ hor
  have tk9 : Tk H (upd H9 L (.lst (us1.set 0 v))) := (l16.tup.trans ((l7.trans l8).trans l9).tup).trans (upd_tk hL9)
  have le9 : Le none H (upd H9 L (.lst (us1.set 0 v))) := ((((l16.trans l7).trans l8).trans l9)).mut trivial hL0
  have hp09 : (upd H9 L (.lst (us1.set 0 v))) p0 = some (.tup (s0.map V.int)) := (upd_tk hL9) _ _ ((l8.trans l9).tup _ _ hp07)
  have hres : Nar x.d x.cell x.steps x.row x.r x.m (addk x.cell many s0) (s0.map (x.m / g * ·) :: rest) := by
    have h1 := nar_some (cell := x.cell) (r := x.r) (g := g) (inv := inv) hg O.lens O.cl hm0 hgg.symm (by rw [hwd]; exact e1) (hinv.2.2 ?_)
    · rwa [hwd, ← hmany] at h1
    · rw [← hgg]
      have hgz : 0 < Nat.gcd vv.natAbs x.m.natAbs := by omega
      exact Int.gcd_ediv_gcd_ediv_gcd hgz
  have hr9 : Rep2 TpI (s0.map (x.m / g * ·) :: rest) (us1.set 0 v) (upd H9 L (.lst (us1.set 0 v))) := by
    have h1 : Rep2 TpI ((s0 :: rest).set 0 (s0.map (x.m / g * ·))) (us1.set 0 v) (upd H9 L (.lst (us1.set 0 v))) := (hre6.tk (((l7.trans l8).trans l9).tup.trans (upd_tk hL9))).set (Fz.mv _ _ _ (l9.tup.trans (upd_tk hL9)) hv8)
    exact h1
  refine S.ret (U := none) (P := fun w H' => ∃ T vc, w = .ref T ∧ H' T = some (.tup [vc, .ref L]) ∧ TpI (addk x.cell many s0) vc H') trivial (R.tup (RA.cons (R.callP (P := TpI (addk x.cell many s0)) C2 hr (by decide) (by rfl) (RA.cons (R.var (i := 0) rfl (.inl rfl) rfl) (RA.cons (R.var (i := 11) rfl (.inl rfl) rfl) (RA.last (R.var (i := 10) rfl (.inl rfl) rfl)))) ?_) (RA.last (R.var (i := 5) rfl (.inl rfl) rfl))) ?_ ?_) ?_
  · rintro vs H10 l10 _ ⟨v, r, rfl, rfl, v', r', rfl, rfl, v'', r'', rfl, rfl, rfl⟩
    exact ⟨(x.cell, s0, many), ⟨_, _, rfl, ⟨pc, rfl, (le9.trans l10).tup _ _ hc⟩, ⟨p0, rfl, l10.tup _ _ hp09⟩, by show x.cell.length ≤ 1000; rw [O.cl]; exact O.d3, Nat.lt_of_lt_of_le (sm many hmany0 (by omega)) (Nat.pow_le_pow_right (by omega) (by omega)), fun y hy => Nat.lt_of_le_of_lt (bs0 _ hy) (lt1 _ (by omega))⟩, fun v H7 _ _ e => e⟩
  · rintro vs H8 ⟨v, r, rfl, _, v', r', rfl, _, rfl⟩; show 2 ≤ sizeLine; decide
  · rintro vs p' H8 _ _ ⟨v, r, rfl, hv, v', r', rfl, rfl, rfl⟩ hn; exact ⟨p', v, rfl, upd_same, Fz.le (Le.new (U := none) trivial hn) hv⟩
  rintro w' H10 l10 _ ⟨T2, vc2, rfl, hT2, hc2⟩
  have pw : 2 ^ (x.b + x.steps.length * (x.β + 10)) * 2 ^ x.β = 2 ^ (x.b + x.steps.length * (x.β + 10) + x.β) := (Nat.pow_add ..).symm
  have pw2 : (2 : Nat) ^ (x.b + x.g) = 2 * 2 ^ (x.b + x.steps.length * (x.β + 10) + x.β) := by rw [← hgle, Nat.pow_succ, Nat.mul_comm]
  have pw3 : (2 : Nat) ^ x.b ≤ 2 ^ (x.b + x.steps.length * (x.β + 10) + x.β) := Nat.pow_le_pow_right (by omega) (by omega)
  have pw4 : (2 : Nat) ^ (x.b + x.steps.length * (x.β + 10)) ≤ 2 ^ (x.b + x.steps.length * (x.β + 10) + x.β) := Nat.pow_le_pow_right (by omega) (by omega)
  have hm1 := O.m1
  refine k _ H10 (le9.trans l10) trivial (.inr ⟨T2, vc2, L, _, addk x.cell many s0, _, rfl, hT2, hc2, l10.keep _ _ (fun z => z) upd_same, hr9.tk l10.tup, hres, by rw [addk_len, O.cl, hs0, Nat.min_self], fun t ht y hy => ?_, fun y hy => ?_⟩)
  · rcases List.mem_cons.mp ht with rfl | ht
    · obtain ⟨z, hz, rfl⟩ := List.mem_map.mp hy
      rw [Int.natAbs_mul]
      have := Nat.mul_le_mul (show (x.m / g).natAbs ≤ 2 ^ x.β by omega) (bs0 z hz)
      rw [Nat.mul_comm (2 ^ x.β), pw] at this
      omega
    · have := hent t (List.mem_cons_of_mem _ ht) y hy
      omega
  · have h1 := addk_ent (k := many) O.cent bs0 y hy
    have := Nat.mul_le_mul_right (2 ^ (x.b + x.steps.length * (x.β + 10))) (show many.natAbs ≤ 2 ^ x.β by omega)
    rw [Nat.mul_comm (2 ^ x.β), pw] at this
    omega
end K62
end
section
set_option Elab.async false
set_option linter.all false
set_option maxRecDepth 100000
set_option maxHeartbeats 4000000
set_option exponentiation.threshold 100
namespace K62
open PySem PySem.Spec PyProof.Rows L2
variable {P : Program} {w : World} {K : PySem.W.Frag} {mg : Str → Option Value} {base : Heap}
/-- a tuple or a list of told things -/
def SeqR {α : Type} (R : α → VP) (as : List α) : VP := fun v H => ∃ p vs, v = .ref p ∧ (H p = some (.tup vs) ∨ H p = some (.lst vs)) ∧ Rep2 R as vs H
theorem SeqR.le {α : Type} {R : α → VP} [∀ a, Fz (R a)] {as : List α} {v : V} {H H' : Hp} (h : SeqR R as v H) (l : Le none H H') : SeqR R as v H' := by
  obtain ⟨p, vs, e, h1, h2⟩ := h
  exact ⟨p, vs, e, h1.elim (fun z => .inl (l.tup _ _ z)) (fun z => .inr (l.keep _ _ (fun z => z) z)), h2.tk l.tup⟩
theorem SeqR.of_tup {α : Type} {R : α → VP} {as : List α} {v : V} {H : Hp} (h : TupR R as v H) : SeqR R as v H := by
  obtain ⟨p, vs, e, h1, h2⟩ := h
  exact ⟨p, vs, e, .inl h1, h2⟩
theorem Src.seq {X : Cx} {σ : L2.St} {H : Hp} {e tg : Expr} {p : Addr} {xs : List V} (h : R X none e σ H (Is (.ref p))) (ht : H p = some (.tup xs) ∨ H p = some (.lst xs)) : ∃ o, H p = some o ∧ Src X none tg e σ H (Wk xs.length (fun H => H p = some o) (YAt xs)) := by
  rcases ht with ht | ht
  · exact ⟨_, ht, Src.tup h ht⟩
  · exact ⟨_, ht, Src.lst h ht (fun z => z)⟩
structure CoA where
  d : Nat
  ss : List Stp
structure StOk (d : Nat) (s : Stp) : Prop where
  m0 : 0 < s.m
  m1 : s.m.natAbs < 2 ^ 134
  len : s.c.length = d
  cs : ∀ x ∈ s.c, 0 ≤ x ∧ x < s.m
  r1 : s.r.natAbs < 2 ^ 134
theorem VS.st {p q d : Nat} {s : Stp} (h : VS p q d s) : StOk d s := ⟨h.pos, h.small, h.len, h.cs, Nat.lt_trans (by have := h.r0; have := h.r1; omega) h.small⟩
/-- what cells_on answers -/
def CoR (d : Nat) (ss : List Stp) (b : Nat) : VP := fun v H => (v = .non ∧ CN d ss) ∨ ∃ T vc L us cell steps, v = .ref T ∧ H T = some (.tup [vc, .ref L]) ∧ TpI cell vc H ∧ H L = some (.lst us) ∧ Rep2 TpI steps us H ∧ CI d ss cell steps ∧ Ent (2 ^ b) steps ∧ ∀ y ∈ cell, y.natAbs ≤ 2 ^ b
theorem CoR.le {d : Nat} {ss : List Stp} {b : Nat} {v : V} {H H' : Hp} (h : CoR d ss b v H) (l : Le none H H') : CoR d ss b v H' := by
  rcases h with h | ⟨T, vc, L, us, cell, steps, e, h1, h2, h3, h4, h5⟩
  · exact .inl h
  · exact .inr ⟨T, vc, L, us, cell, steps, e, l.tup _ _ h1, Fz.le l h2, l.keep _ _ (fun z => z) h3, h4.tk l.tup, h5⟩
abbrev sp_cells_on : Sp := FSp (α := CoA) nU (fun x vs H => ∃ v, vs = [v, .int x.d] ∧ SeqR StR x.ss v H ∧ 1 ≤ x.d ∧ x.d ≤ 3 ∧ x.ss.length ≤ 12 ∧ ∀ s ∈ x.ss, StOk x.d s) (fun x => CoR x.d x.ss 7000)
theorem bd_cs {d : Nat} {s : Stp} (h : StOk d s) : Bd 400000 s.c := fun y hy => by
  have := h.cs y hy
  have h1 := h.m1
  have h2 : y.natAbs < 2 ^ 134 := by omega
  exact Nat.lt_of_lt_of_le h2 (Nat.pow_le_pow_right (by decide) (by decide))
theorem ok_cells_on (F : DefAt K mg "cells_on" s_cells_on ps_cells_on) (B : Bln mg) (C1 : Callee P w K mg base 1 "unit_steps" ps_unit_steps sp_unit_steps) (C2 : Callee P w K mg base 3 "narrowed" ps_narrowed sp_narrowed) : Callee P w K mg base 4 "cells_on" ps_cells_on sp_cells_on := by
  refine callee_of F sc_cells_on (fun vs H Q E h => ?_) fun f cdv A outer s H vs Q E hr h => ?_
  · obtain ⟨a, _, ⟨v, rfl, _⟩, _⟩ := h; rfl
  obtain ⟨⟨d, ss⟩, _, ⟨v, rfl, ⟨p, us, rfl, hp, hrep⟩, d1, d3, hz, hok⟩, k⟩ := h
  have d1 : 1 ≤ d := d1
  have d3 : d ≤ 3 := d3
  have hz : ss.length ≤ 12 := hz
  have hok : ∀ s ∈ ss, StOk d s := hok
  -- found
  refine S.asg (U := none) (P := CoR d [] 0) sc_cells_on.nd (i := 2) rfl (.inl rfl) trivial (R.tup (RA.cons (P := NT (List.replicate d (.int 0))) (R.repT d1 (by omega) (R.tup (RA.last R.int) ?_ ?_) (R.var (i := 1) rfl (.inl rfl) rfl)) (RA.last (R.callP (P := fun v H => ∃ L us, v = .ref L ∧ H L = some (.lst us) ∧ Rep2 TpI (units d) us H) C1 hr (by decide) (by rfl) (RA.last (R.var (i := 1) rfl (.inl rfl) rfl)) ?_))) ?_ ?_) ?_
  · rintro vs H1 ⟨v, r, rfl, _, rfl⟩; show 1 ≤ sizeLine; decide
  · rintro vs p' H1 _ _ ⟨v, r, rfl, rfl, rfl⟩ _; exact ⟨p', rfl, upd_same⟩
  · rintro vs H1 _ _ ⟨v, r, rfl, rfl, rfl⟩; exact ⟨d, ⟨rfl, by omega⟩, fun v H2 _ _ h => h⟩
  · rintro vs H1 ⟨v, r, rfl, _, v', r', rfl, _, rfl⟩; show 2 ≤ sizeLine; decide
  · rintro vs p' H1 _ _ ⟨v, r, rfl, ⟨pz, rfl, hpz⟩, v', r', rfl, ⟨L, us', rfl, hL, hu⟩, rfl⟩ hn
    have l := Le.new (U := none) (H := H1) (o := .tup [.ref pz, .ref L]) trivial hn
    refine .inr ⟨p', .ref pz, L, us', List.replicate d 0, units d, rfl, upd_same, ⟨pz, rfl, ?_⟩, l.keep _ _ (fun z => z) hL, hu.tk l.tup, ci_start d, fun t ht y hy => ?_, fun y hy => ?_⟩
    · rw [l.tup _ _ hpz, List.map_replicate]
    · obtain ⟨i, _, rfl⟩ := List.mem_map.mp ht
      obtain ⟨j, _, rfl⟩ := List.mem_map.mp hy
      split <;> decide
    · rw [(List.mem_replicate.mp hy).2]; decide
  rintro vf H1 l1 _ hf
  have hp1 : H1 p = some (.tup us) ∨ H1 p = some (.lst us) := hp.elim (fun z => .inl (l1.tup _ _ z)) (fun z => .inr (l1.keep _ _ (fun z => z) z))
  obtain ⟨o, ho, hsrc⟩ := Src.seq (X := (cxOf CX0 P w K mg base N_cells_on "cells_on" (defScope s_cells_on) f cdv A outer s H E).nox) (σ := [some (.ref p), some (.int d), some vf, none, none, none]) (e := .Name "stripes" ⟨84, 29, 84, 36⟩) (tg := .Name "x" ⟨0, 0, 0, 0⟩) (R.var (i := 0) rfl (.inl rfl) rfl) hp1
  clear hsrc
  have src : ∀ e tg, R (cxOf CX0 P w K mg base N_cells_on "cells_on" (defScope s_cells_on) f cdv A outer s H E).nox none e [some (.ref p), some (.int d), some vf, none, none, none] H1 (Is (.ref p)) → Src (cxOf CX0 P w K mg base N_cells_on "cells_on" (defScope s_cells_on) f cdv A outer s H E).nox none tg e [some (.ref p), some (.int d), some vf, none, none, none] H1 (Wk us.length (fun H => H p = some o) (YAt us)) := fun e tg h => by
    obtain ⟨o', ho', h'⟩ := Src.seq (tg := tg) h hp1
    rw [ho] at ho'; cases ho'
    exact h'
  show S _ _ [some (.ref p), some (.int d), some vf, none, none, none] _ _
  refine S.cut (Mid := fun σ' H' => ∃ vf x3 x4 x5, σ' = [some (.ref p), some (.int d), some vf, x3, x4, x5] ∧ Le none H H' ∧ CoR d ss 7000 vf H') (S1.for (U := none) (src _ _ (R.var (i := 0) rfl (.inl rfl) rfl)) trivial PassesOwn.never rfl fun J H2 l2 _ wk => ⟨_, _, _, wk,
    fun i σ' H' => ∃ vf x3 x4 x5, σ' = [some (.ref p), some (.int d), some vf, x3, x4, x5] ∧ Le none H1 H' ∧ CoR d (ss.take i) (i * 567) vf H', ?_, fun i σ' H' _ ⟨_, _, _, _, _, l, _⟩ => l.keep _ _ (fun z => z) ho, ?_, ?_⟩) ?_
  · exact ⟨vf, none, none, none, rfl, l2, by simpa using hf.le l2⟩
  · rintro i v σ' H' H'' hi ⟨vf, x3, x4, x5, rfl, l, hc⟩ ⟨rfl, hv⟩
    have hrep' : Rep2 StR ss us H'' := hrep.tk (l1.trans l).tup
    obtain ⟨t, ht, ⟨q, vc, rfl, hq, hvc⟩⟩ := hrep'.get hv
    have hto := hok t (List.mem_of_getElem? ht)
    have e1 : ss.take (i + 1) = ss.take i ++ [t] := by rw [List.take_add_one, ht]; rfl
    refine ⟨_, Tg.tup rfl hq (Tgs.cons (Tg.name sc_cells_on.nd (i := 3) rfl (.inl rfl)) (Tgs.cons (Tg.name sc_cells_on.nd (i := 4) rfl (.inl rfl)) (Tgs.cons (Tg.name sc_cells_on.nd (i := 5) rfl (.inl rfl)) Tgs.nil))), ?_⟩
    show S _ _ [some (.ref p), some (.int d), some vf, some (.int t.m), some vc, some (.int t.r)] _ _
    refine S.one (S1.if (U := none) trivial (RT.notNone (R.var (i := 2) rfl (.inl rfl) rfl)) (fun e H3 l3 _ => ?_) (fun e H3 l3 _ => S.nil ?_))
    · rcases hc with ⟨rfl, _⟩ | ⟨T, vcl, L, ls, cell, steps, rfl, hT, hcl, hL, hls, hci, hent, hcent⟩
      · exact Bool.noConfusion (e : true = false)
      · have hT3 := l3.tup _ _ hT
        have hslen := hci.sl
        refine S.asg (U := none) (P := CoR d (ss.take (i + 1)) ((i + 1) * 567)) sc_cells_on.nd (i := 2) rfl (.inl rfl) trivial (R.callP C2 hr (by decide) (by rfl) (RA.cons (R.ixT (v := vcl) hT3 rfl (R.var (i := 2) rfl (.inl rfl) rfl) R.int) (RA.cons (R.ixT (v := .ref L) hT3 rfl (R.var (i := 2) rfl (.inl rfl) rfl) R.int) (RA.cons (R.var (i := 4) rfl (.inl rfl) rfl) (RA.cons (R.var (i := 5) rfl (.inl rfl) rfl) (RA.last (R.var (i := 3) rfl (.inl rfl) rfl)))))) ?_) ?_
        · rintro vs H4 l4 _ ⟨v1, r1, rfl, rfl, v2, r2, rfl, rfl, v3, r3, rfl, rfl, v4, r4, rfl, rfl, v5, r5, rfl, rfl, rfl⟩
          have l34 := l3.trans l4
          have hgv : d * (134 + 10) + 134 + 1 ≤ 567 := by omega
          have hi12 : i < 12 := by have := hrep.1; omega
          refine ⟨⟨d, cell, steps, t.c, t.r, t.m, i * 567, 134⟩, ⟨_, L, ls, _, rfl, Fz.le l34 hcl, l34.keep _ _ (fun z => z) hL, hls.tk l34.tup, Fz.le l34 hvc, ?_⟩, fun v H5 l5 _ hv => ?_⟩
          · exact ⟨hci.lens, by show d ≤ 1000; omega, by show 0 < steps.length; omega, by show steps.length ≤ 1000; omega, hto.m0, hto.m1, by show 134 ≤ 8000; decide, by show t.c.length ≤ 1000; rw [hto.len]; omega, bd_cs hto, hent, hci.cl, hcent, by show i * 567 + (steps.length * (134 + 10) + 134 + 1) < 400000; rw [hslen]; omega⟩
          · have hle : ∀ n, n = i * 567 + (steps.length * (134 + 10) + 134 + 1) → n ≤ (i + 1) * 567 := fun n hn => by rw [hslen] at hn; omega
            rcases hv with ⟨rfl, hn⟩ | ⟨T', vc', L', us', cell', steps', rfl, a1, a2, a3, a4, a5, a6, a7, a8⟩
            · exact .inl ⟨rfl, e1 ▸ cn_step hci hn hto.len hto.m0⟩
            · exact .inr ⟨T', vc', L', us', cell', steps', rfl, a1, a2, a3, a4, e1 ▸ ci_step hci a5 hto.len a6, a7.mono (Nat.pow_le_pow_right (by decide) (hle _ rfl)), fun y hy => Nat.le_trans (a8 y hy) (Nat.pow_le_pow_right (by decide) (hle _ rfl))⟩
        · rintro v H4 l4 _ hv
          exact S.nil ⟨v, _, _, _, rfl, (l.trans l3).trans l4, hv⟩
    · rcases hc with ⟨rfl, hn⟩ | ⟨T, vcl, L, ls, cell, steps, rfl, _⟩
      · exact ⟨.non, _, _, _, rfl, l.trans l3, .inl ⟨rfl, e1 ▸ cn_more hn⟩⟩
      · exact Bool.noConfusion (e : false = true)
  · rintro σ' H' ⟨vf, x3, x4, x5, rfl, l, hc⟩
    refine ⟨vf, _, _, _, rfl, l1.trans l, ?_⟩
    rw [hrep.1, List.take_length] at hc
    rcases hc with h | ⟨T, vcl, L, ls, cell, steps, e, a1, a2, a3, a4, a5, a6, a7⟩
    · exact .inl h
    · have hle : ss.length * 567 ≤ 7000 := by omega
      exact .inr ⟨T, vcl, L, ls, cell, steps, e, a1, a2, a3, a4, a5, a6.mono (Nat.pow_le_pow_right (by decide) hle), fun y hy => Nat.le_trans (a7 y hy) (Nat.pow_le_pow_right (by decide) hle)⟩
  · rintro σ' H' ⟨vf, x3, x4, x5, rfl, l, hc⟩
    exact S.ret (U := none) trivial (R.var (i := 2) rfl (.inl rfl) rfl) fun v H2 l2 _ e => k v H2 (l.trans l2) trivial (e ▸ hc.le l2)
end K62
end
section
set_option linter.all false
/-! Relations among stripes; what bars. -/
namespace K62
def CPd (ss : List Stp) (P : Int) : Prop := 0 < P ∧ (∀ s ∈ ss, s.m ∣ P) ∧ P.natAbs < 2 ^ (134 * ss.length + 1)
def rowI (ss : List Stp) (P : Int) (i : Nat) : Row := ss.map fun s => P / s.m * s.c.getD i 0
def rowR (ss : List Stp) (P : Int) : Row := ss.map fun s => P / s.m * s.r
structure Relt (k : Nat) (ss : List Stp) (P : Int) (steps : List Row) : Prop where
  len : steps.length = ss.length
  lens : Lens ss.length steps
  dvd : ∀ t ∈ steps, ∀ i, i < k → P ∣ dot (rowI ss P i) t
  full : ∀ l : Row, l.length = ss.length → (∀ i, i < k → P ∣ dot (rowI ss P i) l) → Span ss.length steps l
theorem relt_start {ss : List Stp} {P : Int} : Relt 0 ss P (units ss.length) :=
  ⟨by simp [units], units_lens, fun _ _ i hi => absurd hi (by omega), fun l hl _ => span_units hl⟩
theorem relt_step {k : Nat} {ss : List Stp} {P : Int} {steps steps' : List Row} {cell cell' : Row} (h : Relt k ss P steps) (N : Nar ss.length cell steps (rowI ss P k) 0 P cell' steps') : Relt (k + 1) ss P steps' := by
  refine ⟨N.len.trans h.len, N.lens, fun t ht i hi => ?_, fun l hl hd => N.fro l (h.full l hl fun i hi => hd i (by omega)) (hd k (by omega))⟩
  by_cases e : i = k
  · subst e; exact N.dvd t ht
  · exact (N.to t ht).dvd h.lens fun s hs => h.dvd s hs i (by omega)
theorem relt_none {n : Nat} {P : Int} {row : Row} {steps : List Row} (h : NarNone steps (List.replicate n 0) row 0 P) : False := by
  obtain ⟨g, _, _, _, hn⟩ := h
  rw [dot_zeros] at hn
  exact hn (by simp)
theorem cpd_start : CPd [] 1 := ⟨by decide, (fun s hs => nomatch hs), by decide⟩
theorem cpd_step {ss : List Stp} {s : Stp} {P : Int} (h : CPd ss P) (h0 : 0 < s.m) (h1 : s.m.natAbs < 2 ^ 134) : CPd (ss ++ [s]) (P / ((Nat.gcd P.natAbs s.m.natAbs : Nat) : Int) * s.m) := by
  obtain ⟨p0, pd, pb⟩ := h
  have g1 : ((Nat.gcd P.natAbs s.m.natAbs : Nat) : Int) ∣ P := Int.gcd_dvd_left P s.m
  have g2 : ((Nat.gcd P.natAbs s.m.natAbs : Nat) : Int) ∣ s.m := Int.gcd_dvd_right P s.m
  have g0 : (0 : Int) < ((Nat.gcd P.natAbs s.m.natAbs : Nat) : Int) := by
    have : 0 < Nat.gcd P.natAbs s.m.natAbs := Nat.gcd_pos_of_pos_left _ (by omega)
    omega
  generalize ((Nat.gcd P.natAbs s.m.natAbs : Nat) : Int) = g at *
  obtain ⟨x, rfl⟩ := g1
  obtain ⟨y, hy⟩ := g2
  rw [Int.mul_ediv_cancel_left _ (by omega)]
  have x0 : 0 < x := Int.pos_of_mul_pos_right p0 (by omega)
  refine ⟨Int.mul_pos x0 h0, fun t ht => ?_, ?_⟩
  · rcases List.mem_append.mp ht with ht | ht
    · refine Int.dvd_trans (pd t ht) ⟨y, ?_⟩
      rw [hy, Int.mul_left_comm, Int.mul_assoc]
    · have : t = s := by simpa using ht
      subst this
      exact Int.dvd_mul_left _ _
  · rw [Int.natAbs_mul, List.length_append]
    have hx : x.natAbs ≤ (g * x).natAbs := by
      rw [Int.natAbs_mul]
      exact Nat.le_mul_of_pos_left _ (by omega)
    have : x.natAbs < 2 ^ (134 * ss.length + 1) := Nat.lt_of_le_of_lt hx pb
    have e : 134 * (ss.length + [s].length) + 1 = 134 * ss.length + 1 + 134 := by simp; omega
    rw [e, Nat.pow_add]
    exact Nat.mul_lt_mul'' this h1
end K62
end
section
set_option Elab.async false
set_option linter.all false
set_option maxRecDepth 100000
set_option maxHeartbeats 4000000
set_option exponentiation.threshold 100
namespace K62
open PySem PySem.Spec PyProof.Rows L2
variable {P : Program} {w : World} {K : PySem.W.Frag} {mg : Str → Option Value} {base : Heap}
section
variable {X : Cx} {U : UA} {σ : L2.St} {H : Hp} {e a b c : Expr} {es : List Expr} {pos q : Pos}
theorem Src.sq {tg : Expr} {p : Addr} {k : Bool} {xs : List V} (h : R X U e σ H (Is (.ref p))) (ht : Sq k H p xs) (nm : k = true → ¬ Mv U p) : Src X U tg e σ H (Wk xs.length (fun H => Sq k H p xs) (YAt xs)) := by
  cases k
  · exact Src.tup h ht
  · exact Src.lst h ht (nm rfl)
theorem R.lenS {p : Addr} {k : Bool} {xs : List V} (hg : Gl X "len") (hm : X.mg "len" = none) (ht : Sq k H p xs) (nm : k = true → ¬ Mv U p) (ha : R X U a σ H (Is (.ref p)))
    (h1 : starEach [a] X.env = (false, eval a X.env) :: starEach [] X.env := by rfl) (h2 : (backTo pos (starEach [] X.env)).any (·.1) = false := by rfl) : R X U (.Call (.Name "len" q) [a] [] pos) σ H (Is (.int xs.length)) := by
  cases k
  · exact R.lenT hg hm ht ha h1 h2
  · exact R.lenL hg hm ht (nm rfl) ha h1 h2
end
/-- subscripts of what stands as long as the heap grows -/
theorem R.ixS {X : Cx} {U : UA} {σ : L2.St} {H : Hp} {a b : Expr} {P Pa Pi : VP} {pos : Pos} (st : ∀ v H H', Le U H H' → Pa v H → Pa v H') (hs : PlainIx b) (ha : R X U a σ H Pa) (hb : R X U b σ H Pi) {r : R2} (hr : IxR X r) (w : ∀ x y H1, Le U H H1 → Jn U H1 → Pa x H1 → Pi y H1 → K1 U P H1 (r x y H1)) : R X U (.Subscript a b pos) σ H P :=
  R.of (pe_ix hr ha hb hs) fun H1 l j Q q => ⟨rfl, l, j, fun x H2 l2 j2 px => ⟨rfl, l.trans l2, j2, fun y H3 l3 j3 py => w x y H3 ((l.trans l2).trans l3) j3 (st _ _ _ l3 px) py Q fun v H4 l4 j4 p => q v H4 ((l2.trans l3).trans l4) j4 p⟩⟩
theorem RA.consS {X : Cx} {U : UA} {σ : L2.St} {H : Hp} {e : Expr} {es : List Expr} {P : VP} {Ps : List V → Hp → Prop} (st : ∀ v H H', Le U H H' → P v H → P v H') (h : R X U e σ H P) (hr : RA X U es σ H Ps) (hs : starEach (e :: es) X.env = (false, eval e X.env) :: starEach es X.env := by rfl) : RA X U (e :: es) σ H (A2 P Ps) :=
  RA.of (pa_cons h hr hs) fun H1 l j Q q => ⟨rfl, l, j, fun v H2 l2 j2 p => ⟨rfl, l.trans l2, j2, fun vs H3 l3 j3 ps => q _ H3 (l2.trans l3) j3 ⟨v, vs, rfl, st _ _ _ l3 p, ps⟩⟩⟩
theorem SeqR.sq {α : Type} {R : α → VP} {as : List α} {v : V} {H : Hp} (h : SeqR R as v H) : ∃ p vs k, v = .ref p ∧ Sq k H p vs ∧ Rep2 R as vs H := by
  obtain ⟨p, vs, e, h1 | h1, h2⟩ := h
  · exact ⟨p, vs, false, e, h1, h2⟩
  · exact ⟨p, vs, true, e, h1, h2⟩
theorem nmN {p : Addr} {k : Bool} : k = true → ¬ Mv none p := fun _ z => z
theorem StOk.mb {d : Nat} {s : Stp} (h : StOk d s) : s.m.natAbs < 2 ^ 8000 := Nat.lt_of_lt_of_le h.m1 (Nat.pow_le_pow_right (by decide) (by decide))

abbrev sp_common_period : Sp := FSp (α := List Stp) nU (fun ss vs H => ∃ v, vs = [v] ∧ SeqR StR ss v H ∧ ss.length ≤ 12 ∧ ∀ s ∈ ss, ∃ d, StOk d s) (fun ss => In (CPd ss))
theorem ok_common_period (F : DefAt K mg "common_period" s_common_period ps_common_period) (B : Bln mg) (Cs : Cst mg) : Callee P w K mg base 1 "common_period" ps_common_period sp_common_period := by
  refine callee_of F sc_common_period (fun vs H Q E h => ?_) fun f cdv A outer s H vs Q E hr h => ?_
  · obtain ⟨a, _, ⟨v, rfl, _⟩, _⟩ := h; rfl
  obtain ⟨ss, _, ⟨v, rfl, hs, hz, hok⟩, k⟩ := h
  obtain ⟨p, us, kk, rfl, hp, hrep⟩ := hs.sq
  refine S.asgI (U := none) sc_common_period.nd (i := 1) rfl (.inl rfl) trivial R.int fun H1 l1 _ => ?_
  refine S.cut (Mid := fun σ' H' => ∃ P x2 x3 x4, σ' = [some (.ref p), some (.int P), x2, x3, x4] ∧ Le none H H' ∧ CPd ss P) (S1.for (U := none) (Src.sq (R.var (i := 0) rfl (.inl rfl) rfl) (hp.le nmN l1) nmN) trivial PassesOwn.never rfl fun J H2 l2 _ wk => ⟨_, _, _, wk,
    fun i σ' H' => ∃ P x2 x3 x4, σ' = [some (.ref p), some (.int P), x2, x3, x4] ∧ Le none H H' ∧ CPd (ss.take i) P, ⟨1, none, none, none, rfl, l1.trans l2, cpd_start⟩, fun i σ' H' _ ⟨_, _, _, _, _, l, _⟩ => hp.le nmN l, ?_, ?_⟩) ?_
  · rintro i v σ' H' H'' hi ⟨P, x2, x3, x4, rfl, l, hc⟩ ⟨rfl, hv⟩
    obtain ⟨t, ht, ⟨q, vc, rfl, hq, hvc⟩⟩ := (hrep.tk l.tup).get hv
    obtain ⟨d, hto⟩ := hok t (List.mem_of_getElem? ht)
    have e1 : ss.take (i + 1) = ss.take i ++ [t] := by rw [List.take_add_one, ht]; rfl
    refine ⟨_, Tg.tup rfl hq (Tgs.cons (Tg.name sc_common_period.nd (i := 2) rfl (.inl rfl)) (Tgs.cons (Tg.name sc_common_period.nd (i := 3) rfl (.inl rfl)) (Tgs.cons (Tg.name sc_common_period.nd (i := 4) rfl (.inl rfl)) Tgs.nil))), ?_⟩
    show S _ _ [some (.ref p), some (.int P), some (.int t.m), some vc, some (.int t.r)] _ _
    have hst := cpd_step hc hto.m0 hto.m1
    obtain ⟨c0, c1, c2⟩ := hc
    have hil : (ss.take i).length ≤ 12 := by rw [List.length_take]; omega
    have hg : (0 : Int) < ((Nat.gcd P.natAbs t.m.natAbs : Nat) : Int) := by
      have : 0 < Nat.gcd P.natAbs t.m.natAbs := Nat.gcd_pos_of_pos_left _ (by omega)
      omega
    have hgl : ((Nat.gcd P.natAbs t.m.natAbs : Nat) : Int).natAbs < 2 ^ 8000 := Nat.lt_of_le_of_lt (show _ ≤ t.m.natAbs by rw [Int.natAbs_natCast]; exact Nat.gcd_le_right _ (by have := hto.m0; omega)) hto.mb
    have hq0 : 0 ≤ P / ((Nat.gcd P.natAbs t.m.natAbs : Nat) : Int) := Int.ediv_nonneg (by omega) (by omega)
    have hq1 : P / ((Nat.gcd P.natAbs t.m.natAbs : Nat) : Int) ≤ P := Int.ediv_le_self _ (by omega)
    have hPb : P.natAbs < 2 ^ 8000 := Nat.lt_of_lt_of_le c2 (Nat.pow_le_pow_right (by decide) (by omega))
    refine S.asgI (U := none) sc_common_period.nd (i := 1) rfl (.inl rfl) trivial (R.mul (wide_mul (a := 8000) (b := 8000) (Nat.lt_of_le_of_lt (by clear hPb hgl; omega) hPb) hto.mb (by decide) (by decide) (by decide)) (R.fdiv (wide_div (b := 8000) hg hgl (by decide) (by decide)) (R.var (i := 1) rfl (.inl rfl) rfl) (R.gcd (by rfl) Cs.gcd (R.var (i := 1) rfl (.inl rfl) rfl) (R.var (i := 2) rfl (.inl rfl) rfl))) (R.var (i := 2) rfl (.inl rfl) rfl)) fun H3 l3 _ => S.nil ⟨_, _, _, _, rfl, l.trans l3, e1 ▸ hst⟩
  · rintro σ' H' ⟨P, x2, x3, x4, rfl, l, hc⟩
    rw [hrep.1, List.take_length] at hc
    exact ⟨P, _, _, _, rfl, l, hc⟩
  · rintro σ' H' ⟨P, x2, x3, x4, rfl, l, hc⟩
    exact S.ret (U := none) trivial (R.var (i := 1) rfl (.inl rfl) rfl) fun v H2 l2 _ e => k v H2 (l.trans l2) trivial ⟨P, e, hc⟩

def RelR (d : Nat) (ss : List Stp) : VP := fun v H => ∃ T L us pr steps P, v = .ref T ∧ H T = some (.tup [.ref L, .ref pr, .int P]) ∧ H L = some (.lst us) ∧ Rep2 TpI steps us H ∧ H pr = some (.tup ((rowR ss P).map V.int)) ∧ CPd ss P ∧ Relt d ss P steps ∧ Ent (2 ^ 70000) steps
abbrev sp_relations_of : Sp := FSp (α := Nat × List Stp) nU (fun x vs H => ∃ v, vs = [v, .int x.1] ∧ SeqR StR x.2 v H ∧ x.1 ≤ 3 ∧ 1 ≤ x.2.length ∧ x.2.length ≤ 12 ∧ ∀ s ∈ x.2, StOk x.1 s) (fun x => RelR x.1 x.2)
theorem ok_relations_of (F : DefAt K mg "relations_of" s_relations_of ps_relations_of) (B : Bln mg) (C0 : Callee P w K mg base 1 "common_period" ps_common_period sp_common_period) (C1 : Callee P w K mg base 1 "unit_steps" ps_unit_steps sp_unit_steps) (C2 : Callee P w K mg base 3 "narrowed" ps_narrowed sp_narrowed) : Callee P w K mg base 4 "relations_of" ps_relations_of sp_relations_of := by
  refine callee_of F sc_relations_of (fun vs H Q E h => ?_) fun f cdv A outer s H vs Q E hr h => ?_
  · obtain ⟨a, _, ⟨v, rfl, _⟩, _⟩ := h; rfl
  obtain ⟨⟨d, ss⟩, _, ⟨v, rfl, hs, hd, hz1, hz, hok⟩, k⟩ := h
  have hd : d ≤ 3 := hd
  have hz : ss.length ≤ 12 := hz
  have hz1 : 1 ≤ ss.length := hz1
  have hok : ∀ s ∈ ss, StOk d s := hok
  have hrs : ∀ s ∈ ss, s.r.natAbs < 2 ^ 134 := fun s hs => (hok s hs).r1
  obtain ⟨p, us, kk, rfl, hp, hrep⟩ := hs.sq
  have hul : us.length = ss.length := hrep.1
  refine S.asgT (U := none) (P := fun v H1 => ∃ T P, v = .ref T ∧ H1 T = some (.tup [.int P, .int ss.length]) ∧ CPd ss P) trivial (R.tup (RA.cons (R.callP (P := In (CPd ss)) C0 hr (by decide) (by rfl) (RA.last (R.var (i := 0) rfl (.inl rfl) rfl)) ?_) (RA.last (R.lenS (by rfl) B.len hp nmN (R.var (i := 0) rfl (.inl rfl) rfl)))) ?_ ?_) ?_
  · rintro vs H1 l _ ⟨v, r, rfl, rfl, rfl⟩
    exact ⟨ss, ⟨_, rfl, hs.le l, hz, fun s hs => ⟨d, hok s hs⟩⟩, fun v H2 _ _ h => h⟩
  · rintro vs H1 ⟨v, r, rfl, _, v', r', rfl, _, rfl⟩; show 2 ≤ sizeLine; decide
  · rintro vs p' H1 _ _ ⟨v, r, rfl, ⟨P, rfl, hP⟩, v', r', rfl, rfl, rfl⟩ hn; exact ⟨p', P, rfl, by rw [upd_same, hul], hP⟩
  rintro v H1 l1 _ ⟨T, P, rfl, hT, hP⟩
  refine ⟨_, Tg.tup rfl hT (Tgs.cons (Tg.name sc_relations_of.nd (i := 2) rfl (.inr rfl)) (Tgs.cons (Tg.name sc_relations_of.nd (i := 3) rfl (.inl rfl)) Tgs.nil)), ?_⟩
  show S _ _ [some (.ref p), some (.int d), some (.int P), some (.int ss.length), none, none, none, none, none] _ _
  refine S.par (U := none) (Ps := A2 (NT (List.replicate ss.length (.int 0))) (A2 (fun v H => ∃ L us, v = .ref L ∧ H L = some (.lst us) ∧ Rep2 TpI (units ss.length) us H) A0)) rfl sc_relations_of.nd (i := 4) (j := 5) rfl rfl (by decide) rfl rfl trivial (RA.cons (R.repT hz1 (by omega) (R.tup (RA.last R.int) ?_ ?_) (R.var (i := 3) rfl (.inl rfl) rfl)) (RA.last (R.callP C1 hr (by decide) (by rfl) (RA.last (R.var (i := 3) rfl (.inl rfl) rfl)) ?_))) ?_
  · rintro vs H1 ⟨v, r, rfl, _, rfl⟩; show 1 ≤ sizeLine; decide
  · rintro vs p' H1 _ _ ⟨v, r, rfl, rfl, rfl⟩ _; exact ⟨p', rfl, upd_same⟩
  · rintro vs H1 _ _ ⟨v, r, rfl, rfl, rfl⟩; exact ⟨ss.length, ⟨rfl, by omega⟩, fun v H2 _ _ h => h⟩
  rintro vs H2 l2 _ ⟨v, r, rfl, ⟨pz, rfl, hpz⟩, v', r', rfl, ⟨L0, us0, rfl, hL0, hu0⟩, rfl⟩
  have hpz : H2 pz = some (.tup ((List.replicate ss.length (0 : Int)).map V.int)) := by rw [hpz, List.map_replicate]
  refine ⟨_, _, rfl, ?_⟩
  show S _ _ [some (.ref p), some (.int d), some (.int P), some (.int ss.length), some (.ref pz), some (.ref L0), none, none, none] _ _
  obtain ⟨P0, P1, P2⟩ := id hP
  have hPb : P.natAbs < 2 ^ 1700 := Nat.lt_of_lt_of_le P2 (Nat.pow_le_pow_right (by decide) (by omega))
  have hqb : ∀ s ∈ ss, (P / s.m).natAbs < 2 ^ 1700 := fun s hs => by
    have h0 := (hok s hs).m0
    have h1 : 0 ≤ P / s.m := Int.ediv_nonneg (by omega) (by omega)
    have h2 : P / s.m ≤ P := Int.ediv_le_self _ (by omega)
    exact Nat.lt_of_le_of_lt (by clear hPb; omega) hPb
  have mx : ∀ s ∈ ss, ∀ x : Int, x.natAbs < 2 ^ 134 → CMulW (P / s.m) x := fun s hs x hx => wide_mul (hqb s hs) hx (by decide) (by decide) (by decide)
  have hgx : ∀ {n : Nat} {l : List Int} , n < l.length → (l.map V.int)[n]? = some (.int (l.getD n 0)) := fun {n l} hn => by
    rw [List.getElem?_map, List.getElem?_eq_getElem hn, List.getD_eq_getElem?_getD, List.getElem?_eq_getElem hn]; rfl
  -- a row over the stripes
  have hsmall : ∀ s ∈ ss, ∀ x ∈ s.c, x.natAbs < 2 ^ 134 := fun s hs x hx => by
    have h1 := (hok s hs).cs x hx
    have h2 := (hok s hs).m1
    omega
  have cmp : ∀ {n : Nat} {f : Nat → Int} {g : Stp → Int}, (∀ i t, ss[i]? = some t → f i = g t) → n = us.length → (List.range n).map f = ss.map g := fun {n f g} hfg hn => by
    apply List.ext_getElem?
    intro i
    rw [hn, hul]
    by_cases hi : i < ss.length
    · rw [List.getElem?_map, List.getElem?_range hi, List.getElem?_map, List.getElem?_eq_getElem hi]
      show some _ = some _
      rw [hfg i _ (List.getElem?_eq_getElem hi)]
    · rw [List.getElem?_eq_none (by simp; omega), List.getElem?_eq_none (by simp; omega)]
  refine S.cut (Mid := fun σ' H' => ∃ L us' steps x6 x7, σ' = [some (.ref p), some (.int d), some (.int P), some (.int ss.length), some (.ref pz), some (.ref L), x6, x7, none] ∧ Le none H H' ∧ H' L = some (.lst us') ∧ Rep2 TpI steps us' H' ∧ Relt d ss P steps ∧ Ent (2 ^ 70000) steps) (S1.for (U := none) (Src.range1 (n := d) (by rfl) B.range (by omega) (R.var (i := 1) rfl (.inl rfl) rfl)) trivial PassesOwn.never rfl fun J H3 l3 _ wk => ⟨_, _, _, wk,
    fun i σ' H' => ∃ L us' steps x6 x7, σ' = [some (.ref p), some (.int d), some (.int P), some (.int ss.length), some (.ref pz), some (.ref L), x6, x7, none] ∧ Le none H2 H' ∧ H' L = some (.lst us') ∧ Rep2 TpI steps us' H' ∧ Relt i ss P steps ∧ Ent (2 ^ (i * 22300)) steps, ⟨L0, us0, units ss.length, none, none, rfl, l3, l3.keep _ _ (fun z => z) hL0, hu0.tk l3.tup, relt_start, ?_⟩, fun _ _ _ _ _ => trivial, ?_, ?_⟩) ?_
  · intro t ht y hy
    obtain ⟨i, _, rfl⟩ := List.mem_map.mp ht
    obtain ⟨j, _, rfl⟩ := List.mem_map.mp hy
    split <;> decide
  · rintro i v σ' H' H'' hi ⟨L, us', steps, x6, x7, rfl, l, hL, hst, hre, hent⟩ ⟨rfl, rfl⟩
    rw [Int.toNat_natCast] at hi
    refine ⟨_, Tg.name sc_relations_of.nd (i := 6) rfl (.inr rfl), ?_⟩
    show S _ _ [some (.ref p), some (.int d), some (.int P), some (.int ss.length), some (.ref pz), some (.ref L), some (.int i), x7, none] _ _
    have lH := (l1.trans l2).trans l
    have hp' := hp.le nmN lH
    have hrep' := hrep.tk lH.tup
    refine S.asg (U := none) (P := TpI (rowI ss P i)) sc_relations_of.nd (i := 7) rfl (.inl rfl) trivial (R.tupleI (H0 := H'') (n := us.length) (f := fun j => match ss[j]? with | some t => P / t.m * t.c.getD i 0 | none => 0) (cmp (fun j t e => by rw [e]) rfl) (by rfl) B.tuple (R.lc (own := [("near", 8)]) rfl sc_relations_of.nd (Src.sq (R.var (i := 0) rfl (.inl rfl) rfl) hp' nmN) (blkOk_by (N := N_relations_of) (sc := defScope s_relations_of) (by decide +kernel))
      (fun J H1 lx j wk => LcK.map (fun j => Is (V.int (match ss[j]? with | some t => P / t.m * t.c.getD i 0 | none => 0))) wk (by omega) lx trivial (fun i H x H' => yAt_le) (fun H' l' => (hp'.le nmN lx).le nmN l') (fun j x Ha Hb hj l' j' y => ?_)))) ?_
    · obtain ⟨rfl, hx⟩ := y
      obtain ⟨t, ht, ⟨q, vc, rfl, hq, pc, rfl, hpc⟩⟩ := (hrep'.tk (lx.trans l').tup).get hx
      have htm := List.mem_of_getElem? ht
      have hlt : i < t.c.length := by rw [(hok t htm).len]; exact hi
      refine ⟨_, fun s Hb C cl fp => Tg.name sc_relations_of.nd (i := 8) rfl (.inl rfl), rfl, fun s Hb C cl fp => ?_⟩
      rw [ht]
      refine R.mul (mx t htm _ (hsmall t htm _ (getD_mem hlt))) (R.fdiv (wide_div (b := 8000) (hok t htm).m0 (hok t htm).mb (by decide) (by decide)) (R.var (i := 2) rfl (.inr (.inl rfl)) rfl) (R.ixT (v := .int t.m) hq rfl (R.var (i := 8) rfl (.inl rfl) rfl) R.int)) (R.ixT hpc (atI_nat (j := i) (hgx hlt)) (R.ixT (v := .ref pc) hq rfl (R.var (i := 8) rfl (.inl rfl) rfl) R.int) (R.var (i := 6) rfl (.inr (.inl rfl)) rfl))
    rintro v H4 l4 _ hv4
    show S _ _ [some (.ref p), some (.int d), some (.int P), some (.int ss.length), some (.ref pz), some (.ref L), some (.int i), some v, none] _ _
    have l24 := l.trans l4
    have growth : (i * 22300) + (ss.length * (1700 + 10) + 1700 + 1) ≤ (i + 1) * 22300 := by omega
    have hbig : (i + 1) * 22300 < 400000 := by omega
    refine S.asg (U := none) (P := fun v H => ∃ L us' steps, v = .ref L ∧ H L = some (.lst us') ∧ Rep2 TpI steps us' H ∧ Relt (i + 1) ss P steps ∧ Ent (2 ^ ((i + 1) * 22300)) steps) sc_relations_of.nd (i := 5) rfl (.inl rfl) trivial (R.ixS (Pa := fun v H => ∃ T vc L us' steps, v = .ref T ∧ H T = some (.tup [vc, .ref L]) ∧ H L = some (.lst us') ∧ Rep2 TpI steps us' H ∧ Relt (i + 1) ss P steps ∧ Ent (2 ^ ((i + 1) * 22300)) steps) ?_ (fun _ _ => rfl) (R.callP C2 hr (by decide) (by rfl) (RA.cons (R.var (i := 4) rfl (.inl rfl) rfl) (RA.cons (R.var (i := 5) rfl (.inl rfl) rfl) (RA.cons (R.var (i := 7) rfl (.inl rfl) rfl) (RA.cons R.int (RA.last (R.var (i := 2) rfl (.inr (.inl rfl)) rfl)))))) ?_) R.int ix_tup ?_) ?_
    · rintro v H H' l ⟨T, vc, L, us', steps, e, h1, h2, h3, h4⟩
      exact ⟨T, vc, L, us', steps, e, l.tup _ _ h1, l.keep _ _ (fun z => z) h2, h3.tk l.tup, h4⟩
    · rintro vs H5 l5 _ ⟨v1, r1, rfl, rfl, v2, r2, rfl, rfl, v3, r3, rfl, rfl, v4, r4, rfl, rfl, v5, r5, rfl, rfl, rfl⟩
      have l25 := l24.trans l5
      refine ⟨⟨ss.length, List.replicate ss.length 0, steps, rowI ss P i, 0, P, i * 22300, 1700⟩, ⟨_, L, us', _, rfl, ⟨pz, rfl, l25.tup _ _ hpz⟩, (l4.trans l5).keep _ _ (fun z => z) hL, hst.tk (l4.trans l5).tup, Fz.le l5 hv4, ?_⟩, fun v H6 l6 _ hv => ?_⟩
      · refine ⟨hre.lens, by show ss.length ≤ 1000; omega, by show 0 < steps.length; rw [hre.len]; omega, by show steps.length ≤ 1000; rw [hre.len]; omega, P0, hPb, by show 1700 ≤ 8000; decide, by show (rowI ss P i).length ≤ 1000; simp [rowI]; omega, fun y hy => ?_, hent, by simp, fun y hy => ?_, by show i * 22300 + (steps.length * (1700 + 10) + 1700 + 1) < 400000; rw [hre.len]; omega⟩
        · obtain ⟨t, ht, rfl⟩ := List.mem_map.mp hy
          have hlt : i < t.c.length := by rw [(hok t ht).len]; exact hi
          exact Nat.lt_of_lt_of_le (wide_lt (hqb t ht) (hsmall t ht _ (getD_mem hlt))) (Nat.pow_le_pow_right (by decide) (by decide))
        · rw [(List.mem_replicate.mp hy).2]; exact Nat.zero_le _
      · rcases hv with ⟨rfl, hn⟩ | ⟨T', vc', L', us2, cell', steps', rfl, a1, a2, a3, a4, a5, a6, a7, a8⟩
        · exact (relt_none hn).elim
        · refine ⟨T', vc', L', us2, steps', rfl, a1, a3, a4, relt_step hre a5, a7.mono (Nat.pow_le_pow_right (by decide) ?_)⟩
          show i * 22300 + (steps.length * (1700 + 10) + 1700 + 1) ≤ _
          rw [hre.len]; exact growth
    · rintro x y H5 l5 _ ⟨T, vc, L, us', steps, rfl, h1, h2, h3, h4⟩ rfl Q q
      exact ⟨T, _, 1, .ref L, rfl, rfl, .inl (.inl h1), rfl, q _ H5 (Le.refl _) trivial ⟨L, us', steps, rfl, h2, h3, h4⟩⟩
    · rintro v H5 l5 _ ⟨L', us2, steps', rfl, h1, h2, h3, h4⟩
      exact S.nil ⟨L', us2, steps', _, _, rfl, l24.trans l5, h1, h2, h3, h4⟩
  · rintro σ' H' ⟨L, us', steps, x6, x7, rfl, l, hL, hst, hre, hent⟩
    rw [Int.toNat_natCast] at hre hent
    exact ⟨L, us', steps, _, _, rfl, (l1.trans l2).trans l, hL, hst, hre, hent.mono (Nat.pow_le_pow_right (by decide) (by omega))⟩
  · rintro σ' H' ⟨L, us', steps, x6, x7, rfl, l, hL, hst, hre, hent⟩
    have hp' := hp.le nmN l
    have hrep' := hrep.tk l.tup
    refine S.ret (U := none) (P := RelR d ss) trivial (R.tup (RA.cons (R.var (i := 5) rfl (.inl rfl) rfl) (RA.cons (P := TpI (rowR ss P)) (R.tupleI (H0 := H') (n := us.length) (f := fun j => match ss[j]? with | some t => P / t.m * t.r | none => 0) (cmp (fun j t e => by rw [e]) rfl) (by rfl) B.tuple (R.lc (own := [("near", 8)]) rfl sc_relations_of.nd (Src.sq (R.var (i := 0) rfl (.inl rfl) rfl) hp' nmN) (blkOk_by (N := N_relations_of) (sc := defScope s_relations_of) (by decide +kernel))
      (fun J H1 lx j wk => LcK.map (fun j => Is (V.int (match ss[j]? with | some t => P / t.m * t.r | none => 0))) wk (by omega) lx trivial (fun i H x H' => yAt_le) (fun H' l' => (hp'.le nmN lx).le nmN l') (fun j x Ha Hb hj l' j' y => ?_)))) (RA.last (R.var (i := 2) rfl (.inr (.inl rfl)) rfl)))) ?_ ?_) fun v H2 l2 _ hv => k v H2 (l.trans l2) trivial hv
    · obtain ⟨rfl, hx⟩ := y
      obtain ⟨t, ht, ⟨q, vc, rfl, hq, pc, rfl, hpc⟩⟩ := (hrep'.tk (lx.trans l').tup).get hx
      have htm := List.mem_of_getElem? ht
      refine ⟨_, fun s Hb C cl fp => Tg.name sc_relations_of.nd (i := 8) rfl (.inl rfl), rfl, fun s Hb C cl fp => ?_⟩
      rw [ht]
      refine R.mul (mx t htm _ ?_) (R.fdiv (wide_div (b := 8000) (hok t htm).m0 (hok t htm).mb (by decide) (by decide)) (R.var (i := 2) rfl (.inr (.inl rfl)) rfl) (R.ixT (v := .int t.m) hq rfl (R.var (i := 8) rfl (.inl rfl) rfl) R.int)) (R.ixT (v := .int t.r) hq rfl (R.var (i := 8) rfl (.inl rfl) rfl) R.int)
      exact hrs t htm
    · rintro vs H1 ⟨v, r, rfl, _, v', r', rfl, _, v'', r'', rfl, _, rfl⟩; show 3 ≤ sizeLine; decide
    · rintro vs p' H1 lq _ ⟨v, r, rfl, rfl, v', r', rfl, ⟨pr, rfl, hpr⟩, v'', r'', rfl, rfl, rfl⟩ hn
      have ln := Le.new (U := none) (H := H1) (o := .tup [.ref L, .ref pr, .int P]) trivial hn
      exact ⟨p', L, us', pr, steps, P, rfl, upd_same, (lq.trans ln).keep _ _ (fun z => z) hL, hst.tk (lq.trans ln).tup, ln.tup _ _ hpr, hP, hre, hent⟩
end K62
end
section
set_option linter.all false
/-! What bars: scaling, cutting, steps. -/
namespace K62
theorem dot_unit_r : ∀ {c : List Int} {d i : Nat}, c.length = d → i < d → dot c (unit d i) = c.getD i 0 := by
  intro c d i hc hi
  unfold dot unit
  have : List.zipWith (· * ·) c ((List.range d).map fun k => if k = i then (1 : Int) else 0) = (List.range d).map fun k => if k = i then c.getD i 0 else 0 := by
    apply List.ext_getElem?
    intro j
    rw [List.getElem?_zipWith]
    by_cases hj : j < d
    · rw [List.getElem?_eq_getElem (show j < c.length by omega), List.getElem?_map, List.getElem?_range hj, List.getElem?_map, List.getElem?_range hj]
      show some _ = some _
      congr 1
      by_cases e : j = i
      · subst e; simp [List.getD_eq_getElem?_getD, show j < c.length by omega]
      · simp [e]
    · rw [List.getElem?_eq_none (l := c) (by omega), List.getElem?_eq_none (l := List.map (fun k => if k = i then c.getD i 0 else 0) (List.range d)) (by simp; omega)]
  rw [this]
  clear this hc
  induction d with
  | zero => omega
  | succ d ih =>
    rw [List.range_succ, List.map_append, List.sum_append]
    by_cases e : i = d
    · subst e
      have z : ((List.range i).map fun k => if k = i then c.getD i 0 else (0 : Int)) = (List.range i).map fun _ => 0 := by
        apply List.map_congr_left
        intro k hk
        rw [List.mem_range] at hk
        rw [if_neg (by omega)]
      rw [z]
      have zz : ∀ n : Nat, ((List.range n).map fun _ => (0 : Int)).sum = 0 := fun n => by
        induction n with
        | zero => rfl
        | succ n ih => rw [List.range_succ, List.map_append, List.sum_append, ih]; rfl
      rw [zz]; simp
    · rw [ih (by omega)]
      simp [show ¬ d = i by omega]
theorem Lc_addk {P : Int} {d : Nat} {v s : Row} {k : Int} (hv : v.length = d) (hs : s.length = d) : ∀ {ss : List Stp} {l : List Int}, Lc P ss l (addk v k s) = Lc P ss l v + k * Lc P ss l s
  | [], l => by simp [Lc]
  | t :: ss, [] => by simp [Lc]
  | t :: ss, x :: l => by
    have ih := Lc_addk (P := P) (k := k) hv hs (ss := ss) (l := l)
    unfold Lc at ih ⊢
    rw [List.zipWith_cons_cons, List.zipWith_cons_cons, List.zipWith_cons_cons, List.sum_cons, List.sum_cons, List.sum_cons, ih, dot_addk _ _ _ _ (by rw [hv, hs])]
    grind
theorem Lc_zero {P : Int} {d : Nat} : ∀ {ss : List Stp} {l : List Int}, Lc P ss l (List.replicate d 0) = 0
  | [], l => by simp [Lc]
  | t :: ss, [] => by simp [Lc]
  | t :: ss, x :: l => by
    have ih := Lc_zero (P := P) (d := d) (ss := ss) (l := l)
    unfold Lc at ih ⊢
    rw [List.zipWith_cons_cons, List.sum_cons, ih, dot_zeros]; simp
theorem Lc_dvd {P : Int} {d : Nat} {ss : List Stp} {l : List Int} (h : ∀ i, i < d → P ∣ Lc P ss l (unit d i)) {y : Row} (hy : y.length = d) : P ∣ Lc P ss l y := by
  have hsp := span_units hy
  clear hy
  induction hsp with
  | zero => rw [Lc_zero]; exact Int.dvd_zero _
  | add k hv hs ih =>
    rw [Lc_addk (hv.len units_lens) (units_lens _ hs)]
    obtain ⟨i, hi, rfl⟩ := List.mem_map.mp hs
    exact Int.dvd_add ih (Int.dvd_mul_of_dvd_right (h i (List.mem_range.mp hi)))
theorem dot_rowI {P : Int} {d i : Nat} (hi : i < d) : ∀ {ss : List Stp} {l : List Int}, (∀ s ∈ ss, s.c.length = d) → dot (rowI ss P i) l = Lc P ss l (unit d i)
  | [], l, _ => by simp [Lc, rowI, dot]
  | t :: ss, [], _ => by simp [Lc, rowI, dot]
  | t :: ss, x :: l, h => by
    have ih := dot_rowI hi (P := P) (ss := ss) (l := l) fun s hs => h s (List.mem_cons_of_mem _ hs)
    unfold Lc rowI at ih ⊢
    rw [List.map_cons, dot_cons, ih, List.zipWith_cons_cons, List.sum_cons, dot_unit_r (h t (List.mem_cons_self ..)) hi]
    grind
theorem dot_rowR {P : Int} : ∀ {ss : List Stp} {l : List Int}, dot (rowR ss P) l = Lr P ss l
  | [], l => by simp [Lr, rowR, dot]
  | t :: ss, [] => by simp [Lr, rowR, dot]
  | t :: ss, x :: l => by
    have ih := dot_rowR (P := P) (ss := ss) (l := l)
    unfold Lr rowR at ih ⊢
    rw [List.map_cons, dot_cons, ih, List.zipWith_cons_cons, List.sum_cons]
    grind
/-- a step that bars -/
theorem relt_bar {d : Nat} {ss : List Stp} {P : Int} {steps : List Row} (h : Relt d ss P steps) (hc : ∀ s ∈ ss, s.c.length = d) {t : Row} (ht : t ∈ steps) (hr : ¬ P ∣ dot (rowR ss P) t) : Bars d P ss t :=
  ⟨h.lens t ht, fun y hy => Lc_dvd (fun i hi => by rw [← dot_rowI hi hc]; exact h.dvd t ht i hi) hy, by rwa [← dot_rowR]⟩
theorem relt_some {d : Nat} {ss : List Stp} {P : Int} {steps : List Row} (h : Relt d ss P steps) (hc : ∀ s ∈ ss, s.c.length = d) (hP : CPd ss P) (hn : CN d ss) : ∃ t ∈ steps, ¬ P ∣ dot (rowR ss P) t := by
  obtain ⟨l, h1, h2, h3⟩ := hn P hP.1 hP.2.1
  refine Classical.byContradiction fun z => h3 ?_
  have h4 : ∀ t ∈ steps, P ∣ dot (rowR ss P) t := fun t ht => Classical.byContradiction fun q => z ⟨t, ht, q⟩
  rw [← dot_rowR]
  exact Span.dvd h.lens h4 (h.full l h1 fun i hi => by rw [dot_rowI hi hc]; exact h2 _ unit_len)
/-! scaling -/
theorem Lc_scale {P P' : Int} {y : Row} : ∀ {ss : List Stp} {l : List Int}, (∀ s ∈ ss, s.m ≠ 0 ∧ s.m ∣ P ∧ s.m ∣ P') → P * Lc P' ss l y = P' * Lc P ss l y
  | [], l, _ => by simp [Lc]
  | t :: ss, [], _ => by simp [Lc]
  | t :: ss, x :: l, h => by
    have ih := Lc_scale (y := y) (ss := ss) (l := l) fun s hs => h s (List.mem_cons_of_mem _ hs)
    obtain ⟨h0, ⟨a, ha⟩, ⟨b, hb⟩⟩ := h t (List.mem_cons_self ..)
    unfold Lc at ih ⊢
    rw [List.zipWith_cons_cons, List.sum_cons, List.zipWith_cons_cons, List.sum_cons, Int.mul_add, Int.mul_add, ih, ha, hb, Int.mul_ediv_cancel_left _ h0, Int.mul_ediv_cancel_left _ h0]
    grind
theorem Lr_scale {P P' : Int} : ∀ {ss : List Stp} {l : List Int}, (∀ s ∈ ss, s.m ≠ 0 ∧ s.m ∣ P ∧ s.m ∣ P') → P * Lr P' ss l = P' * Lr P ss l
  | [], l, _ => by simp [Lr]
  | t :: ss, [], _ => by simp [Lr]
  | t :: ss, x :: l, h => by
    have ih := Lr_scale (ss := ss) (l := l) fun s hs => h s (List.mem_cons_of_mem _ hs)
    obtain ⟨h0, ⟨a, ha⟩, ⟨b, hb⟩⟩ := h t (List.mem_cons_self ..)
    unfold Lr at ih ⊢
    rw [List.zipWith_cons_cons, List.sum_cons, List.zipWith_cons_cons, List.sum_cons, Int.mul_add, Int.mul_add, ih, ha, hb, Int.mul_ediv_cancel_left _ h0, Int.mul_ediv_cancel_left _ h0]
    grind
theorem dvd_swap {P P' a b : Int} (hP : P ≠ 0) (hP' : P' ≠ 0) (h : P * b = P' * a) : P ∣ a ↔ P' ∣ b := by
  constructor
  · rintro ⟨k, rfl⟩
    rw [Int.mul_left_comm] at h
    exact ⟨k, Int.eq_of_mul_eq_mul_left hP h⟩
  · rintro ⟨k, rfl⟩
    rw [Int.mul_left_comm] at h
    exact ⟨k, Int.eq_of_mul_eq_mul_left hP' h.symm⟩
theorem bars_scale {d : Nat} {P P' : Int} {ss : List Stp} {l : List Int} (hP : P ≠ 0) (hP' : P' ≠ 0) (hm : ∀ s ∈ ss, s.m ≠ 0 ∧ s.m ∣ P ∧ s.m ∣ P') (h : Bars d P ss l) : Bars d P' ss l :=
  ⟨h.1, fun y hy => (dvd_swap hP hP' (Lc_scale hm)).mp (h.2.1 y hy), fun z => h.2.2 ((dvd_swap hP hP' (Lr_scale hm)).mpr z)⟩

/-! bars as pairs -/
def stp (ss : List Stp) (i : Nat) : Stp := ss.getD i ⟨1, [], 0⟩
abbrev psub (ss : List Stp) (prs : List (Nat × Int)) : List Stp := prs.map fun p => stp ss p.1
abbrev pnum (prs : List (Nat × Int)) : List Int := prs.map (·.2)
structure Bar (d : Nat) (ss : List Stp) (prs : List (Nat × Int)) : Prop where
  inc : prs.Pairwise fun a b => a.1 < b.1
  ok : ∀ p ∈ prs, p.1 < ss.length ∧ p.2 ≠ 0 ∧ p.2.natAbs < 2 ^ 134
  bars : ∀ P : Int, 0 < P → (∀ p ∈ prs, (stp ss p.1).m ∣ P) → Bars d P (psub ss prs) (pnum prs)
theorem stp_get {ss : List Stp} {i : Nat} {s : Stp} (h : ss[i]? = some s) : stp ss i = s := by
  unfold stp; rw [List.getD_eq_getElem?_getD, h]; rfl
/-- reduced numbers, without the zeros -/
def redp (ss : List Stp) : List Nat → List Int → List (Nat × Int)
  | n :: ns, l :: ls => if l % (stp ss n).m ≠ 0 then (n, l % (stp ss n).m) :: redp ss ns ls else redp ss ns ls
  | _, _ => []
theorem redp_mem {ss : List Stp} {p : Nat × Int} : ∀ {ns : List Nat} {ls : List Int}, p ∈ redp ss ns ls → p.1 ∈ ns ∧ p.2 ≠ 0 ∧ ∃ l, p.2 = l % (stp ss p.1).m
  | [], _, h => by simp [redp] at h
  | n :: ns, [], h => by simp [redp] at h
  | n :: ns, l :: ls, h => by
    unfold redp at h
    split at h
    · rename_i hne
      rcases List.mem_cons.mp h with rfl | h
      · exact ⟨List.mem_cons_self .., hne, l, rfl⟩
      · obtain ⟨a, b⟩ := redp_mem h; exact ⟨List.mem_cons_of_mem _ a, b⟩
    · obtain ⟨a, b⟩ := redp_mem h; exact ⟨List.mem_cons_of_mem _ a, b⟩
theorem redp_inc {ss : List Stp} : ∀ {ns : List Nat} {ls : List Int}, ns.Pairwise (· < ·) → (redp ss ns ls).Pairwise fun a b => a.1 < b.1
  | [], _, h => by simp [redp]
  | n :: ns, [], h => by simp [redp]
  | n :: ns, l :: ls, h => by
    obtain ⟨h1, h2⟩ := List.pairwise_cons.mp h
    unfold redp
    split
    · exact List.pairwise_cons.mpr ⟨fun p hp => h1 _ (redp_mem hp).1, redp_inc h2⟩
    · exact redp_inc h2
theorem redp_len {ss : List Stp} : ∀ {ns : List Nat} {ls : List Int}, (redp ss ns ls).length ≤ ns.length
  | [], _ => by simp [redp]
  | n :: ns, [] => by simp [redp]
  | n :: ns, l :: ls => by
    have := redp_len (ss := ss) (ns := ns) (ls := ls)
    unfold redp
    split <;> simp <;> omega
theorem redp_L {ss : List Stp} {P : Int} {y : Row} : ∀ {ns : List Nat} {ls : List Int}, (∀ n ∈ ns, (stp ss n).m ≠ 0 ∧ (stp ss n).m ∣ P) →
    P ∣ Lc P (ns.map (stp ss)) ls y - Lc P (psub ss (redp ss ns ls)) (pnum (redp ss ns ls)) y ∧ P ∣ Lr P (ns.map (stp ss)) ls - Lr P (psub ss (redp ss ns ls)) (pnum (redp ss ns ls))
  | [], _, h => by simp [redp, Lc, Lr]
  | n :: ns, [], h => by simp [redp, Lc, Lr]
  | n :: ns, l :: ls, h => by
    obtain ⟨ih1, ih2⟩ := redp_L (y := y) (ns := ns) (ls := ls) fun n hn => h n (List.mem_cons_of_mem _ hn)
    obtain ⟨h0, a, ha⟩ := h n (List.mem_cons_self ..)
    have hq : P / (stp ss n).m = a := by rw [ha, Int.mul_ediv_cancel_left _ h0]
    have hl := Int.emod_add_mul_ediv l (stp ss n).m
    obtain ⟨u1, hu1⟩ := ih1
    obtain ⟨u2, hu2⟩ := ih2
    unfold redp
    unfold Lc Lr at *
    split
    · rw [List.map_cons, List.zipWith_cons_cons, List.sum_cons, List.zipWith_cons_cons, List.sum_cons]
      simp only [psub, pnum, List.map_cons, List.zipWith_cons_cons, List.sum_cons, hq]
      refine ⟨⟨l / (stp ss n).m * dot (stp ss n).c y + u1, ?_⟩, ⟨l / (stp ss n).m * (stp ss n).r + u2, ?_⟩⟩
      · simp only [psub, pnum] at hu1
        rw [ha] at hu1 ⊢
        grind
      · simp only [psub, pnum] at hu2
        rw [ha] at hu2 ⊢
        grind
    · rename_i hz
      rw [List.map_cons, List.zipWith_cons_cons, List.sum_cons, List.zipWith_cons_cons, List.sum_cons]
      have hz : l % (stp ss n).m = 0 := Classical.byContradiction hz
      simp only [psub, pnum, hq] at *
      refine ⟨⟨l / (stp ss n).m * dot (stp ss n).c y + u1, ?_⟩, ⟨l / (stp ss n).m * (stp ss n).r + u2, ?_⟩⟩
      · rw [ha] at hu1 ⊢
        grind
      · rw [ha] at hu2 ⊢
        grind
/-- from a relation over the stripes at ns to a bar -/
theorem bar_made {d : Nat} {ss : List Stp} {ns : List Nat} {l : List Int} {P : Int} (hP : 0 < P) (hm : ∀ n ∈ ns, n < ss.length ∧ 0 < (stp ss n).m ∧ (stp ss n).m ∣ P ∧ (stp ss n).m.natAbs < 2 ^ 134) (hi : ns.Pairwise (· < ·)) (h : Bars d P (ns.map (stp ss)) l) : Bar d ss (redp ss ns l) := by
  refine ⟨redp_inc hi, fun p hp => ?_, fun P' hP' hd => ?_⟩
  · obtain ⟨h1, h2, l', e⟩ := redp_mem hp
    obtain ⟨a1, a2, _, a3⟩ := hm _ h1
    have b1 := Int.emod_nonneg l' (show (stp ss p.1).m ≠ 0 by omega)
    have b2 := Int.emod_lt_of_pos l' a2
    exact ⟨a1, h2, by rw [e]; omega⟩
  · have hm' : ∀ n ∈ ns, (stp ss n).m ≠ 0 ∧ (stp ss n).m ∣ P := fun n hn => ⟨by have := (hm n hn).2.1; omega, (hm n hn).2.2.1⟩
    refine bars_scale (P := P) (by omega) (by omega) (fun s hs => ?_) ⟨by simp [psub, pnum], fun y hy => ?_, fun z => h.2.2 ?_⟩
    · obtain ⟨p, hp, rfl⟩ := List.mem_map.mp hs
      obtain ⟨h1, _⟩ := redp_mem hp
      exact ⟨(hm' _ h1).1, (hm' _ h1).2, hd p hp⟩
    · exact (Int.dvd_iff_dvd_of_dvd_sub (redp_L (y := y) hm').1).mp (h.2.1 y hy)
    · exact (Int.dvd_iff_dvd_of_dvd_sub (redp_L (y := []) hm').2).mpr z
end K62
namespace K62
theorem redp_eq {ss : List Stp} : ∀ {ns : List Nat} {l : List Int}, redp ss ns l = ((ns.zip l).map fun p => (p.1, p.2 % (stp ss p.1).m)).filter fun p => decide (p.2 ≠ 0)
  | [], _ => by simp [redp]
  | n :: ns, [] => by simp [redp]
  | n :: ns, x :: l => by
    unfold redp
    rw [redp_eq]
    simp only [List.zip_cons_cons, List.map_cons, List.filter_cons]
    split <;> rename_i h <;> simp [h]
theorem zip_rng {ns : List Nat} {l : List Int} (h : l.length = ns.length) : ns.zip l = (List.range ns.length).map fun i => (ns.getD i 0, l.getD i 0) := by
  apply List.ext_getElem?
  intro i
  by_cases hi : i < ns.length
  · rw [List.getElem?_map, List.getElem?_range hi, List.getElem?_eq_getElem (by simp; omega)]
    simp [List.getD_eq_getElem?_getD, hi, show i < l.length by omega]
  · rw [List.getElem?_eq_none (by simp; omega), List.getElem?_eq_none (by simp; omega)]
theorem redp_rng {ss : List Stp} {ns : List Nat} {l : List Int} (h : l.length = ns.length) : redp ss ns l = ((List.range ns.length).filter fun i => decide (l.getD i 0 % (stp ss (ns.getD i 0)).m ≠ 0)).map fun i => (ns.getD i 0, l.getD i 0 % (stp ss (ns.getD i 0)).m) := by
  rw [redp_eq, zip_rng h, List.map_map, List.filter_map]
  rfl
/-! few -/
theorem Meets.sub {d : Nat} {ss tt : List Stp} (h : Meets d ss) (hs : ∀ s ∈ tt, s ∈ ss) : Meets d tt := by
  obtain ⟨x, hx, ho⟩ := h
  exact ⟨x, hx, fun s hm => ho s (hs s hm)⟩
structure Few (d : Nat) (ss : List Stp) (ns : List Nat) (i : Nat) (left : List Nat) : Prop where
  sub : left.Sublist ns
  cn : CN d (left.map (stp ss))
  min : ∀ j, j < i → ∀ n, ns[j]? = some n → n ∈ left → Meets d ((left.filter fun k => decide (k ≠ n)).map (stp ss))
theorem few_start {d : Nat} {ss : List Stp} {ns : List Nat} (h : CN d (ns.map (stp ss))) : Few d ss ns 0 ns := ⟨List.Sublist.refl _, h, fun j hj => absurd hj (by omega)⟩
theorem few_cut {d : Nat} {ss : List Stp} {ns left : List Nat} {i n : Nat} (h : Few d ss ns i left) (hn : ns[i]? = some n) (hc : CN d ((left.filter fun k => decide (k ≠ n)).map (stp ss))) : Few d ss ns (i + 1) (left.filter fun k => decide (k ≠ n)) := by
  refine ⟨List.Sublist.trans List.filter_sublist h.sub, hc, fun j hj k hk hm => ?_⟩
  obtain ⟨h1, h2⟩ := List.mem_filter.mp hm
  by_cases e : j = i
  · subst e; rw [hn] at hk; cases hk; simp at h2
  · refine (h.min j (by omega) k hk h1).sub fun s hs => ?_
    obtain ⟨t, ht, rfl⟩ := List.mem_map.mp hs
    obtain ⟨t1, t2⟩ := List.mem_filter.mp ht
    obtain ⟨t3, t4⟩ := List.mem_filter.mp t1
    exact List.mem_map.mpr ⟨t, List.mem_filter.mpr ⟨t3, t2⟩, rfl⟩
theorem few_keep {d : Nat} {ss : List Stp} {ns left : List Nat} {i n : Nat} (h : Few d ss ns i left) (hn : ns[i]? = some n) (hm : Meets d ((left.filter fun k => decide (k ≠ n)).map (stp ss))) : Few d ss ns (i + 1) left := by
  refine ⟨h.sub, h.cn, fun j hj k hk hl => ?_⟩
  by_cases e : j = i
  · subst e; rw [hn] at hk; cases hk; exact hm
  · exact h.min j (by omega) k hk hl
/-- each of the stripes needed -/
structure Least (d : Nat) (ss : List Stp) (left : List Nat) : Prop where
  cn : CN d (left.map (stp ss))
  min : ∀ n ∈ left, Meets d ((left.filter fun k => decide (k ≠ n)).map (stp ss))
theorem few_end {d : Nat} {ss : List Stp} {ns left : List Nat} (h : Few d ss ns ns.length left) : Least d ss left := ⟨h.cn, fun n hn => by
  obtain ⟨j, hj, e⟩ := List.mem_iff_getElem.mp (h.sub.subset hn)
  exact h.min j hj n (by rw [List.getElem?_eq_getElem hj, e]) hn⟩
end K62
end
section
set_option Elab.async false
set_option linter.all false
set_option maxRecDepth 100000
set_option maxHeartbeats 4000000
set_option exponentiation.threshold 100
namespace K62
open PySem PySem.Spec PyProof.Rows L2
variable {P : Program} {w : World} {K : PySem.W.Frag} {mg : Str → Option Value} {base : Heap}
def PrR (p : Nat × Int) : VP := fun v H => ∃ q, v = .ref q ∧ H q = some (.tup [.int p.1, .int p.2])
instance {p : Nat × Int} : Fz (PrR p) := ⟨fun _ _ _ t ⟨q, e, h⟩ => ⟨q, e, t q _ h⟩⟩
abbrev nvs (ns : List Nat) : List V := ns.map fun (n : Nat) => V.int (n : Int)
theorem nvs_get {ns : List Nat} {i : Nat} {v : V} (h : (nvs ns)[i]? = some v) : ∃ n, ns[i]? = some n ∧ v = .int n := by
  rw [List.getElem?_map] at h
  obtain ⟨n, hn, rfl⟩ := Option.map_eq_some_iff.mp h
  exact ⟨n, hn, rfl⟩
structure BoA where
  d : Nat
  ss : List Stp
  ns : List Nat
structure BoA.Ok (x : BoA) : Prop where
  d3 : x.d ≤ 3
  d1 : 1 ≤ x.d
  n12 : x.ns.length ≤ 12
  ok : ∀ s ∈ x.ss, StOk x.d s
  lt : ∀ n ∈ x.ns, n < x.ss.length
  inc : x.ns.Pairwise (· < ·)
  cn : CN x.d (x.ns.map (stp x.ss))
theorem BoA.Ok.mem {x : BoA} (O : x.Ok) {n : Nat} (h : n ∈ x.ns) : stp x.ss n ∈ x.ss := by
  have := O.lt n h
  rw [stp_get (List.getElem?_eq_getElem this)]
  exact List.getElem_mem this
theorem BoA.Ok.pos {x : BoA} (O : x.Ok) : 1 ≤ x.ns.length := by
  obtain ⟨l, h1, h2, h3⟩ := O.cn (prodm (x.ns.map (stp x.ss))) (prodm_pos fun s hs => by
    obtain ⟨n, hn, rfl⟩ := List.mem_map.mp hs
    exact (O.ok _ (O.mem hn)).m0) fun s hs => prodm_dvd hs
  refine Classical.byContradiction fun z => h3 ?_
  have : x.ns = [] := List.length_eq_zero_iff.mp (by omega)
  rw [this]
  exact Int.dvd_zero _
def BarR (d : Nat) (ss : List Stp) (n : Nat) : VP := fun v H => ∃ prs, TupR PrR prs v H ∧ Bar d ss prs ∧ prs.length ≤ n
instance {d : Nat} {ss : List Stp} {n : Nat} : Fz (BarR d ss n) := ⟨fun _ _ _ t ⟨prs, h, r⟩ => ⟨prs, Fz.mv _ _ _ t h, r⟩⟩
theorem rep2_map {α ι : Type} {R : α → VP} {is : List ι} {g : ι → α} {v : ι → V} {H : Hp} (h : ∀ i ∈ is, R (g i) (v i) H) : Rep2 R (is.map g) (is.map v) H := ⟨by simp, fun j a u e1 e2 => by
  rw [List.getElem?_map] at e1 e2
  obtain ⟨i, hi, rfl⟩ := Option.map_eq_some_iff.mp e1
  rw [hi] at e2; cases e2
  exact h i (List.mem_of_getElem? hi)⟩
theorem LcK.imp {X : Cx} {U : UA} {scope : Scope} {tg elt : Expr} {ifs : List Expr} {own : List Nat} {σ : L2.St} {J : It} {H1 : Hp} {P P' : VP} (h : LcK X U scope tg ifs elt own σ J H1 P) (w : ∀ v H', P v H' → P' v H') : LcK X U scope tg ifs elt own σ J H1 P' := fun L hL => by
  obtain ⟨n, G, Y, wk, hn, hY, Pv, h0, hG, turn, done⟩ := h L hL
  exact ⟨n, G, Y, wk, hn, hY, Pv, h0, hG, turn, fun vs H' l j hv hz pv => w _ _ (done vs H' l j hv hz pv)⟩
/-- what the list holds, read where it was made -/
theorem LcK.stand {X : Cx} {U : UA} {scope : Scope} {tg elt : Expr} {ifs : List Expr} {own : List Nat} {σ : L2.St} {J : It} {H0 H1 : Hp} {Q0 Q1 : List V → Hp → Prop} (h : LcK X U scope tg ifs elt own σ J H1 (NLs U H0 Q0)) (w : ∀ vs H', Le U H1 H' → Q0 vs H' → Q1 vs H') : LcK X U scope tg ifs elt own σ J H1 (NLs U H0 Q1) := fun L hL => by
  obtain ⟨n, G, Y, wk, hn, hY, Pv, h0, hG, turn, done⟩ := h L hL
  refine ⟨n, G, Y, wk, hn, hY, Pv, h0, hG, turn, fun vs H' l j hv hz pv => ?_⟩
  obtain ⟨L', us, e, h1, h2, h3, h4⟩ := done vs H' l j hv hz pv
  exact ⟨L', us, e, h1, h2, h3, w _ _ l h4⟩
abbrev sp_bar_of : Sp := FSp (α := BoA) nU (fun x vs H => ∃ v q, vs = [v, .int x.d, .ref q] ∧ TupR StR x.ss v H ∧ H q = some (.lst (nvs x.ns)) ∧ x.Ok) (fun x => BarR x.d x.ss x.ns.length)
theorem ok_bar_of (F : DefAt K mg "bar_of" s_bar_of ps_bar_of) (B : Bln mg) (C1 : Callee P w K mg base 1 "product_at" ps_product_at sp_product_at) (C2 : Callee P w K mg base 4 "relations_of" ps_relations_of sp_relations_of) : Callee P w K mg base 5 "bar_of" ps_bar_of sp_bar_of := by
  refine callee_of F sc_bar_of (fun vs H Q E h => ?_) fun f cdv A outer s H vs Q E hr h => ?_
  · obtain ⟨a, _, ⟨v, q, rfl, _⟩, _⟩ := h; rfl
  obtain ⟨x, _, ⟨v, q, rfl, ⟨p, us, rfl, hp, hrep⟩, hq, O⟩, k⟩ := h
  have hn12 := O.n12
  -- some
  refine S.asgLc (U := none) (i := 3) (own := [("number", 9)]) (P := fun v H1 => ∃ Ls sv, v = .ref Ls ∧ H1 Ls = some (.lst sv) ∧ Rep2 StR (x.ns.map (stp x.ss)) sv H1) rfl sc_bar_of.nd rfl rfl (sw_true rfl rfl rfl (by decide +kernel)) trivial (Src.lst (R.var (i := 2) rfl (.inl rfl) rfl) hq (fun z => z)) (blkOk_by (N := N_bar_of) (sc := defScope s_bar_of) (by decide +kernel))
    (fun J H1 l1 _ wk => ?_) ?_
  · refine (LcK.map (fun i => StR (stp x.ss (x.ns.getD i 0))) wk (by rw [List.length_map]; omega) l1 trivial (fun i H x H' => yAt_le) (fun H' l' => l'.keep _ _ (fun z => z) (l1.keep _ _ (fun z => z) hq)) (fun i y H' H'' hi l' j' yy => ?_)).imp fun v H' ⟨L, vs, e, _, _, hL, hz, hv⟩ => ⟨L, vs, e, hL, ?_⟩
    · obtain ⟨rfl, hy⟩ := yy
      obtain ⟨n, hn, rfl⟩ := nvs_get hy
      have hnm := List.mem_of_getElem? hn
      obtain ⟨u, hu, hs⟩ := (hrep.tk (l1.trans l').tup).of (List.getElem?_eq_getElem (O.lt n hnm))
      refine ⟨_, fun s Hb C cl fp => Tg.name sc_bar_of.nd (i := 9) rfl (.inl rfl), rfl, fun s Hb C cl fp => (R.ixT ((l1.trans l').tup _ _ hp) (atI_nat hu) (R.var (i := 0) rfl (.inr (.inl rfl)) rfl) (R.var (i := 9) rfl (.inl rfl) rfl)).imp fun v H l e => ?_⟩
      rw [List.getD_eq_getElem?_getD, hn]
      cases e
      rw [Option.getD_some, stp_get (List.getElem?_eq_getElem (O.lt n hnm))]
      exact Fz.le l hs
    · refine ⟨by rw [hz]; simp, fun i a v e1 e2 => ?_⟩
      rw [List.getElem?_map] at e1
      obtain ⟨n, hn, rfl⟩ := Option.map_eq_some_iff.mp e1
      have := hv i v e2
      rwa [List.getD_eq_getElem?_getD, hn] at this
  rintro v H1 l1 _ ⟨Ls, sv, rfl, hLs, hsv⟩
  show S _ _ [some (.ref p), some (.int x.d), some (.ref q), some (.ref Ls), none, none, none, none, none, none, none, none, none] _ _
  have hsl : sv.length = x.ns.length := by rw [hsv.1]; simp
  have hoks : ∀ s ∈ x.ns.map (stp x.ss), StOk x.d s := fun s hs => by
    obtain ⟨n, hn, rfl⟩ := List.mem_map.mp hs
    exact O.ok _ (O.mem hn)
  -- relations
  refine S.asgT (U := none) (P := RelR x.d (x.ns.map (stp x.ss))) trivial (R.callP C2 hr (by decide) (by rfl) (RA.cons (R.var (i := 3) rfl (.inl rfl) rfl) (RA.last (R.var (i := 1) rfl (.inl rfl) rfl))) ?_) ?_
  · rintro vs H2 l2 _ ⟨v, r, rfl, rfl, v', r', rfl, rfl, rfl⟩
    exact ⟨(x.d, x.ns.map (stp x.ss)), ⟨_, rfl, ⟨Ls, sv, rfl, .inr (l2.keep _ _ (fun z => z) hLs), hsv.tk l2.tup⟩, O.d3, by show 1 ≤ (x.ns.map _).length; rw [List.length_map]; exact O.pos, by show (x.ns.map _).length ≤ 12; rw [List.length_map]; exact O.n12, hoks⟩, fun v H3 _ _ h => h⟩
  rintro v H2 l2 _ ⟨T, L, ts, pr, steps, P, rfl, hT, hL, hst, hpr, hP, hrl, hent⟩
  refine ⟨_, Tg.tup rfl hT (Tgs.cons (Tg.name sc_bar_of.nd (i := 4) rfl (.inl rfl)) (Tgs.cons (Tg.name sc_bar_of.nd (i := 5) rfl (.inl rfl)) (Tgs.cons (Tg.name sc_bar_of.nd (i := 6) rfl (.inl rfl)) Tgs.nil))), ?_⟩
  show S _ _ [some (.ref p), some (.int x.d), some (.ref q), some (.ref Ls), some (.ref L), some (.ref pr), some (.int P), none, none, none, none, none, none] _ _
  obtain ⟨tb, htb, hnb⟩ := relt_some hrl (fun s hs => (hoks s hs).len) hP O.cn
  have hdone := fun t ht hr => bar_made hP.1 (fun n hn => ⟨O.lt n hn, (O.ok _ (O.mem hn)).m0, hP.2.1 _ (List.mem_map.mpr ⟨n, hn, rfl⟩), (O.ok _ (O.mem hn)).m1⟩) O.inc (relt_bar hrl (fun s hs => (hoks s hs).len) (t := t) ht hr)
  have l02 := l1.trans l2
  refine S.cut (Mid := fun σ' H' => False) (S1.for (U := none) (Src.lst (R.var (i := 4) rfl (.inl rfl) rfl) hL (fun z => z)) trivial PassesOwn.never rfl fun J H3 l3 _ wk => ⟨_, _, _, wk,
    fun i σ' H' => ∃ x7 x8, σ' = [some (.ref p), some (.int x.d), some (.ref q), some (.ref Ls), some (.ref L), some (.ref pr), some (.int P), x7, x8, none, none, none, none] ∧ Le none H2 H' ∧ ∀ t, t ∈ steps.take i → P ∣ dot (rowR (x.ns.map (stp x.ss)) P) t, ⟨none, none, rfl, l3, by simp⟩, fun i σ' H' _ ⟨_, _, _, l, _⟩ => l.keep _ _ (fun z => z) hL, ?_, ?_⟩) ?_
  · rintro i v σ' H' H'' hi ⟨x7, x8, rfl, l, hno⟩ ⟨rfl, hv⟩
    obtain ⟨t, ht, ptn, rfl, hptn⟩ := (hst.tk l.tup).get hv
    have htm := List.mem_of_getElem? ht
    have htl : t.length = x.ns.length := by rw [hrl.lens t htm]; simp
    refine ⟨_, Tg.name sc_bar_of.nd (i := 7) rfl (.inl rfl), ?_⟩
    show S _ _ [some (.ref p), some (.int x.d), some (.ref q), some (.ref Ls), some (.ref L), some (.ref pr), some (.int P), some (.ref ptn), x8, none, none, none, none] _ _
    refine S.if (U := none) trivial (RT.ne rfl (R.mod hP.1 (R.callP (P := Is (.int (dot (rowR (x.ns.map (stp x.ss)) P) t))) C1 hr (by decide) (by rfl) (RA.cons (R.var (i := 5) rfl (.inl rfl) rfl) (RA.last (R.var (i := 7) rfl (.inl rfl) rfl))) ?_) (R.var (i := 6) rfl (.inl rfl) rfl)) R.int) (fun e H4 l4 _ => ?_) (fun e H4 l4 _ => S.nil (S.nil ?_))
    · rintro vs H5 l5 _ ⟨v, r, rfl, rfl, v', r', rfl, rfl, rfl⟩
      refine ⟨(_, t), ⟨_, _, rfl, ⟨pr, rfl, (l.trans l5).tup _ _ hpr⟩, ⟨ptn, rfl, l5.tup _ _ hptn⟩, by show (rowR _ _).length ≤ 1000; simp [rowR]; omega, ?_, fun y hy => Nat.lt_of_le_of_lt (hent t htm y hy) (Nat.pow_lt_pow_right (by decide) (by decide))⟩, fun v H3 _ _ h => h⟩
      intro y hy
      obtain ⟨s, hs, rfl⟩ := List.mem_map.mp hy
      have hso := hoks s hs
      have h0 := hso.m0
      have h1 : 0 ≤ P / s.m := Int.ediv_nonneg (by have := hP.1; omega) (by omega)
      have h2 : P / s.m ≤ P := Int.ediv_le_self _ (by have := hP.1; omega)
      have h3 : (P / s.m).natAbs < 2 ^ (134 * (x.ns.map (stp x.ss)).length + 1) := Nat.lt_of_le_of_lt (by have := hP.1; omega) hP.2.2
      exact Nat.lt_of_lt_of_le (wide_lt h3 hso.r1) (Nat.pow_le_pow_right (by decide) (by rw [List.length_map]; omega))
    · rw [ne_int] at e
      have hne := of_decide_eq_true e.symm
      have hB := hdone t htm fun z => hne (Int.emod_eq_zero_of_dvd z)
      have l04 := (l02.trans l).trans l4
      have hq4 := l04.keep _ _ (fun z => z) hq
      have hLs4 := ((l2.trans l).trans l4).keep _ _ (fun z => z) hLs
      have hpt4 := l4.tup _ _ hptn
      have hsv4 := hsv.tk ((l2.trans l).trans l4).tup
      have hmin : min (nvs x.ns).length (min (t.map V.int).length sv.length) = x.ns.length := by rw [List.length_map, List.length_map, htl, hsl, Nat.min_self, Nat.min_self]
      -- pairs
      refine S.asgLc (U := none) (i := 8) (own := [("number", 9), ("many", 10), ("stripe", 11)]) (P := NLs none H4 fun vs H' => vs.length = min (nvs x.ns).length (min (t.map V.int).length sv.length) ∧ ∀ i y, vs[i]? = some y → PrR (x.ns.getD i 0, t.getD i 0 % (stp x.ss (x.ns.getD i 0)).m) y H') rfl sc_bar_of.nd rfl rfl (sw_true rfl rfl rfl (by decide +kernel)) trivial (Src.zip3 (b1 := true) (b2 := false) (b3 := true) (by rfl) B.zip (R.var (i := 2) rfl (.inl rfl) rfl) (R.var (i := 7) rfl (.inl rfl) rfl) (R.var (i := 3) rfl (.inl rfl) rfl) hq4 nmN hpt4 nmN hLs4 nmN) (blkOk_by (N := N_bar_of) (sc := defScope s_bar_of) (by decide +kernel))
        (fun J H5 l5 _ wk => LcK.map (fun i => PrR (x.ns.getD i 0, t.getD i 0 % (stp x.ss (x.ns.getD i 0)).m)) wk (by rw [hmin]; omega) l5 trivial (fun i H x H' => yZ3_le) (fun H' l' => ⟨(l5.trans l').keep _ _ (fun z => z) hq4, (l5.trans l').tup _ _ hpt4, (l5.trans l').keep _ _ (fun z => z) hLs4⟩) (fun i y H' H'' hi l' j' yy => ?_)) ?_
      · obtain ⟨T3, y1, y2, y3, rfl, hn, rfl, g1, g2, g3⟩ := yy
        obtain ⟨n, hn', rfl⟩ := nvs_get g1
        obtain ⟨rfl, _⟩ := getV g2
        have ln := Le.new (U := none) (H := H') (o := .tup [.int n, .int (t.getD i 0), y3]) trivial hn
        obtain ⟨s3, e3, ⟨q3, vc3, rfl, hq3, _⟩⟩ := (hsv4.tk ((l5.trans l').trans ln).tup).get g3
        rw [List.getElem?_map, hn'] at e3
        cases e3
        refine ⟨_, fun s Hb C cl fp => Tg.tup rfl upd_same (Tgs.cons (Tg.name sc_bar_of.nd (i := 9) rfl (.inl rfl)) (Tgs.cons (Tg.name sc_bar_of.nd (i := 10) rfl (.inl rfl)) (Tgs.cons (Tg.name sc_bar_of.nd (i := 11) rfl (.inl rfl)) Tgs.nil))), rfl, fun s Hb C cl fp => R.tup (RA.cons (R.var (i := 9) rfl (.inl rfl) rfl) (RA.last (R.mod (O.ok _ (O.mem (List.mem_of_getElem? hn'))).m0 (R.var (i := 10) rfl (.inl rfl) rfl) (R.ixT (v := .int _) hq3 rfl (R.var (i := 11) rfl (.inl rfl) rfl) R.int)))) ?_ ?_⟩
        · rintro vs H1 ⟨v, r, rfl, _, v', r', rfl, _, rfl⟩; show 2 ≤ sizeLine; decide
        · rintro vs p' H1 _ _ ⟨v, r, rfl, rfl, v', r', rfl, rfl, rfl⟩ hn
          refine ⟨p', rfl, ?_⟩
          rw [upd_same, List.getD_eq_getElem?_getD (l := x.ns), hn']
          rfl
      rintro v H5 l5 _ ⟨Lp, pv, rfl, _, _, hLp, hpz, hpv⟩
      rw [hmin] at hpz
      show S _ _ [some (.ref p), some (.int x.d), some (.ref q), some (.ref Ls), some (.ref L), some (.ref pr), some (.int P), some (.ref ptn), some (.ref Lp), none, none, none, none] _ _
      have hpg : ∀ {i : Nat}, i < x.ns.length → pv[i]? = some (pv.getD i .non) := fun {i} hi => by rw [List.getD_eq_getElem?_getD, List.getElem?_eq_getElem (by omega)]; rfl
      refine S.ret (U := none) trivial (R.tupleN (H0 := H5) (Qs := fun vs H' => Rep2 PrR (redp x.ss x.ns t) vs H') (fun vs Ha Hb tk h => h.tk tk) (by rfl) B.tuple (R.lc (own := [("pair", 12)]) rfl sc_bar_of.nd (Src.lst (R.var (i := 8) rfl (.inl rfl) rfl) hLp (fun z => z)) (blkOk_by (N := N_bar_of) (sc := defScope s_bar_of) (by decide +kernel))
        (fun J H6 l6 _ wk => LcK.stand (Q0 := fun vs H' => vs = Evl.given pv.length (fun i => decide (t.getD i 0 % (stp x.ss (x.ns.getD i 0)).m ≠ 0)) (fun i => pv.getD i .non)) (LcK.sel (H0 := H5) (fun i => decide (t.getD i 0 % (stp x.ss (x.ns.getD i 0)).m ≠ 0)) (fun i => pv.getD i .non) wk (by omega) l6 trivial (fun i H x H' => yAt_le) (fun H' l' => (l6.trans l').keep _ _ (fun z => z) hLp) (fun i y H' H'' hi l' j' yy => ?_)) ?_))) ?_
      · obtain ⟨rfl, hy⟩ := yy
        obtain ⟨pq, rfl, hpq⟩ := Fz.le (l6.trans l') (hpv i y hy)
        refine ⟨_, fun s Hb C cl fp => Tg.name sc_bar_of.nd (i := 12) rfl (.inl rfl), rfl, fun s Hb C cl fp => RTs.one ((RT.ne rfl (R.ixT (v := .int _) hpq rfl (R.var (i := 12) rfl (.inl rfl) rfl) R.int) R.int).imp fun k e => by rw [e, ne_int]), fun _ s Hb C cl fp => R.cast (R.var (i := 12) rfl (.inl rfl) rfl) ?_⟩
        rw [List.getD_eq_getElem?_getD, hy]; rfl
      · rintro vs H' l' rfl
        rw [hpz, redp_rng htl]
        refine rep2_map fun i hi => ?_
        have hi := List.mem_range.mp (List.mem_filter.mp hi).1
        exact Fz.le (l6.trans l') (hpv i _ (hpg hi))
      · rintro v H6 l6 _ ⟨pf, vs, rfl, hpf, hrf⟩
        exact k _ H6 ((l04.trans l5).trans l6) trivial ⟨redp x.ss x.ns t, ⟨pf, vs, rfl, hpf, hrf⟩, hB, redp_len⟩
    · rw [ne_int] at e
      have hz := of_decide_eq_false e.symm
      refine ⟨_, _, rfl, l.trans l4, fun t' ht' => ?_⟩
      rw [List.take_add_one, ht] at ht'
      rcases List.mem_append.mp ht' with h | h
      · exact hno t' h
      · have : t' = t := by simpa using h
        subst this
        exact Int.dvd_of_emod_eq_zero (Classical.byContradiction hz)
  · rintro σ' H' ⟨x7, x8, rfl, l, hno⟩
    rw [hst.1, List.take_length] at hno
    exact hnb (hno tb htb)
  · exact fun _ _ z => z.elim
end K62
end
section
set_option Elab.async false
set_option linter.all false
set_option maxRecDepth 100000
set_option maxHeartbeats 4000000
set_option exponentiation.threshold 100
namespace K62
open PySem PySem.Spec PyProof.Rows L2
variable {P : Program} {w : World} {K : PySem.W.Frag} {mg : Str → Option Value} {base : Heap}
/-- of the value alone -/
def Vq (φ : V → Prop) : VP := fun v _ => φ v
instance {φ : V → Prop} : Fz (Vq φ) := ⟨fun _ _ _ _ h => h⟩
abbrev sp_few_that_bar : Sp := FSp (α := BoA) nU (fun x vs H => ∃ v q, vs = [v, .int x.d, .ref q] ∧ TupR StR x.ss v H ∧ H q = some (.lst (nvs x.ns)) ∧ x.Ok) (fun x v H => ∃ L left, v = .ref L ∧ H L = some (.lst (nvs left)) ∧ left.Sublist x.ns ∧ Least x.d x.ss left)
theorem nvs_ints (ns : List Nat) : nvs ns = (ns.map fun (n : Nat) => (n : Int)).map V.int := by
  rw [List.map_map]; rfl
theorem nvs_filter (ns : List Nat) (n : Nat) : Evl.given (nvs ns).length (fun i => decide ((ns.map fun (k : Nat) => (k : Int)).getD i 0 ≠ (n : Int))) (fun i => V.int ((ns.map fun (k : Nat) => (k : Int)).getD i 0)) = nvs (ns.filter fun k => decide (k ≠ n)) := by
  have := given_filter (ns.map fun (k : Nat) => (k : Int)) (fun z => decide (z ≠ (n : Int)))
  rw [List.length_map] at this
  rw [List.length_map, this, List.filter_map, List.map_map]
  have : ((fun z : Int => decide (z ≠ (n : Int))) ∘ fun (k : Nat) => (k : Int)) = fun k => decide (k ≠ n) := by
    funext k
    simp only [Function.comp]
    congr 1
    apply propext
    constructor <;> intro h z <;> apply h <;> omega
  rw [this]
  rfl
theorem ok_few_that_bar (F : DefAt K mg "few_that_bar" s_few_that_bar ps_few_that_bar) (B : Bln mg) (C1 : Callee P w K mg base 4 "cells_on" ps_cells_on sp_cells_on) : Callee P w K mg base 5 "few_that_bar" ps_few_that_bar sp_few_that_bar := by
  refine callee_of F sc_few_that_bar (fun vs H Q E h => ?_) fun f cdv A outer s H vs Q E hr h => ?_
  · obtain ⟨a, _, ⟨v, q, rfl, _⟩, _⟩ := h; rfl
  obtain ⟨x, _, ⟨v, q, rfl, ⟨p, us, rfl, hp, hrep⟩, hq, O⟩, k⟩ := h
  have hn12 := O.n12
  refine S.asg (U := none) (P := NLs none H fun vs _ => vs = nvs x.ns) sc_few_that_bar.nd (i := 3) rfl (.inl rfl) trivial (R.listL trivial (by rfl) B.list hq (fun z => z) (R.var (i := 2) rfl (.inl rfl) rfl)) ?_
  rintro v H1 l1 _ ⟨L, _, rfl, _, _, hL, rfl⟩
  show S _ _ [some (.ref p), some (.int x.d), some (.ref q), some (.ref L), none, none, none] _ _
  refine S.cut (Mid := fun σ' H' => ∃ L left x4 x5, σ' = [some (.ref p), some (.int x.d), some (.ref q), some (.ref L), x4, x5, none] ∧ Le none H1 H' ∧ H' L = some (.lst (nvs left)) ∧ Few x.d x.ss x.ns x.ns.length left) (S1.for (U := none) (Src.lst (R.var (i := 2) rfl (.inl rfl) rfl) (l1.keep _ _ (fun z => z) hq) (fun z => z)) trivial PassesOwn.never rfl fun J H3 l3 _ wk => ⟨_, _, _, wk,
    fun i σ' H' => ∃ L left x4 x5, σ' = [some (.ref p), some (.int x.d), some (.ref q), some (.ref L), x4, x5, none] ∧ Le none H1 H' ∧ H' L = some (.lst (nvs left)) ∧ Few x.d x.ss x.ns i left, ⟨L, x.ns, none, none, rfl, l3, l3.keep _ _ (fun z => z) hL, few_start O.cn⟩, fun i σ' H' _ ⟨_, _, _, _, _, l, _⟩ => (l1.trans l).keep _ _ (fun z => z) hq, ?_, ?_⟩) ?_
  · rintro i v σ' H' H'' hi ⟨L, left, x4, x5, rfl, l, hL, hF⟩ ⟨rfl, hv⟩
    obtain ⟨n, hn, rfl⟩ := nvs_get hv
    have l01 := l1.trans l
    have hll : left.length ≤ 12 := Nat.le_trans hF.sub.length_le hn12
    refine ⟨_, Tg.name sc_few_that_bar.nd (i := 4) rfl (.inr rfl), ?_⟩
    show S _ _ [some (.ref p), some (.int x.d), some (.ref q), some (.ref L), some (.int n), x5, none] _ _
    refine S.asgLc (U := none) (i := 5) (own := [("other", 6)]) (P := NLs none H'' fun vs _ => vs = nvs (left.filter fun k => decide (k ≠ n))) rfl sc_few_that_bar.nd rfl rfl (sw_true rfl rfl rfl (by decide +kernel)) trivial (Src.lst (R.var (i := 3) rfl (.inl rfl) rfl) hL (fun z => z)) (blkOk_by (N := N_few_that_bar) (sc := defScope s_few_that_bar) (by decide +kernel))
      (fun J H1 l1 _ wk => LcK.stand (LcK.sel (fun i => decide ((left.map fun (k : Nat) => (k : Int)).getD i 0 ≠ (n : Int))) (fun i => V.int ((left.map fun (k : Nat) => (k : Int)).getD i 0)) wk (by rw [List.length_map]; omega) l1 trivial (fun i H x H' => yAt_le) (fun H' l' => (l1.trans l').keep _ _ (fun z => z) hL) (fun i y H' H'' hi l' j' yy => ?_)) (fun vs H' _ e => e.trans (nvs_filter left n))) ?_
    · obtain ⟨rfl, hy⟩ := yy
      obtain ⟨m, hm, rfl⟩ := nvs_get hy
      have e : (left.map fun (k : Nat) => (k : Int)).getD i 0 = (m : Int) := by rw [List.getD_eq_getElem?_getD, List.getElem?_map, hm]; rfl
      refine ⟨_, fun s Hb C cl fp => Tg.name sc_few_that_bar.nd (i := 6) rfl (.inl rfl), rfl, fun s Hb C cl fp => RTs.one ((RT.ne rfl (R.var (i := 6) rfl (.inl rfl) rfl) (R.var (i := 4) rfl (.inr (.inl rfl)) rfl)).imp fun k h => by rw [h, ne_int, e]), fun _ s Hb C cl fp => R.cast (R.var (i := 6) rfl (.inl rfl) rfl) (by rw [e])⟩
    rintro v H3 l3 _ ⟨Lo, _, rfl, _, _, hLo, rfl⟩
    show S _ _ [some (.ref p), some (.int x.d), some (.ref q), some (.ref L), some (.int n), some (.ref Lo), none] _ _
    have hos : ∀ k ∈ left.filter (fun k => decide (k ≠ n)), k ∈ x.ns := fun k hk => hF.sub.subset (List.mem_filter.mp hk).1
    have hol : (left.filter (fun k => decide (k ≠ n))).length ≤ 12 := Nat.le_trans (List.length_filter_le ..) hll
    generalize hO : left.filter (fun k => decide (k ≠ n)) = others at *
    refine S.one (S1.if (U := none) (φ := fun b => (b = true → CN x.d (others.map (stp x.ss))) ∧ (b = false → Meets x.d (others.map (stp x.ss)))) trivial (RT.cmp op_isN (nomark _) (Pb := Is .non) (Pa := Vq fun v => (v = .non ∧ CN x.d (others.map (stp x.ss))) ∨ ∃ T, v = .ref T ∧ Meets x.d (others.map (stp x.ss))) (R.callP C1 hr (by decide) (by rfl) (RA.consS (P := SeqR StR (others.map (stp x.ss))) (fun v H H' l h => h.le l) ((R.lc (U := none) (P := NLs none H3 fun vs H2 => vs.length = (nvs others).length ∧ ∀ i y, vs[i]? = some y → StR (stp x.ss (others.getD i 0)) y H2) (own := [("other", 6)]) rfl sc_few_that_bar.nd (Src.lst (R.var (i := 5) rfl (.inl rfl) rfl) hLo (fun z => z)) (blkOk_by (N := N_few_that_bar) (sc := defScope s_few_that_bar) (by decide +kernel)) (fun J H4 l4 _ wk => LcK.map (fun i => StR (stp x.ss (others.getD i 0))) wk (by rw [List.length_map]; omega) l4 trivial (fun i H x H' => yAt_le) (fun H' l' => (l4.trans l').keep _ _ (fun z => z) hLo) (fun i y H' H'' hi l' j' yy => ?_))).imp ?_) (RA.last (R.var (i := 1) rfl (.inl rfl) rfl))) ?_) R.non ?_) (fun e H4 l4 _ => ?_) (fun e H4 l4 _ => S.nil ?_))
    · obtain ⟨rfl, hy⟩ := yy
      obtain ⟨m, hm, rfl⟩ := nvs_get hy
      have hmm := List.mem_of_getElem? hm
      have hlt := O.lt m (hos m hmm)
      obtain ⟨u, hu, hs⟩ := (hrep.tk ((((l01.trans l3).trans l4).trans l')).tup).of (List.getElem?_eq_getElem hlt)
      refine ⟨_, fun s Hb C cl fp => Tg.name sc_few_that_bar.nd (i := 6) rfl (.inl rfl), rfl, fun s Hb C cl fp => (R.ixT ((((l01.trans l3).trans l4).trans l').tup _ _ hp) (atI_nat hu) (R.var (i := 0) rfl (.inr (.inl rfl)) rfl) (R.var (i := 6) rfl (.inl rfl) rfl)).imp fun v H l e => ?_⟩
      rw [List.getD_eq_getElem?_getD, hm]
      cases e
      rw [Option.getD_some, stp_get (List.getElem?_eq_getElem hlt)]
      exact Fz.le l hs
    · rintro v H4 l4 ⟨La, vs, rfl, _, _, hLa, hz, hv⟩
      refine ⟨La, vs, rfl, .inr hLa, by rw [hz]; simp, fun i a v e1 e2 => ?_⟩
      rw [List.getElem?_map] at e1
      obtain ⟨n, hn, rfl⟩ := Option.map_eq_some_iff.mp e1
      have := hv i v e2
      rwa [List.getD_eq_getElem?_getD, hn] at this
    · rintro vs H4 l4 _ ⟨v, r, rfl, hv, v', r', rfl, rfl, rfl⟩
      refine ⟨⟨x.d, others.map (stp x.ss)⟩, ⟨_, rfl, hv, O.d1, O.d3, by show (others.map _).length ≤ 12; rw [List.length_map]; exact hol, fun s hs => ?_⟩, fun v H5 _ _ h => ?_⟩
      · obtain ⟨n, hn, rfl⟩ := List.mem_map.mp hs
        exact O.ok _ (O.mem (hos n hn))
      · rcases h with h | ⟨T, vc, L, us, cell, steps, e, h1, h2, h3, h4, h5, h6⟩
        · exact .inl h
        · exact .inr ⟨T, e, h5.meets⟩
    · rintro x y H5 l5 _ hx rfl Q q
      rcases hx with ⟨rfl, h⟩ | ⟨T, rfl, h⟩
      · exact ⟨rfl, q _ H5 (Le.refl _) trivial ⟨true, rfl, fun _ => h, fun z => Bool.noConfusion z⟩⟩
      · exact ⟨rfl, q _ H5 (Le.refl _) trivial ⟨false, rfl, fun z => Bool.noConfusion z, fun _ => h⟩⟩
    · refine S.asgI (U := none) sc_few_that_bar.nd (i := 3) rfl (.inl rfl) trivial (R.var (i := 5) rfl (.inl rfl) rfl) fun H5 l5 _ => S.nil ⟨Lo, others, _, _, rfl, ((l.trans l3).trans l4).trans l5, (l4.trans l5).keep _ _ (fun z => z) hLo, hO ▸ few_cut hF hn (hO ▸ e.1 rfl)⟩
    · exact ⟨L, left, _, _, rfl, (l.trans l3).trans l4, (l3.trans l4).keep _ _ (fun z => z) hL, few_keep hF hn (hO ▸ e.2 rfl)⟩
  · rintro σ' H' ⟨L, left, x4, x5, rfl, l, hL, hF⟩
    rw [List.length_map] at hF
    exact ⟨L, left, x4, x5, rfl, l, hL, hF⟩
  · rintro σ' H' ⟨L, left, x4, x5, rfl, l, hL, hF⟩
    exact S.ret (U := none) trivial (R.var (i := 3) rfl (.inl rfl) rfl) fun v H2 l2 _ e => k v H2 ((l1.trans l).trans l2) trivial ⟨L, left, e, l2.keep _ _ (fun z => z) hL, hF.sub, few_end hF⟩
end K62
end
section
set_option Elab.async false
set_option linter.all false
set_option maxRecDepth 100000
set_option maxHeartbeats 4000000
namespace K62
open PySem PySem.Spec PyProof.Rows L2
section
variable {X : Cx} {U : UA} {σ : L2.St} {H : Hp} {e a b c : Expr} {es : List Expr} {P Pa Pb : VP} {pos q p2 : Pos}
/-! ### slices -/
def RO (X : Cx) (U : UA) (oe : Option Expr) (σ : L2.St) (H : Hp) (o : Option Int) : Prop := PO X oe (fun σ' H1 Q => σ' = σ ∧ Le U H H1 ∧ Jn U H1 ∧ ∀ H2, Le U H1 H2 → Jn U H2 → Q o H2)
theorem RO.none : RO X U none σ H none := ⟨fun pins s σ' H1 Q I ⟨e1, l, j, q⟩ => po_none.run pins s σ' H1 Q I (q H1 (Le.refl _) j)⟩
theorem RO.some {i : Int} (h : R X U e σ H (Is (.int i))) : RO X U (some e) σ H (some i) :=
  ⟨fun pins s σ' H1 Q I ⟨e1, l, j, q⟩ => (po_some h).run pins s σ' H1 Q I ⟨e1, l, j, fun v H2 l2 j2 e => ⟨i, e, q H2 l2 j2⟩⟩⟩
theorem cut_all {xs : List V} {lo hi : Option Int} (h : HT.sIx xs.length 0 lo = 0 ∧ HT.sIx xs.length xs.length hi = xs.length) : cutV xs lo hi = xs := by
  unfold cutV
  rw [h.1, h.2, List.drop_zero, Nat.sub_zero, List.take_length]
theorem cut_lo (xs : List V) (k : Nat) : cutV xs (some (k : Int)) none = xs.drop k := by
  unfold cutV
  rw [HT.sIx_none, HT.sIx_nat]
  by_cases h : k ≤ xs.length
  · rw [Nat.min_eq_left h, List.take_of_length_le (by rw [List.length_drop]; exact Nat.le_refl _)]
  · rw [Nat.min_eq_right (by omega), List.drop_eq_nil_of_le (Nat.le_refl _), List.drop_eq_nil_of_le (by omega), List.take_nil]
theorem cut_hi (xs : List V) (k : Nat) : cutV xs none (some (k : Int)) = xs.take k := by
  unfold cutV
  rw [HT.sIx_none, HT.sIx_nat, List.drop_zero, Nat.sub_zero]
  by_cases h : k ≤ xs.length
  · rw [Nat.min_eq_left h]
  · rw [Nat.min_eq_right (by omega), List.take_length, List.take_of_length_le (by omega)]
/-- a slice of a tuple -/
theorem R.slT {lo hi : Option Expr} {l h : Option Int} {p : Addr} {xs : List V} (ht : H p = some (.tup xs)) (ha : R X U a σ H (Is (.ref p))) (hl : RO X U lo σ H l) (hh : RO X U hi σ H h) : R X U (.Subscript a (.Slice lo hi .none p2) pos) σ H (NT (cutV xs l h)) :=
  R.of (pe_slice sl_tupA ha hl hh) fun H1 l1 j1 Q k => ⟨rfl, l1, j1, fun v H2 l2 j2 e => ⟨rfl, l1.trans l2, j2, fun H3 l3 j3 => ⟨rfl, (l1.trans l2).trans l3, j3, fun H4 l4 j4 => by
    cases e
    have h4 := (((l1.trans l2).trans l3).trans l4).tup _ _ ht
    refine ⟨p, xs, rfl, .inl (.inl h4), fun hw => k _ H4 ((l2.trans l3).trans l4) j4 ⟨p, rfl, ?_⟩, fun hw p' hp' => k _ _ (((l2.trans l3).trans l4).trans (Le.new j4 hp')) ((Le.new j4 hp').jn j4) ⟨p', rfl, upd_same⟩⟩
    rw [cut_all hw]; exact h4⟩⟩⟩
/-- of a list: a new one -/
theorem R.slL {lo hi : Option Expr} {l h : Option Int} {p : Addr} {xs : List V} (hj : Jn U H) (ht : H p = some (.lst xs)) (nm : ¬ Mv U p) (ha : R X U a σ H (Is (.ref p))) (hl : RO X U lo σ H l) (hh : RO X U hi σ H h) : R X U (.Subscript a (.Slice lo hi .none p2) pos) σ H (NLs U H fun vs _ => vs = cutV xs l h) :=
  R.of (pe_slice sl_list ha hl hh) fun H1 l1 j1 Q k => ⟨rfl, l1, j1, fun v H2 l2 j2 e => ⟨rfl, l1.trans l2, j2, fun H3 l3 j3 => ⟨rfl, (l1.trans l2).trans l3, j3, fun H4 l4 j4 => by
    cases e
    have l04 := ((l1.trans l2).trans l3).trans l4
    exact ⟨p, xs, rfl, .inl (.inl (l04.keep _ _ nm ht)), fun p' hp' => k _ _ (((l2.trans l3).trans l4).trans (Le.new j4 hp')) ((Le.new j4 hp').jn j4) ⟨p', _, rfl, l04.fresh hj hp', Le.nmv j4 hp', upd_same, rfl⟩⟩⟩⟩⟩
end
end K62
end
section
set_option linter.all false
/-! Few stripes bar: at most one more than the breadth. -/
namespace K62
def sm (js : List Nat) (f : Nat → Int) : Int := (js.map f).sum
theorem sm_cons (j : Nat) (js : List Nat) (f : Nat → Int) : sm (j :: js) f = f j + sm js f := by simp [sm]
theorem sm_add (js : List Nat) (f g : Nat → Int) : sm js (fun j => f j + g j) = sm js f + sm js g := by
  induction js with
  | nil => rfl
  | cons j js ih => rw [sm_cons, sm_cons, sm_cons, ih]; omega
theorem sm_mul (js : List Nat) (k : Int) (f : Nat → Int) : sm js (fun j => k * f j) = k * sm js f := by
  induction js with
  | nil => simp [sm]
  | cons j js ih => rw [sm_cons, sm_cons, ih, Int.mul_add]
theorem sm_congr {js : List Nat} {f g : Nat → Int} (h : ∀ j ∈ js, f j = g j) : sm js f = sm js g := by
  unfold sm; rw [List.map_congr_left h]
theorem sm_dvd {P : Int} {js : List Nat} {f : Nat → Int} (h : ∀ j ∈ js, P ∣ f j) : P ∣ sm js f := by
  induction js with
  | nil => exact Int.dvd_zero _
  | cons j js ih =>
    rw [sm_cons]
    exact Int.dvd_add (h j (List.mem_cons_self ..)) (ih fun k hk => h k (List.mem_cons_of_mem _ hk))
theorem sm_erase {js : List Nat} {k : Nat} (h : k ∈ js) (f : Nat → Int) : sm js f = f k + sm (js.erase k) f := by
  induction js with
  | nil => cases h
  | cons j js ih =>
    by_cases e : j = k
    · subst e; rw [List.erase_cons_head, sm_cons]
    · have hk : k ∈ js := by
        rcases List.mem_cons.mp h with h | h
        · exact absurd h.symm e
        · exact h
      rw [List.erase_cons_tail (by simpa using e), sm_cons, sm_cons, ih hk]
      omega
/-- of two numbers one divides the other mod P -/
def Chain (P : Int) : Prop := ∀ a b : Int, ∃ q, P ∣ q * a - b ∨ P ∣ q * b - a
theorem chain_min {P : Int} (C : Chain P) (x : Nat → Int) : ∀ {js : List Nat}, js ≠ [] → ∃ k ∈ js, ∀ j ∈ js, ∃ q, P ∣ q * x k - x j
  | [], h => absurd rfl h
  | j :: js, _ => by
    by_cases e : js = []
    · subst e
      exact ⟨j, List.mem_cons_self .., fun i hi => ⟨1, by
        have : i = j := by simpa using hi
        subst this; simp⟩⟩
    · obtain ⟨k, hk, hm⟩ := chain_min C x e
      obtain ⟨q, hq | hq⟩ := C (x k) (x j)
      · refine ⟨k, List.mem_cons_of_mem _ hk, fun i hi => ?_⟩
        rcases List.mem_cons.mp hi with rfl | hi
        · exact ⟨q, hq⟩
        · exact hm i hi
      · refine ⟨j, List.mem_cons_self .., fun i hi => ?_⟩
        rcases List.mem_cons.mp hi with rfl | hi
        · exact ⟨1, by simp⟩
        · obtain ⟨q', hq'⟩ := hm i hi
          refine ⟨q' * q, ?_⟩
          obtain ⟨u, hu⟩ := hq
          obtain ⟨v, hv⟩ := hq'
          exact ⟨q' * u + v, by grind⟩
/-- one of more rows than columns is told by the others -/
theorem chain_dep {P : Int} (C : Chain P) : ∀ (d : Nat) (js : List Nat) (a : Nat → Nat → Int), js.Nodup → d + 1 ≤ js.length → ∃ t : Nat → Int, (∃ k ∈ js, t k = 1) ∧ ∀ i, i < d → P ∣ sm js fun j => t j * a j i
  | 0, js, a, hn, h => by
    cases js with
    | nil => simp at h
    | cons j js => exact ⟨fun _ => 1, ⟨j, List.mem_cons_self .., rfl⟩, fun i hi => absurd hi (by omega)⟩
  | d + 1, js, a, hn, h => by
    obtain ⟨k0, hk0, hm⟩ := chain_min C (fun j => a j d) (js := js) (by intro z; rw [z] at h; simp at h)
    have hq : ∃ q : Nat → Int, ∀ j ∈ js, P ∣ q j * a k0 d - a j d := by
      refine ⟨fun j => if hj : j ∈ js then Classical.choose (hm j hj) else 0, fun j hj => ?_⟩
      simp only [hj, dite_true]
      exact Classical.choose_spec (hm j hj)
    obtain ⟨q, hq⟩ := hq
    have hn' := hn.erase k0
    have hl : d + 1 ≤ (js.erase k0).length := by rw [List.length_erase_of_mem hk0]; omega
    obtain ⟨t, ⟨k, hk, hk1⟩, ht⟩ := chain_dep C d (js.erase k0) (fun j i => a j i - q j * a k0 i) hn' hl
    have hne : ∀ j ∈ js.erase k0, j ≠ k0 := fun j hj => (List.Nodup.mem_erase_iff hn |>.mp hj).1
    have hin : ∀ j ∈ js.erase k0, j ∈ js := fun j hj => (List.Nodup.mem_erase_iff hn |>.mp hj).2
    refine ⟨fun j => if j = k0 then -(sm (js.erase k0) fun j => t j * q j) else t j, ⟨k, hin k hk, by show (if k = k0 then _ else t k) = 1; rw [if_neg (hne k hk)]; exact hk1⟩, fun i hi => ?_⟩
    have key : (sm js fun j => (if j = k0 then -(sm (js.erase k0) fun j => t j * q j) else t j) * a j i) = sm (js.erase k0) fun j => t j * (a j i - q j * a k0 i) := by
      rw [sm_erase hk0, if_pos rfl]
      have e1 : (sm (js.erase k0) fun j => (if j = k0 then -(sm (js.erase k0) fun j => t j * q j) else t j) * a j i) = sm (js.erase k0) fun j => t j * a j i := sm_congr fun j hj => by rw [if_neg (hne j hj)]
      have e2 : (sm (js.erase k0) fun j => t j * (a j i - q j * a k0 i)) = (sm (js.erase k0) fun j => t j * a j i) + sm (js.erase k0) fun j => (-a k0 i) * (t j * q j) := by
        rw [← sm_add]; exact sm_congr fun j _ => by grind
      rw [e1, e2, sm_mul]
      grind
    rw [key]
    by_cases e : i < d
    · exact ht i e
    · have : i = d := by omega
      subst this
      exact sm_dvd fun j hj => by
        obtain ⟨z, hz⟩ := hq j (hin j hj)
        exact ⟨-(t j * z), by grind⟩
/-! prime powers -/
def Pr (p : Nat) : Prop := ∀ a : Nat, p ∣ a ∨ Nat.gcd p a = 1
theorem pr_of {p : Nat} (h : ∀ k, k < p + 1 → k ∣ p → k = 1 ∨ k = p) (hp : 0 < p) : Pr p := fun a => by
  have h1 := Nat.gcd_dvd_left p a
  have h2 := Nat.le_of_dvd hp h1
  rcases h _ (by omega) h1 with e | e
  · exact .inr e
  · exact .inl (by rw [← e]; exact Nat.gcd_dvd_right p a)
theorem PQ_pr : ∀ x ∈ PQs, Pr x.1 ∧ Pr x.2 := by
  have h : ∀ x ∈ PQs, (∀ k, k < x.1 + 1 → k ∣ x.1 → k = 1 ∨ k = x.1) ∧ 0 < x.1 ∧ (∀ k, k < x.2 + 1 → k ∣ x.2 → k = 1 ∨ k = x.2) ∧ 0 < x.2 := by decide
  intro x hx
  obtain ⟨a, b, c, d⟩ := h x hx
  exact ⟨pr_of a b, pr_of c d⟩
theorem bez (m n : Nat) : ∃ x y : Int, (m : Int) * x + (n : Int) * y = ((Nat.gcd m n : Nat) : Int) := by
  induction m using Nat.strongRecOn generalizing n with
  | ind m ih =>
    by_cases h0 : m = 0
    · subst h0; exact ⟨0, 1, by simp⟩
    · obtain ⟨x, y, e⟩ := ih (n % m) (Nat.mod_lt _ (by omega)) m
      rw [← Nat.gcd_rec] at e
      have hm := Int.emod_add_mul_ediv (n : Int) (m : Int)
      refine ⟨y - n / m * x, x, ?_⟩
      rw [← e, Int.natCast_emod]
      grind
theorem bezI {a : Int} {n : Nat} (h : Nat.gcd a.natAbs n = 1) : ∃ x y : Int, a * x + (n : Int) * y = 1 := by
  obtain ⟨x, y, e⟩ := bez a.natAbs n
  rw [h] at e
  rcases Int.natAbs_eq a with ha | ha
  · exact ⟨x, y, by rw [ha]; exact e⟩
  · exact ⟨-x, y, by rw [ha]; simp only [Int.neg_mul, Int.mul_neg, Int.neg_neg]; exact e⟩
theorem unit_div {p : Nat} {A : Nat} {a : Int} (h : Nat.gcd p a.natAbs = 1) (b : Int) : ∃ q, ((p ^ A : Nat) : Int) ∣ q * a - b := by
  have hc : Nat.gcd a.natAbs (p ^ A) = 1 := Nat.Coprime.pow_right A (Nat.Coprime.symm h)
  obtain ⟨x, y, hxy⟩ := bezI hc
  exact ⟨b * x, -(b * y), by grind⟩
theorem chain_pow {p : Nat} (hp : Pr p) : ∀ A : Nat, Chain ((p ^ A : Nat) : Int)
  | 0 => fun a b => ⟨0, .inl (by simp)⟩
  | A + 1 => fun a b => by
    rcases hp a.natAbs with h | h
    · rcases hp b.natAbs with h' | h'
      · obtain ⟨a', ha⟩ := Int.ofNat_dvd_left.mpr h
        obtain ⟨b', hb⟩ := Int.ofNat_dvd_left.mpr h'
        obtain ⟨q, hq⟩ := chain_pow hp A a' b'
        refine ⟨q, ?_⟩
        rw [Nat.pow_succ, Int.natCast_mul]
        rcases hq with ⟨z, hz⟩ | ⟨z, hz⟩
        · exact .inl ⟨z, by rw [ha, hb]; grind⟩
        · exact .inr ⟨z, by rw [ha, hb]; grind⟩
      · obtain ⟨q, hq⟩ := unit_div (A := A + 1) h' a
        exact ⟨q, .inr hq⟩
    · obtain ⟨q, hq⟩ := unit_div (A := A + 1) h b
      exact ⟨q, .inl hq⟩
theorem common_pow {p q : Nat} : ∀ {ss : List Stp}, (∀ s ∈ ss, Per p q s.m) → ∃ A B : Nat, ∀ s ∈ ss, s.m ∣ ((p ^ A * q ^ B : Nat) : Int)
  | [], _ => ⟨0, 0, fun s hs => nomatch hs⟩
  | s :: ss, h => by
    obtain ⟨A, B, hAB⟩ := common_pow (ss := ss) fun t ht => h t (List.mem_cons_of_mem _ ht)
    obtain ⟨a, b, e⟩ := h s (List.mem_cons_self ..)
    refine ⟨A + a, B + b, fun t ht => ?_⟩
    rcases List.mem_cons.mp ht with rfl | ht
    · rw [e]
      exact Int.natCast_dvd_natCast.mpr (Nat.mul_dvd_mul (Nat.pow_dvd_pow p (by omega)) (Nat.pow_dvd_pow q (by omega)))
    · exact Int.dvd_trans (hAB t ht) (Int.natCast_dvd_natCast.mpr (Nat.mul_dvd_mul (Nat.pow_dvd_pow p (by omega)) (Nat.pow_dvd_pow q (by omega))))
/-! the stripes of left as rows -/
theorem Lc_map {P : Int} {y : Row} {f : Nat → Stp} {t : Nat → Int} : ∀ {js : List Nat}, Lc P (js.map f) (js.map t) y = sm js fun j => t j * (P / (f j).m) * dot (f j).c y
  | [] => rfl
  | j :: js => by
    have ih := Lc_map (P := P) (y := y) (f := f) (t := t) (js := js)
    unfold Lc at ih ⊢
    rw [List.map_cons, List.map_cons, List.zipWith_cons_cons, List.sum_cons, ih, sm_cons]
theorem Lr_map {P : Int} {f : Nat → Stp} {t : Nat → Int} : ∀ {js : List Nat}, Lr P (js.map f) (js.map t) = sm js fun j => t j * (P / (f j).m) * (f j).r
  | [] => rfl
  | j :: js => by
    have ih := Lr_map (P := P) (f := f) (t := t) (js := js)
    unfold Lr at ih ⊢
    rw [List.map_cons, List.map_cons, List.zipWith_cons_cons, List.sum_cons, ih, sm_cons]
theorem as_fun : ∀ {js : List Nat} {l : List Int}, js.Nodup → l.length = js.length → ∃ t : Nat → Int, js.map t = l
  | [], l, _, h => ⟨fun _ => 0, (List.length_eq_zero_iff.mp h).symm⟩
  | j :: js, [], _, h => by simp at h
  | j :: js, x :: l, hn, h => by
    obtain ⟨h1, h2⟩ := List.nodup_cons.mp hn
    obtain ⟨t, ht⟩ := as_fun (js := js) (l := l) h2 (by simpa using h)
    refine ⟨fun k => if k = j then x else t k, ?_⟩
    rw [List.map_cons, if_pos rfl, ← ht]
    congr 1
    apply List.map_congr_left
    intro k hk
    have hkj : ¬ k = j := fun z => h1 (z ▸ hk)
    rw [if_neg hkj]
/-- a relation that misses one of least stripes bars nothing -/
theorem least_zero {d : Nat} {ss : List Stp} {left : List Nat} {P : Int} (L : Least d ss left) (hP : ∀ j ∈ left, (stp ss j).m ∣ P) (h0 : ∀ j ∈ left, (stp ss j).m ≠ 0) {t : Nat → Int} {k : Nat} (hk : k ∈ left) (hz : t k = 0)
    (hr : ∀ y : Row, y.length = d → P ∣ sm left fun j => t j * (P / (stp ss j).m) * dot (stp ss j).c y) : P ∣ sm left fun j => t j * (P / (stp ss j).m) * (stp ss j).r := by
  obtain ⟨x, hx, ho⟩ := L.min k hk
  have h1 : P ∣ sm left fun j => t j * (P / (stp ss j).m) * (dot (stp ss j).c x - (stp ss j).r) := sm_dvd fun j hj => by
    by_cases e : j = k
    · subst e; rw [hz]; simp
    · obtain ⟨z, hz⟩ := ho (stp ss j) (List.mem_map.mpr ⟨j, List.mem_filter.mpr ⟨hj, decide_eq_true e⟩, rfl⟩)
      obtain ⟨a, ha⟩ := hP j hj
      rw [hz, ha, Int.mul_ediv_cancel_left _ (h0 j hj)]
      exact ⟨t j * z, by grind⟩
  have e : (sm left fun j => t j * (P / (stp ss j).m) * (dot (stp ss j).c x - (stp ss j).r)) + (sm left fun j => t j * (P / (stp ss j).m) * (stp ss j).r) = sm left fun j => t j * (P / (stp ss j).m) * dot (stp ss j).c x := by
    rw [← sm_add]; exact sm_congr fun j _ => by grind
  exact (Int.dvd_iff_dvd_of_dvd_add (e ▸ hr x hx : P ∣ _ + _)).mp h1
theorem helly_half {d : Nat} {ss : List Stp} {left : List Nat} {P1 P2 : Int} (L : Least d ss left) (hP : ∀ j ∈ left, (stp ss j).m ∣ P1 * P2) (h0 : ∀ j ∈ left, (stp ss j).m ≠ 0) (hlen : ∀ j ∈ left, (stp ss j).c.length = d) (C : Chain P1) (hn : left.Nodup) (hl : d + 2 ≤ left.length)
    {t : Nat → Int} (hr : ∀ y : Row, y.length = d → P1 * P2 ∣ sm left fun j => t j * (P1 * P2 / (stp ss j).m) * dot (stp ss j).c y) : P1 * P2 ∣ P2 * sm left fun j => t j * (P1 * P2 / (stp ss j).m) * (stp ss j).r := by
  obtain ⟨k', rest, rfl⟩ : ∃ k' rest, left = k' :: rest := by
    cases left with
    | nil => simp at hl
    | cons a b => exact ⟨a, b, rfl⟩
  obtain ⟨hk', hn'⟩ := List.nodup_cons.mp hn
  obtain ⟨u, ⟨k, hk, hk1⟩, hu⟩ := chain_dep C d rest (fun j i => P1 * P2 / (stp ss j).m * (stp ss j).c.getD i 0) hn' (by simp at hl; omega)
  -- u, 0 at k'
  let v : Nat → Int := fun j => if j = k' then 0 else P2 * u j
  have hv0 : v k' = 0 := if_pos rfl
  have hne : ∀ j ∈ rest, j ≠ k' := fun j hj z => hk' (z ▸ hj)
  have hvr : ∀ j ∈ rest, v j = P2 * u j := fun j hj => if_neg (hne j hj)
  have hvk : v k = P2 := by rw [hvr k hk, hk1, Int.mul_one]
  have unitd : ∀ i, i < d → P1 * P2 ∣ Lc (P1 * P2) ((k' :: rest).map (stp ss)) ((k' :: rest).map v) (unit d i) := fun i hi => by
    rw [Lc_map, sm_cons, hv0, Int.zero_mul, Int.zero_mul, Int.zero_add]
    have e : (sm rest fun j => v j * (P1 * P2 / (stp ss j).m) * dot (stp ss j).c (unit d i)) = P2 * sm rest fun j => u j * (P1 * P2 / (stp ss j).m * (stp ss j).c.getD i 0) := by
      rw [← sm_mul]
      exact sm_congr fun j hj => by
        rw [hvr j hj, dot_unit_r (hlen j (List.mem_cons_of_mem _ hj)) hi]
        grind
    rw [e, Int.mul_comm P1 P2]
    exact Int.mul_dvd_mul_left P2 (by rw [Int.mul_comm P2 P1]; exact hu i hi)
  have hvy : ∀ y : Row, y.length = d → P1 * P2 ∣ sm (k' :: rest) fun j => v j * (P1 * P2 / (stp ss j).m) * dot (stp ss j).c y := fun y hy => by
    rw [← Lc_map]; exact Lc_dvd unitd hy
  have hb1 := least_zero L hP h0 (List.mem_cons_self ..) hv0 hvy
  -- P2 * t - t k * v misses k
  let w : Nat → Int := fun j => P2 * t j + -t k * v j
  have hwk : w k = 0 := by show P2 * t k + -t k * v k = 0; rw [hvk]; grind
  have split : ∀ g : Nat → Int, (sm (k' :: rest) fun j => w j * (P1 * P2 / (stp ss j).m) * g j) = P2 * (sm (k' :: rest) fun j => t j * (P1 * P2 / (stp ss j).m) * g j) + -t k * sm (k' :: rest) fun j => v j * (P1 * P2 / (stp ss j).m) * g j := fun g => by
    rw [← sm_mul, ← sm_mul, ← sm_add]
    exact sm_congr fun j _ => by show (P2 * t j + -t k * v j) * _ * _ = _; grind
  have hb2 := least_zero L hP h0 (List.mem_cons_of_mem _ hk) hwk fun y hy => by
    rw [split]
    exact Int.dvd_add (Int.dvd_mul_of_dvd_right (hr y hy)) (Int.dvd_mul_of_dvd_right (hvy y hy))
  rw [split] at hb2
  exact (Int.dvd_iff_dvd_of_dvd_add hb2).mpr (Int.dvd_mul_of_dvd_right hb1)
theorem helly {x : Nat × Nat} (hx : x ∈ PQs) {d : Nat} {ss : List Stp} {left : List Nat} (hV : ∀ j ∈ left, VS x.1 x.2 d (stp ss j)) (hn : left.Nodup) (L : Least d ss left) : left.length ≤ d + 1 := by
  refine Classical.byContradiction fun hl => ?_
  have hl : d + 2 ≤ left.length := by omega
  obtain ⟨A, B, hAB⟩ := common_pow (ss := left.map (stp ss)) fun s hs => by
    obtain ⟨j, hj, rfl⟩ := List.mem_map.mp hs
    exact (hV j hj).per
  have hAB : ∀ j ∈ left, (stp ss j).m ∣ ((x.1 ^ A : Nat) : Int) * ((x.2 ^ B : Nat) : Int) := fun j hj => by
    rw [← Int.natCast_mul]; exact hAB _ (List.mem_map.mpr ⟨j, hj, rfl⟩)
  obtain ⟨⟨f1, f2⟩, f3, f4, f5, f6⟩ := PQ_facts x hx
  have p1 : (0 : Int) < ((x.1 ^ A : Nat) : Int) := by have := Nat.pow_pos (n := A) (show 0 < x.1 by omega); omega
  have p2 : (0 : Int) < ((x.2 ^ B : Nat) : Int) := by have := Nat.pow_pos (n := B) (show 0 < x.2 by omega); omega
  have cop : Nat.gcd (x.1 ^ A) (x.2 ^ B) = 1 := Nat.Coprime.pow A B f6
  obtain ⟨u, v, huv⟩ := bez (x.1 ^ A) (x.2 ^ B)
  rw [cop] at huv
  obtain ⟨q1, q2⟩ := PQ_pr x hx
  have C1 := chain_pow q1 A
  have C2 := chain_pow q2 B
  generalize ((x.1 ^ A : Nat) : Int) = P1 at *
  generalize ((x.2 ^ B : Nat) : Int) = P2 at *
  have h0 : ∀ j ∈ left, (stp ss j).m ≠ 0 := fun j hj => by have := (hV j hj).pos; omega
  have hlen : ∀ j ∈ left, (stp ss j).c.length = d := fun j hj => (hV j hj).len
  obtain ⟨l, b1, b2, b3⟩ := L.cn (P1 * P2) (Int.mul_pos p1 p2) fun s hs => by
    obtain ⟨j, hj, rfl⟩ := List.mem_map.mp hs
    exact hAB j hj
  obtain ⟨t, rfl⟩ := as_fun hn (b1.trans (List.length_map ..))
  have hr : ∀ y : Row, y.length = d → P1 * P2 ∣ sm left fun j => t j * (P1 * P2 / (stp ss j).m) * dot (stp ss j).c y := fun y hy => by rw [← Lc_map]; exact b2 y hy
  have r1 := helly_half L hAB h0 hlen C1 hn hl hr
  have r2 := helly_half (P1 := P2) (P2 := P1) L (fun j hj => by rw [Int.mul_comm]; exact hAB j hj) h0 hlen C2 hn hl (t := t) (fun y hy => by rw [Int.mul_comm P2 P1]; exact hr y hy)
  rw [Int.mul_comm P2 P1] at r2
  rw [Lr_map] at b3
  apply b3
  generalize (sm left fun j => t j * (P1 * P2 / (stp ss j).m) * (stp ss j).r) = z at *
  have e : z = u * (P1 * z) + v * (P2 * z) := by
    have : z = z * (P1 * u + P2 * v) := by rw [huv]; simp
    grind
  rw [e]
  exact Int.dvd_add (Int.dvd_mul_of_dvd_right r2) (Int.dvd_mul_of_dvd_right r1)
end K62
end
section
set_option Elab.async false
set_option linter.all false
set_option maxRecDepth 100000
set_option maxHeartbeats 4000000
set_option exponentiation.threshold 100
namespace K62
open PySem PySem.Spec PyProof.Rows L2
variable {P : Program} {w : World} {K : PySem.W.Frag} {mg : Str → Option Value} {base : Heap}
/-- stripes of the law -/
structure Sts (x : Nat × Nat) (d : Nat) (ss : List Stp) : Prop where
  pq : x ∈ PQs
  d1 : 1 ≤ d
  d3 : d ≤ 3
  n1 : 1 ≤ ss.length
  n12 : ss.length ≤ 12
  vs : ∀ s ∈ ss, VS x.1 x.2 d s
structure StA where
  x : Nat × Nat
  d : Nat
  ss : List Stp
abbrev StA.Ok (a : StA) : Prop := Sts a.x a.d a.ss
theorem range_stp (ss : List Stp) : (List.range ss.length).map (stp ss) = ss := by
  apply List.ext_getElem?
  intro i
  by_cases hi : i < ss.length
  · rw [List.getElem?_map, List.getElem?_range hi, List.getElem?_eq_getElem hi]
    show some _ = some _
    rw [stp_get (List.getElem?_eq_getElem hi)]
  · rw [List.getElem?_eq_none (by simp; omega), List.getElem?_eq_none (by omega)]
abbrev sp_bar_among : Sp := FSp (α := StA) nU (fun x vs H => ∃ v q, vs = [v, .int x.d, .ref q] ∧ TupR StR x.ss v H ∧ H q = some (.lst (nvs (List.range x.ss.length))) ∧ x.Ok ∧ CN x.d x.ss) (fun x => BarR x.d x.ss (x.d + 1))
theorem ok_bar_among (F : DefAt K mg "bar_among" s_bar_among ps_bar_among) (B : Bln mg) (C1 : Callee P w K mg base 5 "few_that_bar" ps_few_that_bar sp_few_that_bar) (C2 : Callee P w K mg base 5 "bar_of" ps_bar_of sp_bar_of) : Callee P w K mg base 6 "bar_among" ps_bar_among sp_bar_among := by
  refine callee_of F sc_bar_among (fun vs H Q E h => ?_) fun f cdv A outer s H vs Q E hr h => ?_
  · obtain ⟨a, _, ⟨v, q, rfl, _⟩, _⟩ := h; rfl
  obtain ⟨x, _, ⟨v, q, rfl, hv, hq, O, hn⟩, k⟩ := h
  have Ok0 : BoA.Ok ⟨x.d, x.ss, List.range x.ss.length⟩ := ⟨O.d3, O.d1, by simpa using O.n12, fun s hs => (O.vs s hs).st, fun n hn => List.mem_range.mp hn, List.pairwise_lt_range, by rw [range_stp]; exact hn⟩
  refine S.ret (U := none) trivial (R.callP (P := BarR x.d x.ss (x.d + 1)) C2 hr (by decide) (by rfl) (RA.cons (R.var (i := 0) rfl (.inl rfl) rfl) (RA.cons (R.var (i := 1) rfl (.inl rfl) rfl) (RA.last (P := fun v H => ∃ L left, v = .ref L ∧ H L = some (.lst (nvs left)) ∧ left.Sublist (List.range x.ss.length) ∧ Least x.d x.ss left) (R.callP C1 hr (by decide) (by rfl) (RA.cons (R.var (i := 0) rfl (.inl rfl) rfl) (RA.cons (R.var (i := 1) rfl (.inl rfl) rfl) (RA.last (R.var (i := 2) rfl (.inl rfl) rfl)))) ?_)))) ?_) fun v H1 l _ h => k v H1 l trivial h
  · rintro vs H1 l _ ⟨v1, r1, rfl, rfl, v2, r2, rfl, rfl, v3, r3, rfl, rfl, rfl⟩
    exact ⟨⟨x.d, x.ss, List.range x.ss.length⟩, ⟨_, q, rfl, Fz.le l hv, l.keep _ _ (fun z => z) hq, Ok0⟩, fun v H2 _ _ h => h⟩
  · rintro vs H1 l _ ⟨v1, r1, rfl, rfl, v2, r2, rfl, rfl, v3, r3, rfl, ⟨L, left, rfl, hL, hs, hm⟩, rfl⟩
    have hin : ∀ n ∈ left, n < x.ss.length := fun n hn => List.mem_range.mp (hs.subset hn)
    have hmem : ∀ n ∈ left, stp x.ss n ∈ x.ss := fun n hn => by
      rw [stp_get (List.getElem?_eq_getElem (hin n hn))]; exact List.getElem_mem (hin n hn)
    have hln := hs.length_le
    rw [List.length_range] at hln
    have hhel := helly O.pq (fun j hj => O.vs _ (hmem j hj)) (List.nodup_range.sublist hs) hm
    exact ⟨⟨x.d, x.ss, left⟩, ⟨_, L, rfl, Fz.le l hv, hL, ⟨O.d3, O.d1, by have := O.n12; show left.length ≤ 12; omega, Ok0.ok, hin, List.Pairwise.sublist hs List.pairwise_lt_range, hm.cn⟩⟩, fun v H2 _ _ ⟨prs, h1, h2, h3⟩ => ⟨prs, h1, h2, Nat.le_trans h3 hhel⟩⟩

abbrev sp_is_bar_pair : Sp := FSp (α := List Stp × (Nat × Int)) nU (fun x vs H => ∃ v w, vs = [v, w] ∧ TupR StR x.1 v H ∧ PrR x.2 w H ∧ x.2.1 < x.1.length ∧ x.2.2 ≠ 0) (fun _ => Is (.bl true))
theorem ok_is_bar_pair (F : DefAt K mg "is_bar_pair" s_is_bar_pair ps_is_bar_pair) (B : Bln mg) (C1 : Callee P w K mg base 1 "is_integer" ps_is_integer sp_is_integer) : Callee P w K mg base 2 "is_bar_pair" ps_is_bar_pair sp_is_bar_pair := by
  refine callee_of F sc_is_bar_pair (fun vs H Q E h => ?_) fun f cdv A outer s H vs Q E hr h => ?_
  · obtain ⟨a, _, ⟨v, q, rfl, _⟩, _⟩ := h; rfl
  obtain ⟨⟨ss, n, z⟩, _, ⟨v, w', rfl, ⟨p, us, rfl, hp, hrep⟩, ⟨q, rfl, hq⟩, hlt, hz⟩, k⟩ := h
  have hq : H q = some (.tup [.int (n : Int), .int z]) := hq
  have hz : z ≠ 0 := hz
  have hlt : n < ss.length := hlt
  have hul : us.length = ss.length := hrep.1
  have isI : ∀ (i : Int) (H1 : Hp) (vs : List V), A2 (Is (.int i)) A0 vs H1 → ∃ a : Int, vs = [.int a] := fun i H1 vs ⟨v, r, e, e1, e2⟩ => by cases e1; cases e2; exact ⟨i, e⟩
  refine S.if (U := none) trivial (RW.pt (RW.orB (p := false) (q := false) ((RT.not (φ := (· = true)) (RT.is (R.isi (k := true) (fun H1 l => .base (.tup (l.tup _ _ hq))) (kit_ty (by decide +kernel)) (by rfl) B.isinstance (R.var (i := 1) rfl (.inl rfl) rfl) (R.bltn (by rfl) B.tuple PyProof.Rows.boot_tuple rfl)))).imp fun k e => by rw [← Bool.not_not k, e]; rfl)
    (fun _ => RW.orB (p := false) (q := false) ((RT.ne rfl (R.lenT (by rfl) B.len hq (R.var (i := 1) rfl (.inl rfl) rfl)) R.int)) (fun _ => RW.orB (p := false) (q := false) ((RT.not (φ := (· = true)) (RT.is (R.callP C1 hr (by decide) (by rfl) (RA.last (R.ixT (v := .int n) hq rfl (R.var (i := 1) rfl (.inl rfl) rfl) R.int)) ?_))).imp fun k e => by rw [← Bool.not_not k, e]; rfl) (fun _ => RW.or1 ((RT.not (φ := (· = true)) (RT.is (R.callP C1 hr (by decide) (by rfl) (RA.last (R.ixT (v := .int z) hq rfl (R.var (i := 1) rfl (.inl rfl) rfl) R.int)) ?_))).imp fun k e => by rw [← Bool.not_not k, e]; rfl)))))) (fun e => Bool.noConfusion (e : true = false)) fun _ H1 l1 _ => S.nil ?_
  · rintro vs H1 l _ ⟨v, r, rfl, rfl, rfl⟩
    exact ⟨(n : Int), rfl, fun v H2 _ _ e => e⟩
  · rintro vs H1 l _ ⟨v, r, rfl, rfl, rfl⟩
    exact ⟨z, rfl, fun v H2 _ _ e => e⟩
  have hq1 := l1.tup _ _ hq
  refine S.ret (U := none) trivial (R.andB (R.chain op_le op_lt R.int (R.ixT (v := .int n) hq1 rfl (R.var (i := 1) rfl (.inl rfl) rfl) R.int) (R.lenT (by rfl) B.len (l1.tup _ _ hp) (R.var (i := 0) rfl (.inl rfl) rfl))) (fun _ => R.one (R.ne rfl (R.ixT (v := .int z) hq1 rfl (R.var (i := 1) rfl (.inl rfl) rfl) R.int) R.int))) fun v H2 l2 _ e => k v H2 (l1.trans l2) trivial ?_
  rw [e, decide_eq_true (show (0 : Int) ≤ (n : Int) by omega), decide_eq_true (show (n : Int) < (us.length : Int) by omega), ne_int, decide_eq_true hz]; rfl

theorem range_map_of {α β : Type} {as : List α} {f : Nat → β} {g : α → β} {n : Nat} (hn : n = as.length) (h : ∀ i a, as[i]? = some a → f i = g a) : (List.range n).map f = as.map g := by
  apply List.ext_getElem?
  intro i
  by_cases hi : i < as.length
  · rw [List.getElem?_map, List.getElem?_range (by omega), List.getElem?_map, List.getElem?_eq_getElem hi]
    show some _ = some _
    rw [h i _ (List.getElem?_eq_getElem hi)]
  · rw [List.getElem?_eq_none (by simp; omega), List.getElem?_eq_none (by simp; omega)]
def SmR (p : Stp × Int) : VP := fun v H => ∃ q u, v = .ref q ∧ H q = some (.tup [u, .int p.2]) ∧ StR p.1 u H
instance {p : Stp × Int} : Fz (SmR p) := ⟨fun _ _ _ t ⟨q, u, e, h, r⟩ => ⟨q, u, e, t q _ h, Fz.mv _ _ _ t r⟩⟩
theorem Lc_prs {P : Int} {ss : List Stp} {y : Row} : ∀ {prs : List (Nat × Int)}, (prs.map fun p => p.2 * (P / (stp ss p.1).m) * dot (stp ss p.1).c y).sum = Lc P (psub ss prs) (pnum prs) y
  | [] => rfl
  | p :: prs => by
    have ih := Lc_prs (P := P) (ss := ss) (y := y) (prs := prs)
    unfold Lc psub pnum at ih ⊢
    rw [List.map_cons, List.sum_cons, ih, List.map_cons, List.map_cons, List.zipWith_cons_cons, List.sum_cons]
theorem Lr_prs {P : Int} {ss : List Stp} : ∀ {prs : List (Nat × Int)}, (prs.map fun p => p.2 * (P / (stp ss p.1).m) * (stp ss p.1).r).sum = Lr P (psub ss prs) (pnum prs)
  | [] => rfl
  | p :: prs => by
    have ih := Lr_prs (P := P) (ss := ss) (prs := prs)
    unfold Lr psub pnum at ih ⊢
    rw [List.map_cons, List.sum_cons, ih, List.map_cons, List.map_cons, List.zipWith_cons_cons, List.sum_cons]
structure IbA where
  d : Nat
  ss : List Stp
  prs : List (Nat × Int)
structure IbA.Ok (x : IbA) : Prop where
  d3 : x.d ≤ 3
  ok : ∀ s ∈ x.ss, StOk x.d s
  bar : Bar x.d x.ss x.prs
  len : x.prs.length ≤ x.d + 1
abbrev sp_is_bar : Sp := FSp (α := IbA) nU (fun x vs H => ∃ v w, vs = [v, .int x.d, w] ∧ TupR StR x.ss v H ∧ TupR PrR x.prs w H ∧ x.Ok) (fun _ => Is (.bl true))
theorem ok_is_bar (F : DefAt K mg "is_bar" s_is_bar ps_is_bar) (B : Bln mg) (C1 : Callee P w K mg base 2 "is_bar_pair" ps_is_bar_pair sp_is_bar_pair) (C2 : Callee P w K mg base 1 "common_period" ps_common_period sp_common_period) : Callee P w K mg base 3 "is_bar" ps_is_bar sp_is_bar := by
  refine callee_of F sc_is_bar (fun vs H Q E h => ?_) fun f cdv A outer s H vs Q E hr h => ?_
  · obtain ⟨a, _, ⟨v, q, rfl, _⟩, _⟩ := h; rfl
  obtain ⟨x, _, ⟨v, w', rfl, ⟨p, us, rfl, hp, hrep⟩, ⟨q, qs, rfl, hq, hrq⟩, O⟩, k⟩ := h
  have d3 := O.d3
  have hlen := O.len
  have hql : qs.length = x.prs.length := hrq.1
  have hin : ∀ pr ∈ x.prs, pr.1 < x.ss.length := fun pr h => (O.bar.ok pr h).1
  have hmem : ∀ pr ∈ x.prs, stp x.ss pr.1 ∈ x.ss := fun pr h => by
    rw [stp_get (List.getElem?_eq_getElem (hin pr h))]; exact List.getElem_mem (hin pr h)
  have hok : ∀ pr ∈ x.prs, StOk x.d (stp x.ss pr.1) := fun pr h => O.ok _ (hmem pr h)
  refine S.if (U := none) trivial (RW.pt (RW.orB (p := false) (q := false) ((RT.not (φ := (· = true)) (RT.is (R.isi (k := true) (fun H1 l => .base (.tup (l.tup _ _ hq))) (kit_ty (by decide +kernel)) (by rfl) B.isinstance (R.var (i := 2) rfl (.inl rfl) rfl) (R.bltn (by rfl) B.tuple PyProof.Rows.boot_tuple rfl)))).imp fun k e => by rw [← Bool.not_not k, e]; rfl)
    (fun _ => RW.or1 ((RT.gt (R.lenT (by rfl) B.len hq (R.var (i := 2) rfl (.inl rfl) rfl)) (R.add (R.var (i := 1) rfl (.inl rfl) rfl) R.int)).imp fun k e => by rw [e]; exact decide_eq_false (by omega))))) (fun e => Bool.noConfusion (e : true = false)) fun _ H1 l1 _ => S.nil ?_
  -- all pairs
  refine S.if (U := none) trivial ((RT.not (φ := (· = true)) (RT.is (R.cast (R.allN (U := none) (H0 := H1) (n := qs.length) (f := fun i => true) rfl (by rfl) B.all (R.lc (own := [("pair", 6)]) rfl sc_is_bar.nd (Src.tup (R.var (i := 2) rfl (.inl rfl) rfl) (l1.tup _ _ hq)) (blkOk_by (N := N_is_bar) (sc := defScope s_is_bar) (by decide +kernel))
      (fun J H2 l2 j wk => LcK.map (fun i => Is (.bl true)) wk (by omega) l2 trivial (fun i H x H' => yAt_le) (fun H' l' => ((l1.trans l2).trans l').tup _ _ hq) (fun i y H' H'' hi l' j' yy => ?_)))) ?_))).imp fun k e => show k = false by rw [← Bool.not_not k, e]; rfl) (fun e => Bool.noConfusion (e : true = false)) fun _ H2 l2 _ => S.nil ?_
  · obtain ⟨rfl, hy⟩ := yy
    have l02 := (l1.trans l2).trans l'
    obtain ⟨pr, hpr, hprR⟩ := (hrq.tk l02.tup).get hy
    refine ⟨_, fun s Hb C cl fp => Tg.name sc_is_bar.nd (i := 6) rfl (.inl rfl), rfl, fun s Hb C cl fp => R.callP C1 hr (by decide) (by rfl) (RA.cons (R.var (i := 0) rfl (.inr (.inl rfl)) rfl) (RA.last (R.var (i := 6) rfl (.inl rfl) rfl))) ?_⟩
    rintro vs H3 l3 _ ⟨v1, r1, rfl, rfl, v2, r2, rfl, rfl, rfl⟩
    have hpm := List.mem_of_getElem? hpr
    exact ⟨(x.ss, pr), ⟨_, _, rfl, ⟨p, us, rfl, (l02.trans l3).tup _ _ hp, hrep.tk (l02.trans l3).tup⟩, Fz.le l3 hprR, hin pr hpm, (O.bar.ok pr hpm).2.1⟩, fun v H2 _ _ e => e⟩
  · congr 1
    rw [List.all_eq_true]; intro _ _; rfl
  have l12 := l1.trans l2
  -- in order
  refine S.if (U := none) trivial ((RT.not (φ := (· = true)) (RT.is (R.cast (R.allN (U := none) (H0 := H2) (n := min qs.length (cutV qs (some 1) none).length) (f := fun i => true) rfl (by rfl) B.all (R.lc (own := [("near", 7), ("far", 8)]) rfl sc_is_bar.nd (Src.zip2 (b1 := false) (b2 := false) (by rfl) B.zip (R.var (i := 2) rfl (.inl rfl) rfl) (R.slT (l12.tup _ _ hq) (R.var (i := 2) rfl (.inl rfl) rfl) (RO.some R.int) RO.none) (l12.tup _ _ hq) nmN) (blkOk_by (N := N_is_bar) (sc := defScope s_is_bar) (by decide +kernel))
      (fun J H3 l3 j ⟨p2, hp2, wk⟩ => LcK.map (fun i => Is (.bl true)) wk (by omega) l3 trivial (fun i H x H' => yZ2_le) (fun H' l' => ⟨((l12.trans l3).trans l').tup _ _ hq, l'.tup _ _ hp2⟩) (fun i y H' H'' hi l' j' yy => ?_)))) ?_))).imp fun k e => show k = false by rw [← Bool.not_not k, e]; rfl) (fun e => Bool.noConfusion (e : true = false)) fun _ H3 l3 _ => S.nil ?_
  · obtain ⟨T, y1, y2, rfl, hn, rfl, g1, g2⟩ := yy
    rw [show (1 : Int) = ((1 : Nat) : Int) from rfl, cut_lo, List.getElem?_drop] at g2
    have ln := Le.new (U := none) (H := H') (o := .tup [y1, y2]) trivial hn
    have l04 := (((l12.trans l3).trans l').trans ln)
    obtain ⟨pr1, h1, q1, rfl, hq1⟩ := (hrq.tk l04.tup).get g1
    obtain ⟨pr2, h2, q2, rfl, hq2⟩ := (hrq.tk l04.tup).get g2
    refine ⟨_, fun s Hb C cl fp => Tg.tup rfl upd_same (Tgs.cons (Tg.name sc_is_bar.nd (i := 7) rfl (.inl rfl)) (Tgs.cons (Tg.name sc_is_bar.nd (i := 8) rfl (.inl rfl)) Tgs.nil)), rfl, fun s Hb C cl fp => R.cast (R.lt (R.ixT (v := .int _) hq1 rfl (R.var (i := 7) rfl (.inl rfl) rfl) R.int) (R.ixT (v := .int _) hq2 rfl (R.var (i := 8) rfl (.inl rfl) rfl) R.int)) ?_⟩
    have i1 : i < x.prs.length := (List.getElem?_eq_some_iff.mp h1).1
    have i2 : 1 + i < x.prs.length := (List.getElem?_eq_some_iff.mp h2).1
    have hpw := List.pairwise_iff_getElem.mp O.bar.inc i (1 + i) i1 i2 (by omega)
    rw [List.getElem?_eq_getElem i1] at h1
    rw [List.getElem?_eq_getElem i2] at h2
    cases h1; cases h2
    congr 1
    exact decide_eq_true (by omega)
  · congr 1
    rw [List.all_eq_true]; intro _ _; rfl
  have l13 := l12.trans l3
  have hq3 := l13.tup _ _ hq
  have hrq3 := hrq.tk l13.tup
  have hp3 := l13.tup _ _ hp
  have hrep3 := hrep.tk l13.tup
  -- some
  have getp : ∀ {i : Nat} {pr : Nat × Int}, x.prs[i]? = some pr → x.prs.getD i (0, 0) = pr := fun {i pr} h => by rw [List.getD_eq_getElem?_getD, h]; rfl
  refine S.asgLc (U := none) (i := 3) (own := [("number", 9), ("many", 10)]) (P := NLs none H3 fun vs H' => vs.length = qs.length ∧ ∀ i y, vs[i]? = some y → SmR (stp x.ss (x.prs.getD i (0, 0)).1, (x.prs.getD i (0, 0)).2) y H') rfl sc_is_bar.nd rfl rfl (sw_true rfl rfl rfl (by decide +kernel)) trivial (Src.tup (R.var (i := 2) rfl (.inl rfl) rfl) hq3) (blkOk_by (N := N_is_bar) (sc := defScope s_is_bar) (by decide +kernel))
    (fun J H4 l4 _ wk => LcK.map (fun i => SmR (stp x.ss (x.prs.getD i (0, 0)).1, (x.prs.getD i (0, 0)).2)) wk (by omega) l4 trivial (fun i H x H' => yAt_le) (fun H' l' => (l4.trans l').tup _ _ hq3) (fun i y H' H'' hi l' j' yy => ?_)) ?_
  · obtain ⟨rfl, hy⟩ := yy
    obtain ⟨pr, hpr, q1, rfl, hq1⟩ := (hrq3.tk (l4.trans l').tup).get hy
    have hpm := List.mem_of_getElem? hpr
    obtain ⟨u, hu, hs⟩ := (hrep3.tk (l4.trans l').tup).of (List.getElem?_eq_getElem (hin pr hpm))
    refine ⟨_, fun s Hb C cl fp => Tg.tup rfl hq1 (Tgs.cons (Tg.name sc_is_bar.nd (i := 9) rfl (.inl rfl)) (Tgs.cons (Tg.name sc_is_bar.nd (i := 10) rfl (.inl rfl)) Tgs.nil)), rfl, fun s Hb C cl fp => R.tup (RA.cons (R.ixT ((l4.trans l').tup _ _ hp3) (atI_nat hu) (R.var (i := 0) rfl (.inr (.inl rfl)) rfl) (R.var (i := 9) rfl (.inl rfl) rfl)) (RA.last (R.var (i := 10) rfl (.inl rfl) rfl))) ?_ ?_⟩
    · rintro vs H1 ⟨v, r, rfl, _, v', r', rfl, _, rfl⟩; show 2 ≤ sizeLine; decide
    · rintro vs p' H5 l5 _ ⟨v, r, rfl, rfl, v', r', rfl, rfl, rfl⟩ hn
      rw [getp hpr]
      refine ⟨p', _, rfl, upd_same, ?_⟩
      rw [stp_get (List.getElem?_eq_getElem (hin pr hpm))]
      exact Fz.le (l5.trans (Le.new (U := none) trivial hn)) hs
  rintro v H4 l4 _ ⟨Ls, sv, rfl, _, _, hLs, hsz, hsv⟩
  have hsl : sv.length = x.prs.length := hsz.trans hql
  have hsv' : ∀ {i : Nat} {y : V} {H' : Hp}, Le none H4 H' → sv[i]? = some y → ∃ pr T vs pc, x.prs[i]? = some pr ∧ pr ∈ x.prs ∧ y = .ref T ∧ H' T = some (.tup [.ref vs, .int pr.2]) ∧ H' vs = some (.tup [.int (stp x.ss pr.1).m, .ref pc, .int (stp x.ss pr.1).r]) ∧ H' pc = some (.tup ((stp x.ss pr.1).c.map V.int)) := fun {i y H'} l h => by
    have hi : i < x.prs.length := by rw [← hsl]; exact (List.getElem?_eq_some_iff.mp h).1
    obtain ⟨T, u, e, hT, q', vc, rfl, hq', pc, rfl, hpc⟩ := Fz.le l (hsv i y h)
    rw [getp (List.getElem?_eq_getElem hi)] at hT hq' hpc
    exact ⟨_, T, q', pc, List.getElem?_eq_getElem hi, List.getElem_mem hi, e, hT, hq', hpc⟩
  show S _ _ [some (.ref p), some (.int x.d), some (.ref q), some (.ref Ls), none, none, none, none, none, none, none, none] _ _
  have hpsl : (psub x.ss x.prs).length = x.prs.length := by simp [psub]
  -- period
  refine S.asg (U := none) (P := In (CPd (psub x.ss x.prs))) sc_is_bar.nd (i := 4) rfl (.inr rfl) trivial (R.callP C2 hr (by decide) (by rfl) (RA.last (P := SeqR StR (psub x.ss x.prs)) ((R.lc (U := none) (P := NLs none H4 fun vs H2 => vs.length = sv.length ∧ ∀ i y, vs[i]? = some y → StR (stp x.ss (x.prs.getD i (0, 0)).1) y H2) (own := [("stripe", 11), ("many", 10)]) rfl sc_is_bar.nd (Src.lst (R.var (i := 3) rfl (.inl rfl) rfl) hLs (fun z => z)) (blkOk_by (N := N_is_bar) (sc := defScope s_is_bar) (by decide +kernel))
      (fun J H5 l5 _ wk => LcK.map (fun i => StR (stp x.ss (x.prs.getD i (0, 0)).1)) wk (by omega) l5 trivial (fun i H x H' => yAt_le) (fun H' l' => (l5.trans l').keep _ _ (fun z => z) hLs) (fun i y H' H'' hi l' j' yy => ?_))).imp ?_)) ?_) ?_
  · obtain ⟨rfl, hy⟩ := yy
    obtain ⟨pr, T, vs, pc, h1, h2, rfl, h3, h4, h5⟩ := hsv' (l5.trans l') hy
    refine ⟨_, fun s Hb C cl fp => Tg.tup rfl h3 (Tgs.cons (Tg.name sc_is_bar.nd (i := 11) rfl (.inl rfl)) (Tgs.cons (Tg.name sc_is_bar.nd (i := 10) rfl (.inl rfl)) Tgs.nil)), rfl, fun s Hb C cl fp => (R.var (i := 11) rfl (.inl rfl) rfl).imp fun v H6 l6 e => ?_⟩
    cases e
    rw [getp h1]
    exact ⟨vs, .ref pc, rfl, l6.tup _ _ h4, pc, rfl, l6.tup _ _ h5⟩
  · rintro v H5 l5 ⟨La, vs, rfl, _, _, hLa, hz, hv⟩
    refine ⟨La, vs, rfl, .inr hLa, by rw [hz, hpsl, hsl], fun i a v e1 e2 => ?_⟩
    rw [List.getElem?_map] at e1
    obtain ⟨pr, hn, rfl⟩ := Option.map_eq_some_iff.mp e1
    have := hv i v e2
    rwa [getp hn] at this
  · rintro vs H5 l5 _ ⟨v, r, rfl, hv, rfl⟩
    exact ⟨psub x.ss x.prs, ⟨_, rfl, hv, by omega, fun s hs => by
      obtain ⟨pr, hpr, rfl⟩ := List.mem_map.mp hs
      exact ⟨x.d, hok pr hpr⟩⟩, fun v H6 _ _ h => h⟩
  rintro v H5 l5 _ ⟨P, rfl, hP⟩
  show S _ _ [some (.ref p), some (.int x.d), some (.ref q), some (.ref Ls), some (.int P), none, none, none, none, none, none, none] _ _
  have hBP := O.bar.bars P hP.1 fun pr hpr => hP.2.1 _ (List.mem_map.mpr ⟨pr, hpr, rfl⟩)
  have P0 := hP.1
  have hPb : P.natAbs < 2 ^ 1700 := Nat.lt_of_lt_of_le hP.2.2 (Nat.pow_le_pow_right (by decide) (by omega))
  have hqb : ∀ pr ∈ x.prs, (P / (stp x.ss pr.1).m).natAbs < 2 ^ 1700 := fun pr hpr => by
    have h0 := (hok pr hpr).m0
    have h1 : 0 ≤ P / (stp x.ss pr.1).m := Int.ediv_nonneg (by omega) (by omega)
    have h2 : P / (stp x.ss pr.1).m ≤ P := Int.ediv_le_self _ (by omega)
    exact Nat.lt_of_le_of_lt (by clear hPb; omega) hPb
  have hLs5 := l5.keep _ _ (fun z => z) hLs
  -- a sum over some
  have hcs : ∀ pr ∈ x.prs, ∀ y ∈ (stp x.ss pr.1).c, y.natAbs < 2 ^ 134 := fun pr hpr y hy => by
    have h1 := (hok pr hpr).cs y hy
    have h2 := (hok pr hpr).m1
    omega
  have mulok : ∀ pr ∈ x.prs, ∀ y : Int, y.natAbs < 2 ^ 134 → CMulW pr.2 y ∧ CMulW (pr.2 * y) (P / (stp x.ss pr.1).m) := fun pr hpr y hy =>
    ⟨wide_mul (O.bar.ok pr hpr).2.2 hy (by decide) (by decide) (by decide), wide_mul (wide_lt (O.bar.ok pr hpr).2.2 hy) (hqb pr hpr) (by decide) (by decide) (by decide)⟩
  have hgx : ∀ {n : Nat} {l : List Int} , n < l.length → (l.map V.int)[n]? = some (.int (l.getD n 0)) := fun {n l} hn => by
    rw [List.getElem?_map, List.getElem?_eq_getElem hn, List.getD_eq_getElem?_getD, List.getElem?_eq_getElem hn]; rfl
  refine S.cut (Mid := fun σ' H' => ∃ x5, σ' = [some (.ref p), some (.int x.d), some (.ref q), some (.ref Ls), some (.int P), x5, none, none, none, none, none, none] ∧ Le none H5 H') (S1.for (U := none) (Src.range1 (n := x.d) (by rfl) B.range (by omega) (R.var (i := 1) rfl (.inl rfl) rfl)) trivial PassesOwn.never rfl fun J H6 l6 _ wk => ⟨_, _, _, wk,
    fun i σ' H' => ∃ x5, σ' = [some (.ref p), some (.int x.d), some (.ref q), some (.ref Ls), some (.int P), x5, none, none, none, none, none, none] ∧ Le none H5 H', ⟨none, rfl, l6⟩, fun _ _ _ _ _ => trivial, ?_, fun σ' H' h => h⟩) ?_
  · rintro i v σ' H' H'' hi ⟨x5, rfl, l⟩ ⟨rfl, rfl⟩
    rw [Int.toNat_natCast] at hi
    refine ⟨_, Tg.name sc_is_bar.nd (i := 5) rfl (.inr rfl), ?_⟩
    show S _ _ [some (.ref p), some (.int x.d), some (.ref q), some (.ref Ls), some (.int P), some (.int i), none, none, none, none, none, none] _ _
    have hLsi := l.keep _ _ (fun z => z) hLs5
    have hsum : ((List.range sv.length).map fun j => match x.prs[j]? with | some pr => pr.2 * (stp x.ss pr.1).c.getD i 0 * (P / (stp x.ss pr.1).m) | none => 0).sum = Lc P (psub x.ss x.prs) (pnum x.prs) (unit x.d i) := by
      rw [range_map_of (g := fun pr => pr.2 * (stp x.ss pr.1).c.getD i 0 * (P / (stp x.ss pr.1).m)) hsl (fun j a e => by rw [e]), ← Lc_prs]
      congr 1
      apply List.map_congr_left
      intro pr hpr
      rw [dot_unit_r (hok pr hpr).len hi]
      grind
    refine S.if (U := none) trivial (RT.ne rfl (R.mod hP.1 (R.sumN (U := none) (H0 := H'') (n := sv.length) (f := fun j => match x.prs[j]? with | some pr => pr.2 * (stp x.ss pr.1).c.getD i 0 * (P / (stp x.ss pr.1).m) | none => 0) rfl (by rfl) B.sum (R.lc (own := [("stripe", 11), ("many", 10)]) rfl sc_is_bar.nd (Src.lst (R.var (i := 3) rfl (.inl rfl) rfl) hLsi (fun z => z)) (blkOk_by (N := N_is_bar) (sc := defScope s_is_bar) (by decide +kernel))
      (fun J H6 l6 _ wk => LcK.map (fun j => Is (V.int (match x.prs[j]? with | some pr => pr.2 * (stp x.ss pr.1).c.getD i 0 * (P / (stp x.ss pr.1).m) | none => 0))) wk (by omega) l6 trivial (fun i H x H' => yAt_le) (fun H' l' => (l6.trans l').keep _ _ (fun z => z) hLsi) (fun j y Ha Hb hj l' j' yy => ?_)))) (R.var (i := 4) rfl (.inr (.inl rfl)) rfl)) R.int) (fun e => ?_) (fun e H6 l6 _ => S.nil (S.nil ⟨_, rfl, l.trans l6⟩))
    · obtain ⟨rfl, hy⟩ := yy
      obtain ⟨pr, T, vs, pc, h1, h2, rfl, h3, h4, h5⟩ := hsv' (((l5.trans l).trans l6).trans l') hy
      have hlt : i < (stp x.ss pr.1).c.length := by rw [(hok pr h2).len]; exact hi
      have hm := mulok pr h2 _ (hcs pr h2 _ (getD_mem hlt))
      refine ⟨_, fun s Hb C cl fp => Tg.tup rfl h3 (Tgs.cons (Tg.name sc_is_bar.nd (i := 11) rfl (.inl rfl)) (Tgs.cons (Tg.name sc_is_bar.nd (i := 10) rfl (.inl rfl)) Tgs.nil)), rfl, fun s Hb C cl fp => ?_⟩
      rw [h1]
      refine R.mul hm.2 (R.mul hm.1 (R.var (i := 10) rfl (.inl rfl) rfl) (R.ixT h5 (atI_nat (j := i) (hgx hlt)) (R.ixT (v := .ref pc) h4 rfl (R.var (i := 11) rfl (.inl rfl) rfl) R.int) (R.var (i := 5) rfl (.inr (.inl rfl)) rfl))) (R.fdiv (wide_div (b := 8000) (hok pr h2).m0 (hok pr h2).mb (by decide) (by decide)) (R.var (i := 4) rfl (.inr (.inl rfl)) rfl) (R.ixT (v := .int (stp x.ss pr.1).m) h4 rfl (R.var (i := 11) rfl (.inl rfl) rfl) R.int))
    · rw [ne_int, hsum] at e
      have := of_decide_eq_true e.symm
      exact absurd (Int.emod_eq_zero_of_dvd (hBP.2.1 _ unit_len)) this
  · rintro σ' H' ⟨x5, rfl, l⟩
    have hLsi := l.keep _ _ (fun z => z) hLs5
    have hsum : ((List.range sv.length).map fun j => match x.prs[j]? with | some pr => pr.2 * (stp x.ss pr.1).r * (P / (stp x.ss pr.1).m) | none => 0).sum = Lr P (psub x.ss x.prs) (pnum x.prs) := by
      rw [range_map_of (g := fun pr => pr.2 * (stp x.ss pr.1).r * (P / (stp x.ss pr.1).m)) hsl (fun j a e => by rw [e]), ← Lr_prs]
      congr 1
      apply List.map_congr_left
      intro pr hpr
      grind
    refine S.ret (U := none) trivial (R.ne rfl (R.mod hP.1 (R.sumN (U := none) (H0 := H') (n := sv.length) (f := fun j => match x.prs[j]? with | some pr => pr.2 * (stp x.ss pr.1).r * (P / (stp x.ss pr.1).m) | none => 0) rfl (by rfl) B.sum (R.lc (own := [("stripe", 11), ("many", 10)]) rfl sc_is_bar.nd (Src.lst (R.var (i := 3) rfl (.inl rfl) rfl) hLsi (fun z => z)) (blkOk_by (N := N_is_bar) (sc := defScope s_is_bar) (by decide +kernel))
      (fun J H6 l6 _ wk => LcK.map (fun j => Is (V.int (match x.prs[j]? with | some pr => pr.2 * (stp x.ss pr.1).r * (P / (stp x.ss pr.1).m) | none => 0))) wk (by omega) l6 trivial (fun i H x H' => yAt_le) (fun H' l' => (l6.trans l').keep _ _ (fun z => z) hLsi) (fun j y Ha Hb hj l' j' yy => ?_)))) (R.var (i := 4) rfl (.inr (.inl rfl)) rfl)) R.int) fun v H6 l6 _ e => k v H6 (((((l13.trans l4).trans l5)).trans l).trans l6) trivial ?_
    · obtain ⟨rfl, hy⟩ := yy
      obtain ⟨pr, T, vs, pc, h1, h2, rfl, h3, h4, h5⟩ := hsv' (((l5.trans l).trans l6).trans l') hy
      have hm := mulok pr h2 _ (hok pr h2).r1
      refine ⟨_, fun s Hb C cl fp => Tg.tup rfl h3 (Tgs.cons (Tg.name sc_is_bar.nd (i := 11) rfl (.inl rfl)) (Tgs.cons (Tg.name sc_is_bar.nd (i := 10) rfl (.inl rfl)) Tgs.nil)), rfl, fun s Hb C cl fp => ?_⟩
      rw [h1]
      refine R.mul hm.2 (R.mul hm.1 (R.var (i := 10) rfl (.inl rfl) rfl) (R.ixT (v := .int (stp x.ss pr.1).r) h4 rfl (R.var (i := 11) rfl (.inl rfl) rfl) R.int)) (R.fdiv (wide_div (b := 8000) (hok pr h2).m0 (hok pr h2).mb (by decide) (by decide)) (R.var (i := 4) rfl (.inr (.inl rfl)) rfl) (R.ixT (v := .int (stp x.ss pr.1).m) h4 rfl (R.var (i := 11) rfl (.inl rfl) rfl) R.int))
    · rw [e, ne_int, hsum, decide_eq_true (show Lr P (psub x.ss x.prs) (pnum x.prs) % P ≠ 0 from fun z => hBP.2.2 (Int.dvd_of_emod_eq_zero z))]; rfl
end K62
end
section
set_option Elab.async false
set_option linter.all false
set_option maxRecDepth 100000
set_option maxHeartbeats 4000000
set_option exponentiation.threshold 100
namespace K62
open PySem PySem.Spec PyProof.Rows L2
variable {P : Program} {w : World} {K : PySem.W.Frag} {mg : Str → Option Value} {base : Heap}
theorem notT {X : Cx} {U : UA} {σ : L2.St} {H : Hp} {a : Expr} {pos : Pos} {P : VP} (h : R X U a σ H (Is (.bl true))) (he : Plain X a := by intro _; rfl) : RT X U (.UnaryOp .Not a pos) σ H (· = false) := (RT.not (φ := (· = true)) (RT.is h he)).imp fun k e => by rw [← Bool.not_not k, e]; rfl
abbrev sp_are_stripes : Sp := FSp (α := StA) nU (fun x vs H => ∃ v, vs = [v] ∧ TupR StR x.ss v H ∧ x.Ok) (fun _ => Is (.bl true))
theorem ok_are_stripes (F : DefAt K mg "are_stripes" s_are_stripes ps_are_stripes) (B : Bln mg) (Cs : Cst mg) (C1 : Callee P w K mg base 5 "is_stripe_row" ps_is_stripe_row sp_is_stripe_row) : Callee P w K mg base 6 "are_stripes" ps_are_stripes sp_are_stripes := by
  refine callee_of F sc_are_stripes (fun vs H Q E h => ?_) fun f cdv A outer s H vs Q E hr h => ?_
  · obtain ⟨a, _, ⟨v, rfl, _⟩, _⟩ := h; rfl
  obtain ⟨x, _, ⟨v, rfl, ⟨p, us, rfl, hp, hrep⟩, O⟩, k⟩ := h
  have hul : us.length = x.ss.length := hrep.1
  have n1 := O.n1
  have n12 := O.n12
  obtain ⟨t1, mS⟩ := Cs.MOST_STRIPES
  refine S.if (U := none) trivial (RW.pt (RW.orB (p := false) (q := false) (notT (P := Is .non) (R.isi (k := true) (fun H1 l => .base (.tup (l.tup _ _ hp))) (kit_ty (by decide +kernel)) (by rfl) B.isinstance (R.var (i := 0) rfl (.inr (.inl rfl)) rfl) (R.bltn (by rfl) B.tuple PyProof.Rows.boot_tuple rfl)))
    (fun _ => RW.or1 ((RT.not (φ := (· = true)) ((RT.chain op_le op_le R.int (R.lenT (by rfl) B.len hp (R.var (i := 0) rfl (.inr (.inl rfl)) rfl)) (R.glob (v := .int 12) (by rfl) mS ⟨t1, rfl⟩)).imp fun k e => ?_)).imp fun k e => by rw [← Bool.not_not k, e]; rfl)))) (fun e => Bool.noConfusion (e : true = false)) fun _ H1 l1 _ => S.nil ?_
  · rw [e, decide_eq_true (show (1 : Int) ≤ (us.length : Int) by omega), decide_eq_true (show (us.length : Int) ≤ 12 by omega)]; rfl
  have hp1 := l1.tup _ _ hp
  have hrep1 := hrep.tk l1.tup
  refine S.if (U := none) trivial (notT (P := Is .non) (R.cast (R.allN (U := none) (H0 := H1) (n := us.length) (f := fun i => true) rfl (by rfl) B.all (R.lc (own := [("stripe", 1)]) rfl sc_are_stripes.nd (Src.tup (R.var (i := 0) rfl (.inr (.inl rfl)) rfl) hp1) (blkOk_by (N := N_are_stripes) (sc := defScope s_are_stripes) (by decide +kernel))
      (fun J H2 l2 j wk => LcK.map (fun i => Is (.bl true)) wk (by omega) l2 trivial (fun i H x H' => yAt_le) (fun H' l' => (l2.trans l').tup _ _ hp1) (fun i y H' H'' hi l' j' yy => ?_)))) ?_)) (fun e => Bool.noConfusion (e : true = false)) fun _ H2 l2 _ => S.nil ?_
  · obtain ⟨rfl, hy⟩ := yy
    obtain ⟨st, hst, hR⟩ := (hrep1.tk (l2.trans l').tup).get hy
    refine ⟨_, fun s Hb C cl fp => Tg.name sc_are_stripes.nd (i := 1) rfl (.inl rfl), rfl, fun s Hb C cl fp => R.callP C1 hr (by decide) (by rfl) (RA.last (R.var (i := 1) rfl (.inl rfl) rfl)) ?_⟩
    rintro vs H3 l3 _ ⟨v, r, rfl, rfl, rfl⟩
    exact ⟨(x.x, x.d, st), ⟨_, rfl, Fz.le l3 hR, O.pq, O.vs st (List.mem_of_getElem? hst), O.d1, O.d3⟩, fun v H2 _ _ e => e⟩
  · congr 1
    rw [List.all_eq_true]; intro _ _; rfl
  have hp2 := (l1.trans l2).tup _ _ hp
  have hrep2 := hrep.tk (l1.trans l2).tup
  obtain ⟨u0, hu0, p0, vc0, rfl, hp0, pc0, rfl, hpc0⟩ := hrep2.of (List.getElem?_eq_getElem (show 0 < x.ss.length by omega))
  have hl0 : (x.ss[0]'(by omega)).c.length = x.d := (O.vs _ (List.getElem_mem _)).len
  refine S.ret (U := none) trivial (R.cast (R.allN (U := none) (H0 := H2) (n := us.length) (f := fun i => true) rfl (by rfl) B.all (R.lc (own := [("stripe", 1)]) rfl sc_are_stripes.nd (Src.tup (R.var (i := 0) rfl (.inr (.inl rfl)) rfl) hp2) (blkOk_by (N := N_are_stripes) (sc := defScope s_are_stripes) (by decide +kernel))
      (fun J H3 l3 j wk => LcK.map (fun i => Is (.bl true)) wk (by omega) l3 trivial (fun i H x H' => yAt_le) (fun H' l' => (l3.trans l').tup _ _ hp2) (fun i y H' H'' hi l' j' yy => ?_)))) ?_) fun v H3 l3 _ e => k v H3 ((l1.trans l2).trans l3) trivial e
  · obtain ⟨rfl, hy⟩ := yy
    have l3' := l3.trans l'
    obtain ⟨st, hst, q, vc, rfl, hq, pc, rfl, hpc⟩ := (hrep2.tk l3'.tup).get hy
    have hl := (O.vs st (List.mem_of_getElem? hst)).len
    refine ⟨_, fun s Hb C cl fp => Tg.name sc_are_stripes.nd (i := 1) rfl (.inl rfl), rfl, fun s Hb C cl fp => R.cast (R.eq rfl (R.lenT (by rfl) B.len hpc (R.ixT (v := .ref pc) hq rfl (R.var (i := 1) rfl (.inl rfl) rfl) R.int)) (R.lenT (by rfl) B.len (l3'.tup _ _ hpc0) (R.ixT (v := .ref pc0) (l3'.tup _ _ hp0) rfl (R.ixT (l3'.tup _ _ hp2) (atI_nat (j := 0) hu0) (R.var (i := 0) rfl (.inr (.inl rfl)) rfl) R.int) R.int))) ?_⟩
    rw [List.length_map, List.length_map, hl, hl0]
    simp
  · congr 1
    rw [List.all_eq_true]; intro _ _; rfl
abbrev sp_need_stripe_row : Sp := FSp (α := StA) nU (fun x vs H => ∃ v, vs = [v] ∧ TupR StR x.ss v H ∧ x.Ok) (fun x => Is (.int x.d))
theorem ok_need_stripe_row (F : DefAt K mg "need_stripe_row" s_need_stripe_row ps_need_stripe_row) (B : Bln mg) (C1 : Callee P w K mg base 6 "are_stripes" ps_are_stripes sp_are_stripes) : Callee P w K mg base 7 "need_stripe_row" ps_need_stripe_row sp_need_stripe_row := by
  refine callee_of F sc_need_stripe_row (fun vs H Q E h => ?_) fun f cdv A outer s H vs Q E hr h => ?_
  · obtain ⟨a, _, ⟨v, rfl, _⟩, _⟩ := h; rfl
  obtain ⟨x, _, ⟨v, rfl, ⟨p, us, rfl, hp, hrep⟩, O⟩, k⟩ := h
  have n1 := O.n1
  refine S.if (U := none) trivial (notT (P := Is .non) (R.callP C1 hr (by decide) (by rfl) (RA.last (R.var (i := 0) rfl (.inl rfl) rfl)) ?_)) (fun e => Bool.noConfusion (e : true = false)) fun _ H1 l1 _ => S.nil ?_
  · rintro vs H3 l3 _ ⟨v, r, rfl, rfl, rfl⟩
    exact ⟨x, ⟨_, rfl, ⟨p, us, rfl, l3.tup _ _ hp, hrep.tk l3.tup⟩, O⟩, fun v H2 _ _ e => e⟩
  obtain ⟨u0, hu0, p0, vc0, rfl, hp0, pc0, rfl, hpc0⟩ := (hrep.tk l1.tup).of (List.getElem?_eq_getElem (show 0 < x.ss.length by omega))
  refine S.ret (U := none) trivial (R.lenT (by rfl) B.len hpc0 (R.ixT (v := .ref pc0) hp0 rfl (R.ixT (l1.tup _ _ hp) (atI_nat (j := 0) hu0) (R.var (i := 0) rfl (.inl rfl) rfl) R.int) R.int)) fun v H3 l3 _ e => k v H3 (l1.trans l3) trivial ?_
  rw [e, List.length_map, (O.vs _ (List.getElem_mem _)).len]
  rfl

/-! ### papers -/
inductive Ppr where
  | meet (cell : Row)
  | never (prs : List (Nat × Int))
def PpR : Ppr → VP
  | .meet cell => fun v H => ∃ T vc, v = .ref T ∧ H T = some (.tup [.str "meet", vc]) ∧ TpI cell vc H
  | .never prs => fun v H => ∃ T vb, v = .ref T ∧ H T = some (.tup [.str "never", vb]) ∧ TupR PrR prs vb H
instance {p : Ppr} : Fz (PpR p) := by
  cases p
  · exact ⟨fun _ _ _ t ⟨T, vc, e, h, r⟩ => ⟨T, vc, e, t T _ h, Fz.mv _ _ _ t r⟩⟩
  · exact ⟨fun _ _ _ t ⟨T, vc, e, h, r⟩ => ⟨T, vc, e, t T _ h, Fz.mv _ _ _ t r⟩⟩
def PpOk (d : Nat) (ss : List Stp) : Ppr → Prop
  | .meet cell => cell.length = d ∧ (∀ s ∈ ss, On s cell) ∧ ∀ y ∈ cell, y.natAbs ≤ 2 ^ 7000
  | .never prs => Bar d ss prs ∧ prs.length ≤ d + 1 ∧ ¬ Meets d ss
abbrev sp_judge_meeting : Sp := FSp (α := StA) nU (fun x vs H => ∃ v, vs = [v] ∧ TupR StR x.ss v H ∧ x.Ok) (fun x v H => ∃ pp, PpR pp v H ∧ PpOk x.d x.ss pp)
theorem rgV_nvs (n : Nat) : rgV 0 (n : Int) = nvs (List.range n) := by
  unfold rgV nvs
  rw [Int.sub_zero, Int.toNat_natCast]
  apply List.map_congr_left
  intro i _
  rw [Int.zero_add]
/-- a def whose function object is told -/
theorem fnok_of {x : Str} {st : Stmt} {N ps : List Str} {k : Nat} {sp : Sp} {f : Addr} {fd : FuncData} (F : Fun K x x st f fd) (Sc : FnScope N ps (defScope st)) (len : ∀ vs H Q E, sp vs H Q E → vs.length = ps.length)
    (body : ∀ (f : Addr) (cdv : Value) (A : Around) (outer : List Env) (s : Shared) (H : Hp) (vs : List V) (Q : VK) (E : XK), Room k (A.deeper (envOfC x (defScope st) s.heap.objs.size f cdv)) → sp vs H Q E →
      S (cxOf CX0 P w K mg base N x (defScope st) f cdv A outer s H E).nox (defBody st) (start N vs) H { nx := fun _ H' => Q .non H', rt := Q }) : FnOk P w K mg base CX0 (k + 1) f fd ps sp :=
  F.ok Sc len fun cdv A outer s H vs Q E hr h => ⟨_, body f cdv A outer s H vs Q E hr h, rfl, rfl, rfl⟩
theorem fn_judge_meeting {f : Addr} {fd : FuncData} (F : Fun K "judge_meeting" "judge_meeting" s_judge_meeting f fd) (B : Bln mg) (Cs : Cst mg) (C1 : Callee P w K mg base 7 "need_stripe_row" ps_need_stripe_row sp_need_stripe_row) (C2 : Callee P w K mg base 4 "cells_on" ps_cells_on sp_cells_on) (C3 : Callee P w K mg base 6 "bar_among" ps_bar_among sp_bar_among) :
    FnOk P w K mg base CX0 8 f fd ps_judge_meeting sp_judge_meeting := by
  refine fnok_of F sc_judge_meeting (fun vs H Q E h => ?_) fun f cdv A outer s H vs Q E hr h => ?_
  · obtain ⟨a, _, ⟨v, rfl, _⟩, _⟩ := h; rfl
  obtain ⟨x, _, ⟨v, rfl, ⟨p, us, rfl, hp, hrep⟩, O⟩, k⟩ := h
  have hul : us.length = x.ss.length := hrep.1
  have n12 := O.n12
  have hT : ∀ {H'}, Le none H H' → TupR StR x.ss (.ref p) H' := fun l => ⟨p, us, rfl, l.tup _ _ hp, hrep.tk l.tup⟩
  refine S.asgI (U := none) (v := .int x.d) sc_judge_meeting.nd (i := 1) rfl (.inl rfl) trivial (R.callP C1 hr (by decide) (by rfl) (RA.last (R.var (i := 0) rfl (.inl rfl) rfl)) ?_) fun H1 l1 _ => ?_
  · rintro vs H3 l3 _ ⟨v, r, rfl, rfl, rfl⟩
    exact ⟨x, ⟨_, rfl, hT l3, O⟩, fun v H2 _ _ e => e⟩
  refine S.asg (U := none) (P := CoR x.d x.ss 7000) sc_judge_meeting.nd (i := 2) rfl (.inl rfl) trivial (R.callP C2 hr (by decide) (by rfl) (RA.cons (R.var (i := 0) rfl (.inl rfl) rfl) (RA.last (R.var (i := 1) rfl (.inl rfl) rfl))) ?_) ?_
  · rintro vs H3 l3 _ ⟨v, r, rfl, rfl, v', r', rfl, rfl, rfl⟩
    exact ⟨⟨x.d, x.ss⟩, ⟨_, rfl, SeqR.of_tup (hT (l1.trans l3)), O.d1, O.d3, n12, fun s hs => (O.vs s hs).st⟩, fun v H2 _ _ e => e⟩
  rintro v H2 l2 _ hv
  have l12 := l1.trans l2
  show S _ _ [some (.ref p), some (.int x.d), some v] _ _
  refine S.if (U := none) trivial (RT.notNone (R.var (i := 2) rfl (.inl rfl) rfl)) (fun e H3 l3 _ => ?_) (fun e H3 l3 _ => S.nil ?_)
  · rcases hv with ⟨rfl, _⟩ | ⟨T, vc, L, ls, cell, steps, rfl, hTT, hc, hL, hls, hci, hent, hcent⟩
    · exact Bool.noConfusion (e : true = false)
    · obtain ⟨t, mM⟩ := Cs.MEET
      refine S.ret (U := none) (P := fun v H => PpR (.meet cell) v H) trivial (R.tup (RA.cons (R.glob (v := .str "meet") (by rfl) mM ⟨t, rfl⟩) (RA.last (R.ixT (v := vc) (l3.tup _ _ hTT) rfl (R.var (i := 2) rfl (.inl rfl) rfl) R.int))) ?_ ?_) fun v H4 l4 _ hv => k v H4 ((l12.trans l3).trans l4) trivial ⟨_, hv, hci.cl, hci.on, hcent⟩
      · rintro vs H1 ⟨v, r, rfl, _, v', r', rfl, _, rfl⟩; show 2 ≤ sizeLine; decide
      · rintro vs p' H5 l5 _ ⟨v, r, rfl, rfl, v', r', rfl, rfl, rfl⟩ hn
        exact ⟨p', _, rfl, upd_same, Fz.le ((l3.trans l5).trans (Le.new (U := none) trivial hn)) hc⟩
  · rcases hv with ⟨rfl, hcn⟩ | ⟨T, vc, L, ls, cell, steps, rfl, _⟩
    · obtain ⟨t, mN⟩ := Cs.NEVER
      refine S.ret (U := none) (P := fun v H => ∃ prs, PpR (.never prs) v H ∧ Bar x.d x.ss prs ∧ prs.length ≤ x.d + 1) trivial (R.tup (RA.cons (R.glob (v := .str "never") (by rfl) mN ⟨t, rfl⟩) (RA.last (R.callP (P := BarR x.d x.ss (x.d + 1)) C3 hr (by decide) (by rfl) (RA.cons (R.var (i := 0) rfl (.inl rfl) rfl) (RA.cons (R.var (i := 1) rfl (.inl rfl) rfl) (RA.last (P := fun v H => ∃ q, v = .ref q ∧ H q = some (.lst (nvs (List.range x.ss.length)))) (R.of (pe_listRg rfl (by rfl) B.list (prg_1 (by rfl) B.range (R.lenT (U := none) (σ := [some (.ref p), some (.int x.d), some .non]) (H := H3) (by rfl) B.len ((l12.trans l3).tup _ _ hp) (R.var (i := 0) rfl (.inl rfl) rfl)))) ?_)))) ?_))) ?_ ?_) fun v H4 l4 _ ⟨prs, h1, h2, h3⟩ => k v H4 ((l12.trans l3).trans l4) trivial ⟨_, h1, h2, h3, hcn.no fun s hs => (O.vs s hs).pos⟩
      · intro H4 l4 j4 Q' q'
        refine ⟨rfl, l4, j4, fun v H5 l5 j5 e => ⟨_, e, RgOk.of_le (by omega) (by omega) (by omega) (by omega), fun q hq => q' _ _ (l5.trans (Le.new j5 hq)) trivial ⟨q, rfl, ?_⟩⟩⟩
        rw [upd_same, hul, rgV_nvs]
      · rintro vs H4 l4 _ ⟨v1, r1, rfl, rfl, v2, r2, rfl, rfl, v3, r3, rfl, ⟨q, rfl, hq⟩, rfl⟩
        exact ⟨x, ⟨_, q, rfl, hT ((l12.trans l3).trans l4), hq, O, hcn⟩, fun v H2 _ _ e => e⟩
      · rintro vs H1 ⟨v, r, rfl, _, v', r', rfl, _, rfl⟩; show 2 ≤ sizeLine; decide
      · rintro vs p' H5 l5 _ ⟨v, r, rfl, rfl, v', r', rfl, ⟨prs, h1, h2, h3⟩, rfl⟩ hn
        exact ⟨prs, ⟨p', _, rfl, upd_same, Fz.le (Le.new (U := none) trivial hn) h1⟩, h2, h3⟩
    · exact Bool.noConfusion (e : false = true)

def onB (s : Stp) (x : Row) : Bool := decide ((dot s.c x - s.r) % s.m = 0)
theorem onB_iff {s : Stp} {x : Row} : onB s x = true ↔ On s x := by
  unfold onB On
  rw [decide_eq_true_iff]
  exact ⟨Int.dvd_of_emod_eq_zero, Int.emod_eq_zero_of_dvd⟩
def holdsB (ss : List Stp) : Ppr → Bool
  | .meet cell => ss.all fun s => onB s cell
  | .never _ => true
def HoPre (d : Nat) (ss : List Stp) : Ppr → Prop
  | .meet cell => cell.length = d ∧ Bd 400000 cell
  | .never prs => Bar d ss prs ∧ prs.length ≤ d + 1
abbrev sp_meeting_holds : Sp := FSp (α := StA × Ppr) nU (fun x vs H => ∃ v w, vs = [v, w] ∧ TupR StR x.1.ss v H ∧ PpR x.2 w H ∧ x.1.Ok ∧ HoPre x.1.d x.1.ss x.2) (fun x => Is (.bl (holdsB x.1.ss x.2)))
theorem ok_meeting_holds (F : DefAt K mg "meeting_holds" s_meeting_holds ps_meeting_holds) (B : Bln mg) (Cs : Cst mg) (C1 : Callee P w K mg base 7 "need_stripe_row" ps_need_stripe_row sp_need_stripe_row) (C2 : Callee P w K mg base 4 "is_cell_of" ps_is_cell_of sp_is_cell_of) (C3 : Callee P w K mg base 2 "lies_on" ps_lies_on sp_lies_on) (C4 : Callee P w K mg base 3 "is_bar" ps_is_bar sp_is_bar) :
    Callee P w K mg base 8 "meeting_holds" ps_meeting_holds sp_meeting_holds := by
  refine callee_of F sc_meeting_holds (fun vs H Q E h => ?_) fun f cdv A outer s H vs Q E hr h => ?_
  · obtain ⟨a, _, ⟨v, w', rfl, _⟩, _⟩ := h; rfl
  obtain ⟨⟨x, pp⟩, _, ⟨v, w', rfl, ⟨p, us, rfl, hp, hrep⟩, hpp, O, hpre⟩, k⟩ := h
  have O : x.Ok := O
  have d1 := O.d1
  have d3 := O.d3
  have n12 := O.n12
  have hul : us.length = x.ss.length := hrep.1
  have hT : ∀ {H'}, Le none H H' → TupR StR x.ss (.ref p) H' := fun l => ⟨p, us, rfl, l.tup _ _ hp, hrep.tk l.tup⟩
  obtain ⟨t1, mM⟩ := Cs.MEET
  obtain ⟨t2, mN⟩ := Cs.NEVER
  obtain ⟨T, z, v1, rfl, hTT⟩ : ∃ T z v1, w' = .ref T ∧ H T = some (.tup [.str z, v1]) := by
    cases pp with
    | meet cell => obtain ⟨T, vc, e, h, _⟩ := hpp; exact ⟨T, _, _, e, h⟩
    | never prs => obtain ⟨T, vc, e, h, _⟩ := hpp; exact ⟨T, _, _, e, h⟩
  refine S.asgI (U := none) (v := .int x.d) sc_meeting_holds.nd (i := 2) rfl (.inl rfl) trivial (R.callP C1 hr (by decide) (by rfl) (RA.last (R.var (i := 0) rfl (.inl rfl) rfl)) ?_) fun H1 l1 _ => ?_
  · rintro vs H3 l3 _ ⟨v, r, rfl, rfl, rfl⟩
    exact ⟨x, ⟨_, rfl, hT l3, O⟩, fun v H2 _ _ e => e⟩
  have hT1 := l1.tup _ _ hTT
  refine S.if (U := none) trivial (RW.pt (RW.orB (p := false) (q := false) (notT (P := Is .non) (R.isi (k := true) (fun H1 l => .base (.tup (l.tup _ _ hT1))) (kit_ty (by decide +kernel)) (by rfl) B.isinstance (R.var (i := 1) rfl (.inr (.inl rfl)) rfl) (R.bltn (by rfl) B.tuple PyProof.Rows.boot_tuple rfl)))
    (fun _ => RW.orB (p := false) (q := false) (RT.ne rfl (R.lenT (by rfl) B.len hT1 (R.var (i := 1) rfl (.inr (.inl rfl)) rfl)) R.int) (fun _ => RW.or1 (notT (P := Is .non) (R.isi (x := .str z) (k := true) (fun H1 l => .base (.str z)) (kit_ty (by decide +kernel)) (by rfl) B.isinstance (R.ixT (v := .str z) hT1 rfl (R.var (i := 1) rfl (.inr (.inl rfl)) rfl) R.int) (R.bltn (by rfl) B.str PyProof.Rows.boot_str rfl))))))) (fun e => Bool.noConfusion (e : true = false)) fun _ H2 l2 _ => S.nil ?_
  have hT2 := l2.tup _ _ hT1
  have l12 := l1.trans l2
  refine S.if (U := none) trivial (RT.eq rfl (R.ixT (v := .str z) hT2 rfl (R.var (i := 1) rfl (.inr (.inl rfl)) rfl) R.int) (R.glob (v := .str "meet") (by rfl) mM ⟨t1, rfl⟩)) (fun e H3 l3 _ => ?_) (fun e H3 l3 _ => S.nil ?_)
  · cases pp with
    | never prs =>
      obtain ⟨T', vb, e', h, _⟩ := hpp
      cases e'
      rw [hTT] at h
      cases h
      exact Bool.noConfusion (e : true = false)
    | meet cell =>
      obtain ⟨T', vc, e', h, hc⟩ := hpp
      cases e'
      rw [hTT] at h
      cases h
      obtain ⟨hcl, hcb⟩ := hpre
      have hcl : cell.length = x.d := hcl
      have l13 := l12.trans l3
      have hT3 := l3.tup _ _ hT2
      have hp3 := l13.tup _ _ hp
      refine S.ret (U := none) trivial (R.andB (p := true) (R.callP C2 hr (by decide) (by rfl) (RA.cons (R.ixT (v := v1) hT3 rfl (R.var (i := 1) rfl (.inr (.inl rfl)) rfl) R.int) (RA.last (R.var (i := 2) rfl (.inl rfl) rfl))) ?_) (fun _ => R.one (R.allN (U := none) (H0 := H3) (n := us.length) (f := fun i => match x.ss[i]? with | some st => onB st cell | none => false) rfl (by rfl) B.all (R.lc (own := [("stripe", 3)]) rfl sc_meeting_holds.nd (Src.tup (R.var (i := 0) rfl (.inl rfl) rfl) hp3) (blkOk_by (N := N_meeting_holds) (sc := defScope s_meeting_holds) (by decide +kernel))
        (fun J H4 l4 j wk => LcK.map (fun i => Is (.bl (match x.ss[i]? with | some st => onB st cell | none => false))) wk (by omega) l4 trivial (fun i H x H' => yAt_le) (fun H' l' => (l4.trans l').tup _ _ hp3) (fun i y H' H'' hi l' j' yy => ?_)))))) fun v H4 l4 _ e => k v H4 (l13.trans l4) trivial ?_
      · rintro vs H4 l4 _ ⟨v, r, rfl, rfl, v', r', rfl, rfl, rfl⟩
        exact ⟨(cell, x.d), ⟨_, rfl, Fz.le (l13.trans l4) hc, by show 1 ≤ cell.length; omega, by show cell.length ≤ 3; omega, hcl⟩, fun v H2 _ _ e => e⟩
      · obtain ⟨rfl, hy⟩ := yy
        have l4' := l4.trans l'
        obtain ⟨st, hst, hR⟩ := (hrep.tk (l13.trans l4').tup).get hy
        have hso := (O.vs st (List.mem_of_getElem? hst)).st
        refine ⟨_, fun s Hb C cl fp => Tg.name sc_meeting_holds.nd (i := 3) rfl (.inl rfl), rfl, fun s Hb C cl fp => R.callP C3 hr (by decide) (by rfl) (RA.cons (R.var (i := 3) rfl (.inl rfl) rfl) (RA.last (R.ixT (v := v1) (l4'.tup _ _ hT3) rfl (R.var (i := 1) rfl (.inr (.inl rfl)) rfl) R.int))) ?_⟩
        rintro vs H5 l5 _ ⟨v, r, rfl, rfl, v', r', rfl, rfl, rfl⟩
        refine ⟨(st, cell), ⟨_, _, rfl, Fz.le l5 hR, Fz.le ((l13.trans l4').trans l5) hc, hso.m0, by show st.c.length ≤ 1000; rw [hso.len]; omega, bd_cs hso, hcb⟩, fun v H2 _ _ e => ?_⟩
        rw [hst]; exact e
      · rw [e, hul]
        show V.bl _ = V.bl _
        congr 1
        show (true && _) = x.ss.all _
        rw [Bool.true_and, Bool.eq_iff_iff, List.all_eq_true, List.all_eq_true]
        constructor
        · intro h s hs
          obtain ⟨i, hi, rfl⟩ := List.mem_iff_getElem.mp hs
          have := h i (List.mem_range.mpr hi)
          rwa [List.getElem?_eq_getElem hi] at this
        · intro h i hi
          have hi := List.mem_range.mp hi
          rw [List.getElem?_eq_getElem hi]
          exact h _ (List.getElem_mem hi)
  · cases pp with
    | meet cell =>
      obtain ⟨T', vb, e', h, _⟩ := hpp
      cases e'
      rw [hTT] at h
      cases h
      exact absurd (e : false = true) (by decide)
    | never prs =>
      obtain ⟨T', vc, e', h, hc⟩ := hpp
      cases e'
      rw [hTT] at h
      cases h
      have l13 := l12.trans l3
      have hT3 := l3.tup _ _ hT2
      refine S.ret (U := none) trivial (R.andB (p := true) (R.cast (R.eq rfl (R.ixT (v := .str "never") hT3 rfl (R.var (i := 1) rfl (.inr (.inl rfl)) rfl) R.int) (R.glob (v := .str "never") (by rfl) mN ⟨t2, rfl⟩)) (by simp)) (fun _ => R.one (R.callP C4 hr (by decide) (by rfl) (RA.cons (R.var (i := 0) rfl (.inl rfl) rfl) (RA.cons (R.var (i := 2) rfl (.inl rfl) rfl) (RA.last (R.ixT (v := v1) hT3 rfl (R.var (i := 1) rfl (.inr (.inl rfl)) rfl) R.int)))) ?_))) fun v H4 l4 _ e => k v H4 (l13.trans l4) trivial e
      rintro vs H4 l4 _ ⟨v, r, rfl, rfl, v', r', rfl, rfl, v'', r'', rfl, rfl, rfl⟩
      exact ⟨⟨x.d, x.ss, prs⟩, ⟨_, _, rfl, hT (l13.trans l4), Fz.le (l13.trans l4) hc, d3, fun s hs => (O.vs s hs).st, hpre.1, hpre.2⟩, fun v H2 _ _ e => e⟩
abbrev sp_do_meet : Sp := FSp (α := StA) nU (fun x vs H => ∃ v, vs = [v] ∧ TupR StR x.ss v H ∧ x.Ok) (fun x => Vq fun v => ∃ b, v = .bl b ∧ (b = true ↔ Meets x.d x.ss))
theorem ok_do_meet (F : DefAt K mg "do_meet" s_do_meet ps_do_meet) (B : Bln mg) (C1 : Callee P w K mg base 7 "need_stripe_row" ps_need_stripe_row sp_need_stripe_row) (C2 : Callee P w K mg base 4 "cells_on" ps_cells_on sp_cells_on) : Callee P w K mg base 8 "do_meet" ps_do_meet sp_do_meet := by
  refine callee_of F sc_do_meet (fun vs H Q E h => ?_) fun f cdv A outer s H vs Q E hr h => ?_
  · obtain ⟨a, _, ⟨v, rfl, _⟩, _⟩ := h; rfl
  obtain ⟨x, _, ⟨v, rfl, ⟨p, us, rfl, hp, hrep⟩, O⟩, k⟩ := h
  have hT : ∀ {H'}, Le none H H' → TupR StR x.ss (.ref p) H' := fun l => ⟨p, us, rfl, l.tup _ _ hp, hrep.tk l.tup⟩
  refine S.ret (U := none) (P := Vq fun v => ∃ b, v = .bl b ∧ (b = true ↔ Meets x.d x.ss)) trivial (R.cmpv op_notN (nomark _) (Pb := Is .non) (Pa := Vq fun v => (v = .non ∧ ¬ Meets x.d x.ss) ∨ ∃ T, v = .ref T ∧ Meets x.d x.ss) (R.callP C2 hr (by decide) (by rfl) (RA.cons (R.var (i := 0) rfl (.inl rfl) rfl) (RA.last (P := Is (.int x.d)) (R.callP C1 hr (by decide) (by rfl) (RA.last (R.var (i := 0) rfl (.inl rfl) rfl)) ?_))) ?_) R.non ?_) fun v H1 l _ h => k v H1 l trivial h
  · rintro vs H3 l3 _ ⟨v, r, rfl, rfl, rfl⟩
    exact ⟨x, ⟨_, rfl, hT l3, O⟩, fun v H2 _ _ e => e⟩
  · rintro vs H3 l3 _ ⟨v, r, rfl, rfl, v', r', rfl, rfl, rfl⟩
    refine ⟨⟨x.d, x.ss⟩, ⟨_, rfl, SeqR.of_tup (hT l3), O.d1, O.d3, O.n12, fun s hs => (O.vs s hs).st⟩, fun v H2 _ _ h => ?_⟩
    rcases h with ⟨e, h⟩ | ⟨T, vc, L, us, cell, steps, e, h1, h2, h3, h4, h5, h6⟩
    · exact .inl ⟨e, h.no fun s hs => (O.vs s hs).pos⟩
    · exact .inr ⟨T, e, h5.meets⟩
  · rintro a b H5 l5 _ hx rfl Q q
    rcases hx with ⟨rfl, h⟩ | ⟨T, rfl, h⟩
    · exact ⟨rfl, q _ H5 (Le.refl _) trivial ⟨false, rfl, by simpa using h⟩⟩
    · exact ⟨rfl, q _ H5 (Le.refl _) trivial ⟨true, rfl, by simpa using h⟩⟩
end K62
end
section
set_option Elab.async false
set_option linter.all false
set_option maxRecDepth 100000
set_option maxHeartbeats 4000000
namespace K62
open PySem PySem.Spec PyProof.Rows L2
/-! ### data compared with nothing -/
def okd (n : Nat) (d : PyData) : Prop := d.canLay0 = true ∧ d.depth ≤ n
theorem okd_all {n : Nat} : ∀ {ds : List PyData}, (∀ d ∈ ds, okd n d) → PyData.canLayAll0 ds = true ∧ PyData.depthAll ds ≤ n
  | [], _ => by simp [PyData.canLayAll0, PyData.depthAll]
  | d :: ds, h => by
    obtain ⟨h1, h2⟩ := okd_all (ds := ds) fun e he => h e (List.mem_cons_of_mem _ he)
    obtain ⟨h3, h4⟩ := h d (List.mem_cons_self ..)
    simp only [PyData.canLayAll0, PyData.depthAll, h1, h3]
    exact ⟨rfl, by omega⟩
theorem okd_int {n : Nat} {i : Int} : okd n (.int i) := ⟨by simp [PyData.canLay0], by simp [PyData.depth]⟩
theorem okd_list {n : Nat} {ds : List PyData} (h : ∀ d ∈ ds, okd n d) : okd (n + 1) (.list ds) := by
  obtain ⟨h1, h2⟩ := okd_all h
  exact ⟨by simp only [PyData.canLay0]; exact h1, by simp only [PyData.depth]; omega⟩
theorem okd_tup {n : Nat} {ds : List PyData} (h : ∀ d ∈ ds, okd n d) : okd (n + 1) (.tuple ds) := by
  obtain ⟨h1, h2⟩ := okd_all h
  exact ⟨by simp only [PyData.canLay0]; exact h1, by simp only [PyData.depth]; omega⟩
theorem okd_shaped {n : Nat} {d : PyData} (h : okd n d) (hn : n ≤ 64) : SeqAt.shaped d = true := by
  unfold SeqAt.shaped
  rw [h.1, decide_eq_true (show d.depth ≤ 64 from Nat.le_trans h.2 hn)]; rfl
theorem dp_ints {K : PySem.W.Frag} {H : Hp} : ∀ ns : List Int, DpAll K H (ns.map V.int) (ns.map PyData.int)
  | [] => .nil
  | n :: ns => .cons (.int n) (dp_ints ns)
/-- what has data -/
def Dtm (n : Nat) (H : Hp) (v : V) : Prop := ∀ K, ∃ d, Dp K H v d ∧ okd n d
theorem Dtm.all {n : Nat} {H : Hp} : ∀ {vs : List V}, (∀ v ∈ vs, Dtm n H v) → ∀ K, ∃ ds, DpAll K H vs ds ∧ (∀ d ∈ ds, okd n d) ∧ ds.length = vs.length
  | [], _, K => ⟨[], .nil, (fun d hd => nomatch hd), rfl⟩
  | v :: vs, h, K => by
    obtain ⟨d, h1, h2⟩ := h v (List.mem_cons_self ..) K
    obtain ⟨ds, h3, h4, h5⟩ := Dtm.all (vs := vs) (fun u hu => h u (List.mem_cons_of_mem _ hu)) K
    refine ⟨d :: ds, .cons h1 h3, fun e he => ?_, by simp [h5]⟩
    rcases List.mem_cons.mp he with rfl | he
    · exact h2
    · exact h4 e he
theorem Dtm.int {n : Nat} {H : Hp} {i : Int} : Dtm n H (.int i) := fun K => ⟨_, .int i, okd_int⟩
theorem Dtm.tup {n : Nat} {H : Hp} {p : Addr} {vs : List V} (hp : H p = some (.tup vs)) (h : ∀ v ∈ vs, Dtm n H v) : Dtm (n + 1) H (.ref p) := fun K => by
  obtain ⟨ds, h1, h2, _⟩ := Dtm.all h K
  exact ⟨_, .tup (.inl (.inl hp)) h1, okd_tup h2⟩
theorem Dtm.ints {n : Nat} {H : Hp} {l : List Int} : ∀ v ∈ l.map V.int, Dtm n H v := fun v hv => by
  obtain ⟨i, _, rfl⟩ := List.mem_map.mp hv
  exact Dtm.int
theorem Dtm.str3 {s : Stp} {v : V} {H : Hp} (h : StR s v H) : Dtm 2 H v := by
  obtain ⟨p, vc, rfl, hp, pc, rfl, hpc⟩ := h
  refine Dtm.tup hp fun u hu => ?_
  rcases List.mem_cons.mp hu with rfl | hu
  · exact Dtm.int
  · rcases List.mem_cons.mp hu with rfl | hu
    · exact Dtm.tup hpc Dtm.ints
    · rcases List.mem_cons.mp hu with rfl | hu
      · exact Dtm.int
      · cases hu
section
variable {X : Cx} {U : UA} {σ : L2.St} {H : Hp} {e a b c : Expr} {es : List Expr} {P Pa Pb : VP} {pos q p2 : Pos} {rest : List Stmt} {D : Ends}
theorem eqv_nil : ∀ ds : List PyData, PyData.eqv (.list ds) (.list []) = ds.isEmpty
  | [] => by simp [PyData.eqv, PyData.eqvAll]
  | d :: ds => by simp [PyData.eqv, PyData.eqvAll]
theorem eqv_nilT : ∀ ds : List PyData, PyData.eqv (.tuple ds) (.tuple []) = ds.isEmpty
  | [] => by simp [PyData.eqv, PyData.eqvAll]
  | d :: ds => by simp [PyData.eqv, PyData.eqvAll]
/-- a list of data, told by what it holds -/
def LsD (n : Nat) (φ : List V → Prop) : VP := fun v H => ∃ p vs, v = .ref p ∧ H p = some (.lst vs) ∧ φ vs ∧ ∀ u ∈ vs, Dtm n H u
/-- xs != [], xs == [] -/
theorem RT.neNil {φ : List V → Prop} {ψ : Bool → Prop} {n : Nat} (hn : n < 64) (hu : X.A.units + 64 < cLine) (st : ∀ v H1 H2, Le U H H1 → Le U H1 H2 → Pa v H1 → Pa v H2) (ha : R X U a σ H Pa) (hp : ∀ v H1, Le U H H1 → Pa v H1 → LsD n φ v H1) (w : ∀ vs, φ vs → ψ (!vs.isEmpty)) : RT X U (.Compare a [.NotEq] [.List [] q] pos) σ H ψ :=
  RT.of (pt_cmpR (op_neD hu) ha (R.lst (U := U) (σ := σ) (H := H) (P := fun v H => ∃ p, v = .ref p ∧ H p = some (.lst [])) RA.nil (fun vs H1 e => by cases e; exact Nat.zero_le _) (fun vs p H1 _ _ e _ => by cases e; exact ⟨p, rfl, upd_same⟩)) (nomark _)) fun H1 l j Q k => ⟨rfl, l, j, fun x H2 l2 j2 px => ⟨rfl, l.trans l2, j2, fun y H3 l3 j3 ⟨p', e', h'⟩ => by
    obtain ⟨p, vs, rfl, h, hφ, hd⟩ := hp x H3 ((l.trans l2).trans l3) (st x H2 H3 (l.trans l2) l3 px)
    subst e'
    obtain ⟨ds, d1, d2, d3⟩ := Dtm.all hd X.K
    refine ⟨.list ds, .list [], .lst (.inl (.inl h)) d1, .lst (.inl (.inl h')) .nil, okd_shaped (okd_list d2) (by omega), okd_shaped (n := 1) (okd_list (n := 0) fun d hd => nomatch hd) (by decide), ?_⟩
    rw [eqv_nil]
    have e : (!ds.isEmpty) = !vs.isEmpty := by cases ds <;> cases vs <;> simp_all
    rw [e]
    exact ⟨_, rfl, k _ H3 (l2.trans l3) j3 (w vs hφ)⟩⟩⟩
theorem RT.eqNil {φ : List V → Prop} {ψ : Bool → Prop} {n : Nat} (hn : n < 64) (hu : X.A.units + 64 < cLine) (st : ∀ v H1 H2, Le U H H1 → Le U H1 H2 → Pa v H1 → Pa v H2) (ha : R X U a σ H Pa) (hp : ∀ v H1, Le U H H1 → Pa v H1 → LsD n φ v H1) (w : ∀ vs, φ vs → ψ vs.isEmpty) : RT X U (.Compare a [.Eq] [.List [] q] pos) σ H ψ :=
  RT.of (pt_cmpR (op_eqD hu) ha (R.lst (U := U) (σ := σ) (H := H) (P := fun v H => ∃ p, v = .ref p ∧ H p = some (.lst [])) RA.nil (fun vs H1 e => by cases e; exact Nat.zero_le _) (fun vs p H1 _ _ e _ => by cases e; exact ⟨p, rfl, upd_same⟩)) (nomark _)) fun H1 l j Q k => ⟨rfl, l, j, fun x H2 l2 j2 px => ⟨rfl, l.trans l2, j2, fun y H3 l3 j3 ⟨p', e', h'⟩ => by
    obtain ⟨p, vs, rfl, h, hφ, hd⟩ := hp x H3 ((l.trans l2).trans l3) (st x H2 H3 (l.trans l2) l3 px)
    subst e'
    obtain ⟨ds, d1, d2, d3⟩ := Dtm.all hd X.K
    refine ⟨.list ds, .list [], .lst (.inl (.inl h)) d1, .lst (.inl (.inl h')) .nil, okd_shaped (okd_list d2) (by omega), okd_shaped (n := 1) (okd_list (n := 0) fun d hd => nomatch hd) (by decide), ?_⟩
    rw [eqv_nil]
    have e : ds.isEmpty = vs.isEmpty := by cases ds <;> cases vs <;> simp_all
    rw [e]
    exact ⟨_, rfl, k _ H3 (l2.trans l3) j3 (w vs hφ)⟩⟩⟩
/-- the same as values -/
theorem R.eqNil {φ : List V → Prop} {n : Nat} (hn : n < 64) (hu : X.A.units + 64 < cLine) (st : ∀ v H1 H2, Le U H H1 → Le U H1 H2 → Pa v H1 → Pa v H2) (ha : R X U a σ H Pa) (hp : ∀ v H1, Le U H H1 → Pa v H1 → LsD n φ v H1) {ψ : Bool → Prop} (w : ∀ vs, φ vs → ψ vs.isEmpty) : R X U (.Compare a [.Eq] [.List [] q] pos) σ H (Vq fun v => ∃ b, v = .bl b ∧ ψ b) :=
  R.of (pe_cmpR (op_eqD hu) ha (R.lst (U := U) (σ := σ) (H := H) (P := fun v H => ∃ p, v = .ref p ∧ H p = some (.lst [])) RA.nil (fun vs H1 e => by cases e; exact Nat.zero_le _) (fun vs p H1 _ _ e _ => by cases e; exact ⟨p, rfl, upd_same⟩)) (nomark _)) fun H1 l j Q k => ⟨rfl, l, j, fun x H2 l2 j2 px => ⟨rfl, l.trans l2, j2, fun y H3 l3 j3 ⟨p', e', h'⟩ => by
    obtain ⟨p, vs, rfl, h, hφ, hd⟩ := hp x H3 ((l.trans l2).trans l3) (st x H2 H3 (l.trans l2) l3 px)
    subst e'
    obtain ⟨ds, d1, d2, d3⟩ := Dtm.all hd X.K
    refine ⟨.list ds, .list [], .lst (.inl (.inl h)) d1, .lst (.inl (.inl h')) .nil, okd_shaped (okd_list d2) (by omega), okd_shaped (n := 1) (okd_list (n := 0) fun d hd => nomatch hd) (by decide), ?_⟩
    rw [eqv_nil]
    have e : ds.isEmpty = vs.isEmpty := by cases ds <;> cases vs <;> simp_all
    rw [e]
    exact k _ H3 (l2.trans l3) j3 ⟨_, rfl, w vs hφ⟩⟩⟩
theorem R.neNil {φ : List V → Prop} {n : Nat} (hn : n < 64) (hu : X.A.units + 64 < cLine) (st : ∀ v H1 H2, Le U H H1 → Le U H1 H2 → Pa v H1 → Pa v H2) (ha : R X U a σ H Pa) (hp : ∀ v H1, Le U H H1 → Pa v H1 → LsD n φ v H1) {ψ : Bool → Prop} (w : ∀ vs, φ vs → ψ (!vs.isEmpty)) : R X U (.Compare a [.NotEq] [.List [] q] pos) σ H (Vq fun v => ∃ b, v = .bl b ∧ ψ b) :=
  R.of (pe_cmpR (op_neD hu) ha (R.lst (U := U) (σ := σ) (H := H) (P := fun v H => ∃ p, v = .ref p ∧ H p = some (.lst [])) RA.nil (fun vs H1 e => by cases e; exact Nat.zero_le _) (fun vs p H1 _ _ e _ => by cases e; exact ⟨p, rfl, upd_same⟩)) (nomark _)) fun H1 l j Q k => ⟨rfl, l, j, fun x H2 l2 j2 px => ⟨rfl, l.trans l2, j2, fun y H3 l3 j3 ⟨p', e', h'⟩ => by
    obtain ⟨p, vs, rfl, h, hφ, hd⟩ := hp x H3 ((l.trans l2).trans l3) (st x H2 H3 (l.trans l2) l3 px)
    subst e'
    obtain ⟨ds, d1, d2, d3⟩ := Dtm.all hd X.K
    refine ⟨.list ds, .list [], .lst (.inl (.inl h)) d1, .lst (.inl (.inl h')) .nil, okd_shaped (okd_list d2) (by omega), okd_shaped (n := 1) (okd_list (n := 0) fun d hd => nomatch hd) (by decide), ?_⟩
    rw [eqv_nil]
    have e : (!ds.isEmpty) = !vs.isEmpty := by cases ds <;> cases vs <;> simp_all
    rw [e]
    exact k _ H3 (l2.trans l3) j3 ⟨_, rfl, w vs hφ⟩⟩⟩
/-! ### the urn's dict -/
theorem R.dget {p : Addr} {kvs : List (Key × V)} {x : Str} {v : V} {k} (hu : X.A.units + 1 < cLine) (h : H p = some (.dK kvs)) (nm : ¬ Mv U p) (hv : valV kvs (.inr x) = some v) (ha : R X U a σ H (Is (.ref p))) (hs : NoSl (.Constant (.str x) k q) := by intro _ _; rfl) : R X U (.Subscript a (.Constant (.str x) k q) pos) σ H (Is v) :=
  R.of (pe_dget hu ha (R.str (U := U) (σ := σ) (H := H)) hs) fun H1 l j Q kk => ⟨rfl, l, j, fun u H2 l2 j2 e => ⟨rfl, l.trans l2, j2, fun y H3 l3 j3 e' => by
    cases e; cases e'
    refine ⟨p, v, rfl, ?_, kk v H3 (l2.trans l3) j3 rfl⟩
    rw [← hv]
    exact DGet.k (k := .inr x) (((l.trans l2).trans l3).keep _ _ nm h)⟩⟩
theorem S.dput {o value : Expr} {p : Addr} {kvs : List (Key × V)} {x : Str} {k} {pos' : Pos} (hu : X.A.units + 1 < cLine) (hj : Jn U H) (h : H p = some (.dK kvs)) (nm : ¬ Mv U p) (hz : kvs.length < 100) (he : R X U value σ H P) (ho : ∀ H1, R X U o σ H1 (Is (.ref p))) (kk : ∀ v H1, Le U H H1 → Jn U H1 → P v H1 → H1 p = some (.dK kvs) → S X rest σ (upd H1 p (.dK (putK kvs (.inr x) v))) D)
    (hst : ∀ v H H', Le U H H' → P v H → P v H') (hs : swapsWith value (some (.Subscript o (.Constant (.str x) k q) pos')) pos.line X.env = pure false := by rfl) : S X (.Assign [.Subscript o (.Constant (.str x) k q) pos'] value pos :: rest) σ H D :=
  S.stp (ps_dput hu (td := fun σ' H' Q => σ' = σ ∧ Jn U H' ∧ ∀ H2, Le U H' H2 → Jn U H2 → Q (.ref p) H2) ⟨fun pins s σ' H' Q I ⟨e1, j, w⟩ => (ho H').run pins s σ' H' Q I ⟨e1, Le.refl _, j, fun v H2 l2 j2 e => by cases e; exact w H2 l2 j2⟩⟩ (ty := fun σ' H' Q => σ' = σ ∧ Jn U H' ∧ ∀ H2, Le U H' H2 → Jn U H2 → Q (.str x) H2) ⟨fun pins s σ' H' Q I ⟨e1, j, w⟩ => (R.str (U := U) (σ := σ) (H := H')).run pins s σ' H' Q I ⟨e1, Le.refl _, j, fun v H2 l2 j2 e => by cases e; exact w H2 l2 j2⟩⟩ he hs) ⟨rfl, Le.refl _, hj, fun v H1 l j pv => ⟨rfl, j, fun H2 l2 j2 => ⟨rfl, j2, fun H3 l3 j3 => by
    have h3 := ((l.trans l2).trans l3).keep _ _ nm h
    exact ⟨p, _, rfl, DPut.k (k := .inr x) h3 (Nat.lt_of_lt_of_le hz (by decide)), kk v H3 ((l.trans l2).trans l3) j3 (hst _ _ _ (l2.trans l3) pv) h3⟩⟩⟩⟩
/-! ### methods that change a list -/
theorem S.append {o : Expr} {L : Addr} {xs : List V} {apos cpos : Pos} (hj : Jn U H) (hL : H L = some (.lst xs)) (nm : ¬ Mv U L) (hz : xs.length < 100000) (ho : R X U o σ H (Is (.ref L))) (he : R X U e σ H P) (kk : ∀ v H1, Le U H H1 → Jn U H1 → P v H1 → H1 L = some (.lst xs) → S X rest σ (upd H1 L (.lst (xs ++ [v]))) D)
    (h1 : starEach [e] X.env = (false, eval e X.env) :: starEach [] X.env := by rfl)
    (pb : PE X (.Call (.Attribute o "append" apos) [e] [] cpos) (tBM X.K "list" rAppend (tR U σ H (Is (.ref L))) (tRA U σ H (A2 P A0)))) (hs : swapsWith (.Call (.Attribute o "append" apos) [e] [] cpos) none pos.line X.env = pure false := by rfl) : S X (.Expr (.Call (.Attribute o "append" apos) [e] [] cpos) pos :: rest) σ H D :=
  S.stp (ps_expr pb hs) ⟨rfl, Le.refl _, hj, fun v H1 l1 j1 ev => ⟨by
    cases ev
    exact .inl ⟨rfl, _, .inl (.inl (l1.keep _ _ nm hL))⟩, rfl, l1, j1, fun vs H2 l2 j2 ⟨y, r, e', py, er⟩ => by
    cases ev; cases er; subst e'
    have h2 := (l1.trans l2).keep _ _ nm hL
    exact ⟨L, xs, y, rfl, rfl, h2, Nat.lt_of_lt_of_le hz (by decide), kk y H2 (l1.trans l2) j2 py h2⟩⟩⟩
theorem S.asgPop {o : Expr} {L : Addr} {xs : List V} {y : V} {i : Nat} {x : Str} {p' apos cpos : Pos} (hN : X.N.Nodup) (hi : X.N[i]? = some x) (hx : Loc X.env.scope x) (hj : Jn U H) (hL : H L = some (.lst xs)) (nm : ¬ Mv U L) (hy : xs[xs.length - 1]? = some y) (ho : R X U o σ H (Is (.ref L))) (kk : ∀ H1, Le U H H1 → Jn U H1 → H1 L = some (.lst xs) → S X rest (σ.set i (some y)) (upd H1 L (.lst xs.dropLast)) D)
    (pb : PE X (.Call (.Attribute o "pop" apos) [] [] cpos) (tBM0 X.K "list" rPop (tR U σ H (Is (.ref L))))) (hs : swapsWith (.Call (.Attribute o "pop" apos) [] [] cpos) (some (.Name x p')) pos.line X.env = pure false := by rfl) (hf : X.fn x = true ∨ X.env.scope.names.lookup x = some .local := by first | exact .inl rfl | exact .inr rfl | assumption) :
    S X (.Assign [.Name x p'] (.Call (.Attribute o "pop" apos) [] [] cpos) pos :: rest) σ H D :=
  S.stp (ps_set hN hi hx pb hs hf) ⟨rfl, Le.refl _, hj, fun v H1 l1 j1 ev => ⟨by
    cases ev
    exact .inl ⟨rfl, _, .inl (.inl (l1.keep _ _ nm hL))⟩, by
    cases ev
    exact ⟨L, xs, y, rfl, rfl, l1.keep _ _ nm hL, hy, kk H1 l1 j1 (l1.keep _ _ nm hL)⟩⟩⟩
/-! ### numbers -/
theorem R.int1 {φ : Int → Prop} (hg : Gl X "int") (hm : X.mg "int" = none) (ha : R X U a σ H (In φ)) (h1 : starEach [a] X.env = (false, eval a X.env) :: starEach [] X.env := by rfl) (h2 : (backTo pos (starEach [] X.env)).any (·.1) = false := by rfl) : R X U (.Call (.Name "int" q) [a] [] pos) σ H (In φ) :=
  R.callTy call_int1 hg hm PyProof.Rows.boot_int (RA.last ha h1) (fun vs H1 l j ⟨v, r, e, ⟨i, e1, p⟩, e2⟩ Q k => by cases e2; subst e1; exact .inl ⟨i, e, k _ H1 (Le.refl _) j ⟨i, rfl, p⟩⟩) (by decide) (by decide) h1 h2
theorem R.int1I {i : Int} (hg : Gl X "int") (hm : X.mg "int" = none) (ha : R X U a σ H (Is (.int i))) (h1 : starEach [a] X.env = (false, eval a X.env) :: starEach [] X.env := by rfl) (h2 : (backTo pos (starEach [] X.env)).any (·.1) = false := by rfl) : R X U (.Call (.Name "int" q) [a] [] pos) σ H (Is (.int i)) :=
  (R.int1 hg hm (R.toIn ha) h1 h2).imp fun v H1 l ⟨j, e, p⟩ => by rw [e, p]; rfl
theorem R.abs {i : Int} (hg : Gl X "abs") (hm : X.mg "abs" = none) (ha : R X U a σ H (Is (.int i))) (hb : bootBuiltins "abs" = some (.builtin "abs") := by decide +kernel) (h1 : starEach [a] X.env = (false, eval a X.env) :: starEach [] X.env := by rfl) (h2 : (backTo pos (starEach [] X.env)).any (·.1) = false := by rfl) : R X U (.Call (.Name "abs" q) [a] [] pos) σ H (Is (.int (i.natAbs : Nat))) :=
  R.callB call_abs hg hm hb (RA.last ha h1) (fun vs H1 l j ⟨v, r, e, e1, e2⟩ Q k => by
    cases e1; cases e2
    refine ⟨i, e, k _ H1 (Le.refl _) j ?_⟩
    show V.int _ = V.int _
    congr 1
    split <;> omega) (by decide) (by decide) h1 h2
theorem R.max2 {i j : Int} (hc : X.calm = true) (hg : Gl X "max") (hm : X.mg "max" = none) (ha : R X U a σ H (Is (.int i))) (hb : R X U b σ H (Is (.int j))) (hbt : bootBuiltins "max" = some (.builtin "max") := by decide +kernel) (h0 : starEach [a, b] X.env = (false, eval a X.env) :: starEach [b] X.env := by rfl) (h1 : starEach [b] X.env = (false, eval b X.env) :: starEach [] X.env := by rfl) (h2 : (backTo pos (starEach [b] X.env)).any (·.1) = false := by rfl) :
    R X U (.Call (.Name "max" q) [a, b] [] pos) σ H (Is (.int (max i j))) :=
  R.callB (call_max2 hc) hg hm hbt (RA.cons ha (RA.last hb h1) h0) (fun vs H1 l jn ⟨v, r, e, e1, w, r', e', e2, e3⟩ Q k => by
    cases e1; cases e2; cases e3; subst e'
    refine ⟨i, j, e, k _ H1 (Le.refl _) jn ?_⟩
    show V.int _ = V.int _
    congr 1
    split <;> omega) (by decide) (by decide) h0 h2
/-- * with one small factor -/
theorem R.mulS {i j : Int} (hc : CMul i j) (ha : R X U a σ H (Is (.int i))) (hb : R X U b σ H (Is (.int j))) : R X U (.BinOp a .Mult b pos) σ H (Is (.int (i * j))) :=
  R.op op_mul ha hb fun x y H1 l jn hx hy Q q => ⟨i, j, hx, hy, hc, q _ H1 (Le.refl _) jn rfl⟩
end
end K62
end
section
set_option Elab.async false
set_option linter.all false
set_option maxRecDepth 100000
set_option maxHeartbeats 4000000
set_option exponentiation.threshold 100
namespace K62
open PySem PySem.Spec PyProof.Rows L2
variable {P : Program} {w : World} {K : PySem.W.Frag} {mg : Str → Option Value} {base : Heap}
theorem Le.atU {U : UA} {H : Hp} {a : Addr} {o o' : HO} (hm : Mv U a) (h : H a = some o) (ht : ∀ xs, o ≠ .tup xs) (j : Jn U (upd H a o')) : Le U H (upd H a o') :=
  ⟨fun b ob hb e => by
    have hne : b ≠ a := fun z => hb (by rw [z]; exact hm)
    rw [upd_ne hne]; exact e, fun b xs e => by
    have hne : b ≠ a := fun z => ht xs (by rw [z, h] at e; cases e; rfl)
    rw [upd_ne hne]; exact e, fun _ => j⟩
abbrev ukv (c : Addr) (a t : Int) : List (Key × V) := [(Sum.inr "cells", .ref c), (Sum.inr "mixed", .int a), (Sum.inr "turn", .int t)]
theorem ukv_cells {c : Addr} {a t : Int} : valV (ukv c a t) (.inr "cells") = some (.ref c) := by rfl
theorem ukv_mixed {c : Addr} {a t : Int} : valV (ukv c a t) (.inr "mixed") = some (.int a) := by rfl
theorem ukv_turn {c : Addr} {a t : Int} : valV (ukv c a t) (.inr "turn") = some (.int t) := by rfl
theorem put_turn {c : Addr} {a t t' : Int} : putK (ukv c a t) (.inr "turn") (.int t') = ukv c a t' := by rfl
theorem put_mixed {c : Addr} {a t a' : Int} : putK (ukv c a t) (.inr "mixed") (.int a') = ukv c a' t := by rfl
abbrev sp_draw : Sp := FSp (α := Addr × Addr × Int) (fun x => some (x.1, x.2.1)) (fun x vs _ => vs = [.ref x.1, .int x.2.2] ∧ 0 < x.2.2 ∧ x.2.2.natAbs < 2 ^ 8000) (fun x => In fun i => 0 ≤ i ∧ i < x.2.2)
theorem ok_draw (F : DefAt K mg "_law_draw" s__law_draw ps__law_draw) (B : Bln mg) : Callee P w K mg base 1 "_law_draw" ps__law_draw sp_draw := by
  refine callee_of F sc__law_draw (fun vs H Q E h => ?_) fun f cdv A outer s H vs Q E hr h => ?_
  · obtain ⟨a, _, ⟨rfl, _⟩, _⟩ := h; rfl
  obtain ⟨⟨u, c, n⟩, jn, ⟨rfl, hn, hnb⟩, k⟩ := h
  have hn : 0 < n := hn
  have hnb : n.natAbs < 2 ^ 8000 := hnb
  obtain ⟨ns, a, t, hu, hc, hz, ha0, ha1⟩ := id jn
  have huc : u ≠ c := fun z => by rw [z, hc] at hu; cases hu
  have hU : Room 0 _ := hr
  have un1 := hr.units0
  have un64 := hr.units
  have un2 : (A.deeper (envOfC "_law_draw" (defScope s__law_draw) s.heap.objs.size f cdv)).units + 1 < cLine := by omega
  -- turn
  refine S.dput (U := none) (P := Is (.int (t + 1))) un2 trivial hu (fun z => z) (by show 3 < 100; decide) (R.add (R.dget un2 hu (fun z => z) ukv_turn (R.var (i := 0) rfl (.inl rfl) rfl)) R.int) (fun H1 => R.var (i := 0) rfl (.inl rfl) rfl) ?_ (fun v H H' _ h => h)
  rintro v H1 l1 _ rfl hu1
  rw [put_turn]
  have hc1 := l1.keep _ _ (fun z => z) hc
  have hu2 : (upd H1 u (.dK (ukv c a (t + 1)))) u = some (.dK (ukv c a (t + 1))) := upd_same
  have hc2 : (upd H1 u (.dK (ukv c a (t + 1)))) c = some (.lst (ns.map V.int)) := by rw [upd_ne (Ne.symm huc)]; exact hc1
  have L2 : Le (some (u, c)) H (upd H1 u (.dK (ukv c a (t + 1)))) := (Le.of l1).trans (Le.atU (.inl rfl) hu1 (fun xs z => nomatch z) ⟨ns, a, t + 1, hu2, hc2, hz, ha0, ha1⟩)
  generalize upd H1 u (.dK (ukv c a (t + 1))) = H2 at *
  -- mixing at the end
  have fin : ∀ (x2 : Option V) (H3 : Hp) (ns' : List Int) (a' : Int), Le (some (u, c)) H H3 → H3 u = some (.dK (ukv c a' (t + 1))) → H3 c = some (.lst (ns'.map V.int)) → ns'.length ≤ 63 → 0 ≤ a' → a' < 2147483563 →
      S (cxOf CX0 P w K mg base N__law_draw "_law_draw" (defScope s__law_draw) f cdv A outer s H E).nox ((defBody s__law_draw).drop 2) [some (.ref u), some (.int n), x2] H3 { nx := fun _ H' => Q .non H', rt := Q } := by
    intro x2 H3 ns' a' L3 hu3 hc3 hz3 b0 b1
    refine S.dput (U := none) (P := In fun i => 0 ≤ i ∧ i < 2147483563) un2 trivial hu3 (fun z => z) (by show 3 < 100; decide) (R.imIn (R.opIn (C := fun _ j => 0 < j) (φ := fun _ => True) (ψ := (· = 2147483563)) op_mod (fun i j _ e => by rw [e]; decide) (R.int1 (by rfl) B.int (R.imIn (R.toIn (R.add (R.add (R.mulS (.inr (by decide)) (R.dget un2 hu3 (fun z => z) ukv_mixed (R.var (i := 0) rfl (.inl rfl) rfl)) R.int) (R.mulS (.inr (by decide)) (R.dget un2 hu3 (fun z => z) ukv_turn (R.var (i := 0) rfl (.inl rfl) rfl)) R.int)) R.int)) (fun _ _ => trivial))) (R.toIn R.int)) (fun i ⟨x, y, _, e1, e2⟩ => by
      subst e1
      rw [e2]
      exact ⟨Int.emod_nonneg _ (by decide), Int.emod_lt_of_pos _ (by decide)⟩)) (fun H1 => R.var (i := 0) rfl (.inl rfl) rfl) ?_ (fun v H H' _ h => h)
    rintro v H4 l4 _ ⟨i, rfl, i0, i1⟩ hu4
    rw [put_mixed]
    have hc4 := l4.keep _ _ (fun z => z) hc3
    have hu5 : (upd H4 u (.dK (ukv c i (t + 1)))) u = some (.dK (ukv c i (t + 1))) := upd_same
    have hc5 : (upd H4 u (.dK (ukv c i (t + 1)))) c = some (.lst (ns'.map V.int)) := by rw [upd_ne (Ne.symm huc)]; exact hc4
    have L5 : Le (some (u, c)) H (upd H4 u (.dK (ukv c i (t + 1)))) := (L3.trans (Le.of l4)).trans (Le.atU (.inl rfl) hu4 (fun xs z => nomatch z) ⟨ns', i, t + 1, hu5, hc5, hz3, i0, i1⟩)
    have J5 := L5.jn jn
    generalize upd H4 u (.dK (ukv c i (t + 1))) = H5 at *
    refine S.ret (U := none) trivial (R.mod hn (R.int1I (by rfl) B.int (R.fdiv (wide_div (b := 64) (by decide) (by decide) (by decide) (by decide)) (R.dget un2 hu5 (fun z => z) ukv_mixed (R.var (i := 0) rfl (.inl rfl) rfl)) R.int)) (R.var (i := 1) rfl (.inl rfl) rfl)) fun v H6 l6 _ e => k v H6 (L5.trans (Le.of l6)) ((L5.trans (Le.of l6)).jn jn) ⟨_, e, Int.emod_nonneg _ (show n ≠ 0 by omega), Int.emod_lt_of_pos _ hn⟩
  -- cells
  refine S.if (U := none) (φ := (· = !(ns.map V.int).isEmpty)) trivial (RT.neNil (n := 0) (φ := (· = ns.map V.int)) (by decide) un64 (fun v H1 H2 _ _ h => h) (R.dget un2 hu2 (fun z => z) ukv_cells (R.var (i := 0) rfl (.inl rfl) rfl)) (fun v H1 l e => ⟨c, _, e, l.keep _ _ (fun z => z) hc2, rfl, Dtm.ints⟩) (fun vs e => by rw [e])) (fun e H3 l3 _ => ?_) (fun e H3 l3 _ => S.nil ?_)
  · have hne : ns ≠ [] := fun z => by rw [z] at e; exact Bool.noConfusion e
    obtain ⟨ms, z, rfl⟩ : ∃ ms z, ns = ms ++ [z] := ⟨ns.dropLast, ns.getLast hne, (List.dropLast_concat_getLast hne).symm⟩
    have hu3 := l3.keep _ _ (fun z => z) hu2
    have hc3 := l3.keep _ _ (fun z => z) hc2
    refine S.asgPop (U := none) (y := .int z) sc__law_draw.nd (i := 2) rfl (.inl rfl) trivial hc3 (fun z => z) (by simp) (R.dget un2 hu3 (fun z => z) ukv_cells (R.var (i := 0) rfl (.inl rfl) rfl)) ?_ (pe_bm0 PySem.F.plainAttrs_list PySem.F.slot_list_pop PySem.F.type_list_pop mt_pop (R.dget un2 hu3 (fun z => z) ukv_cells (R.var (i := 0) rfl (.inl rfl) rfl)))
    intro H4 l4 _ hc4
    have e1 : ((ms ++ [z]).map V.int).dropLast = ms.map V.int := by simp
    rw [e1]
    have hml : ms.length ≤ 62 := by simp at hz; omega
    have hu5 : (upd H4 c (.lst (ms.map V.int))) u = some (.dK (ukv c a (t + 1))) := by rw [upd_ne huc]; exact l4.keep _ _ (fun z => z) hu3
    have hc5 : (upd H4 c (.lst (ms.map V.int))) c = some (.lst (ms.map V.int)) := upd_same
    have L5 : Le (some (u, c)) H (upd H4 c (.lst (ms.map V.int))) := ((L2.trans (Le.of l3)).trans (Le.of l4)).trans (Le.atU (.inr rfl) hc4 (fun xs z => nomatch z) ⟨ms, a, t + 1, hu5, hc5, by omega, ha0, ha1⟩)
    generalize upd H4 c (.lst (ms.map V.int)) = H5 at *
    show S _ _ [some (.ref u), some (.int n), some (.int z)] _ _
    refine S.if (U := none) trivial (RT.ge (R.var (i := 2) rfl (.inl rfl) rfl) (R.pow ⟨by decide, by decide, by decide⟩ R.int R.int)) (fun e H6 l6 _ => ?_) (fun e H6 l6 _ => S.nil ?_)
    · have hc6 := l6.keep _ _ (fun z => z) hc5
      have hu6 := l6.keep _ _ (fun z => z) hu5
      refine S.append (U := none) (P := Is (.int (z / max 2 n))) trivial hc6 (fun z => z) (by rw [List.length_map]; omega) (R.dget un2 hu6 (fun z => z) ukv_cells (R.var (i := 0) rfl (.inl rfl) rfl)) (R.fdiv (wide_div (b := 8000) (by omega) (Nat.lt_of_le_of_lt (show (max 2 n).natAbs ≤ max 2 n.natAbs by clear hnb; omega) (Nat.max_lt.mpr ⟨Nat.lt_of_lt_of_le (show 2 < 2 ^ 2 by decide) (Nat.pow_le_pow_right (by decide) (by decide)), hnb⟩)) (by decide) (by decide)) (R.var (i := 2) rfl (.inl rfl) rfl) (R.max2 rfl (by rfl) B.max R.int (R.var (i := 1) rfl (.inl rfl) rfl))) ?_ rfl (pe_bm PySem.F.plainAttrs_list PySem.F.slot_list_append PySem.F.type_list_append mt_append (R.dget un2 hu6 (fun z => z) ukv_cells (R.var (i := 0) rfl (.inl rfl) rfl)) (RA.last (R.fdiv (wide_div (b := 8000) (by omega) (Nat.lt_of_le_of_lt (show (max 2 n).natAbs ≤ max 2 n.natAbs by clear hnb; omega) (Nat.max_lt.mpr ⟨Nat.lt_of_lt_of_le (show 2 < 2 ^ 2 by decide) (Nat.pow_le_pow_right (by decide) (by decide)), hnb⟩)) (by decide) (by decide)) (R.var (i := 2) rfl (.inl rfl) rfl) (R.max2 rfl (by rfl) B.max R.int (R.var (i := 1) rfl (.inl rfl) rfl)))))
      rintro v H7 l7 _ rfl hc7
      have e2 : ms.map V.int ++ [V.int (z / max 2 n)] = (ms ++ [z / max 2 n]).map V.int := by simp
      rw [e2]
      have hu8 : (upd H7 c (.lst ((ms ++ [z / max 2 n]).map V.int))) u = some (.dK (ukv c a (t + 1))) := by rw [upd_ne huc]; exact l7.keep _ _ (fun z => z) hu6
      have hc8 : (upd H7 c (.lst ((ms ++ [z / max 2 n]).map V.int))) c = some (.lst ((ms ++ [z / max 2 n]).map V.int)) := upd_same
      have L8 : Le (some (u, c)) H (upd H7 c (.lst ((ms ++ [z / max 2 n]).map V.int))) := ((L5.trans (Le.of l6)).trans (Le.of l7)).trans (Le.atU (.inr rfl) hc7 (fun xs z => nomatch z) ⟨_, a, t + 1, hu8, hc8, by simp; omega, ha0, ha1⟩)
      generalize upd H7 c (.lst ((ms ++ [z / max 2 n]).map V.int)) = H8 at *
      exact S.ret (U := none) trivial (R.mod hn (R.int1I (by rfl) B.int (R.var (i := 2) rfl (.inl rfl) rfl)) (R.var (i := 1) rfl (.inl rfl) rfl)) fun v H9 l9 _ e => k v H9 (L8.trans (Le.of l9)) ((L8.trans (Le.of l9)).jn jn) ⟨_, e, Int.emod_nonneg _ (show n ≠ 0 by omega), Int.emod_lt_of_pos _ hn⟩
    · have hc6 := l6.keep _ _ (fun z => z) hc5
      have hu6 := l6.keep _ _ (fun z => z) hu5
      refine S.dput (U := none) (P := In fun i => 0 ≤ i ∧ i < 2147483563) un2 trivial hu6 (fun z => z) (by show 3 < 100; decide) (R.imIn (R.opIn (C := fun _ j => 0 < j) (φ := fun _ => True) (ψ := (· = 2147483563)) op_mod (fun i j _ e => by rw [e]; decide) (R.int1 (by rfl) B.int (R.imIn (R.toIn (R.add (R.dget un2 hu6 (fun z => z) ukv_mixed (R.var (i := 0) rfl (.inl rfl) rfl)) (R.var (i := 2) rfl (.inl rfl) rfl))) (fun _ _ => trivial))) (R.toIn R.int)) (fun i ⟨x, y, _, e1, e2⟩ => by
        subst e1
        rw [e2]
        exact ⟨Int.emod_nonneg _ (by decide), Int.emod_lt_of_pos _ (by decide)⟩)) (fun H1 => R.var (i := 0) rfl (.inl rfl) rfl) ?_ (fun v H H' _ h => h)
      rintro v H7 l7 _ ⟨i, rfl, i0, i1⟩ hu7
      rw [put_mixed]
      have hc7 := l7.keep _ _ (fun z => z) hc6
      have hu8 : (upd H7 u (.dK (ukv c i (t + 1)))) u = some (.dK (ukv c i (t + 1))) := upd_same
      have hc8 : (upd H7 u (.dK (ukv c i (t + 1)))) c = some (.lst (ms.map V.int)) := by rw [upd_ne (Ne.symm huc)]; exact hc7
      refine S.nil (fin _ _ ms i (((L5.trans (Le.of l6)).trans (Le.of l7)).trans (Le.atU (.inl rfl) hu7 (fun xs z => nomatch z) ⟨ms, i, t + 1, hu8, hc8, by omega, i0, i1⟩)) hu8 hc8 (by omega) i0 i1)
  · exact fin _ _ ns a (L2.trans (Le.of l3)) (l3.keep _ _ (fun z => z) hu2) (l3.keep _ _ (fun z => z) hc2) hz ha0 ha1
end K62
end
section
set_option Elab.async false
set_option linter.all false
set_option maxRecDepth 100000
set_option maxHeartbeats 4000000
set_option exponentiation.threshold 100
namespace K62
open PySem PySem.Spec PyProof.Rows L2
variable {P : Program} {w : World} {K : PySem.W.Frag} {mg : Str → Option Value} {base : Heap}
/-! ### dot -/
abbrev sp_ldot : Sp := FSp (α := List Int × List Int) nU (fun a vs H => ∃ v w, vs = [v, w] ∧ TpI a.1 v H ∧ TpI a.2 w H ∧ a.1.length ≤ 1000 ∧ Bd 400000 a.1 ∧ Bd 400000 a.2) (fun a => Is (.int (dot a.1 a.2)))
theorem ok_ldot (F : DefAt K mg "_law_dot" s__law_dot ps__law_dot) (B : Bln mg) : Callee P w K mg base 1 "_law_dot" ps__law_dot sp_ldot := by
  refine callee_of F sc__law_dot (fun vs H Q E h => ?_) fun f cdv A outer s H vs Q E hr h => ?_
  · obtain ⟨a, _, ⟨v, w, rfl, _⟩, _⟩ := h; rfl
  obtain ⟨⟨r, c⟩, _, ⟨v, w, rfl, ⟨p, rfl, hp⟩, ⟨q, rfl, hq⟩, hz, b1, b2⟩, k⟩ := h
  refine S.ret (U := none) trivial (R.sumN (H0 := H) (f := fun i => r.getD i 0 * c.getD i 0) rfl (by rfl) B.sum (R.lc (own := [("_law_x", 2), ("_law_y", 3)]) rfl sc__law_dot.nd
    (Src.zipT (by rfl) B.zip (R.var (i := 0) rfl (.inl rfl) rfl) (R.var (i := 1) rfl (.inl rfl) rfl) hp hq) (blkOk_by (N := N__law_dot) (sc := defScope s__law_dot) (by decide +kernel))
    (fun J H1 l j wk => LcK.zip (j1 := 2) (j2 := 3) (fun i => Is (.int (r.getD i 0 * c.getD i 0))) wk ?_ l trivial (fun H' l' => ⟨l'.tup _ _ (l.tup _ _ hp), l'.tup _ _ (l.tup _ _ hq)⟩)
      (fun T x y H'' hT s Hb C cl fp => Tg.tup rfl hT (Tgs.cons (Tg.name sc__law_dot.nd (i := 2) rfl (.inl rfl)) (Tgs.cons (Tg.name sc__law_dot.nd (i := 3) rfl (.inl rfl)) Tgs.nil)))
      (fun i x y H'' hi l' j' hx hy s Hb C cl fp => ?_)))) fun v H1 l _ e => k v H1 l trivial ?_
  · rw [List.length_map]; show min r.length _ ≤ _; have : r.length ≤ 1000 := hz; omega
  · obtain ⟨rfl, hm1⟩ := getV hx
    obtain ⟨rfl, hm2⟩ := getV hy
    exact R.mul (b1.mul b2 hm1 hm2) (R.var (i := 2) rfl (.inl rfl) rfl) (R.var (i := 3) rfl (.inl rfl) rfl)
  · rw [List.length_map, List.length_map, dot_range] at e
    exact e
/-! ### pick -/
structure PkA where
  u : Addr
  c : Addr
  p : Addr
  k : Bool
  vs : List V
abbrev PkA.U (x : PkA) : UA := some (x.u, x.c)
abbrev sp_pick : Sp := FSp (α := PkA) PkA.U (fun x vs H => vs = [.ref x.u, .ref x.p] ∧ Sq x.k H x.p x.vs ∧ (x.k = true → ¬ Mv x.U x.p) ∧ 0 < x.vs.length ∧ x.vs.length ≤ 1000) (fun x => Vq (· ∈ x.vs))
theorem ok_pick (F : DefAt K mg "_law_pick" s__law_pick ps__law_pick) (B : Bln mg) (C1 : Callee P w K mg base 1 "_law_draw" ps__law_draw sp_draw) : Callee P w K mg base 2 "_law_pick" ps__law_pick sp_pick := by
  refine callee_of F sc__law_pick (fun vs H Q E h => ?_) fun f cdv A outer s H vs Q E hr h => ?_
  · obtain ⟨a, _, ⟨rfl, _⟩, _⟩ := h; rfl
  obtain ⟨⟨u, c, p, kk, xs⟩, jn, ⟨rfl, hp, nm, h0, h1⟩, k⟩ := h
  have h0 : 0 < xs.length := h0
  have h1 : xs.length ≤ 1000 := h1
  refine S.ret (U := some (u, c)) (P := Vq (· ∈ xs)) jn (R.ix (Pa := Is (.ref p)) (Pi := In fun i => 0 ≤ i ∧ i < xs.length) (fun _ _ => rfl) (R.var (i := 1) rfl (.inl rfl) rfl) (R.callU C1 hr (by decide) (by rfl) (RA.cons (R.var (i := 0) rfl (.inl rfl) rfl) (RA.last (R.lenS (by rfl) B.len hp nm (R.var (i := 1) rfl (.inl rfl) rfl)))) ?_) (IxR.or ix_tup ix_list) ?_) fun v H1 l j h => k v H1 l j h
  · rintro vs H1 l _ ⟨v, r, rfl, rfl, v', r', rfl, rfl, rfl⟩
    exact ⟨(u, c, (xs.length : Int)), rfl, ⟨rfl, by show (0 : Int) < ((xs.length : Nat) : Int); omega, Nat.lt_of_lt_of_le (show ((xs.length : Nat) : Int).natAbs < 2 ^ 10 by rw [Int.natAbs_natCast]; omega) (Nat.pow_le_pow_right (by decide) (by decide))⟩, fun v H2 _ _ h => h⟩
  · rintro a b H1 l j1 rfl ⟨i, rfl, i0, i1⟩ Q q
    obtain ⟨n, rfl⟩ := Int.eq_ofNat_of_zero_le i0
    have hn : n < xs.length := by omega
    have hg := List.getElem?_eq_getElem hn
    have hp1 : Sq kk H1 p xs := hp.le nm l
    cases kk
    · exact .inl ⟨p, xs, (n : Int), xs[n], rfl, rfl, .inl (.inl hp1), atI_nat hg, q _ H1 (Le.refl _) j1 (List.getElem_mem hn)⟩
    · exact .inr ⟨p, xs, (n : Int), xs[n], rfl, rfl, .inl (.inl hp1), atI_nat hg, q _ H1 (Le.refl _) j1 (List.getElem_mem hn)⟩
/-! ### great -/
abbrev sp_great : Sp := FSp (α := Addr × Addr × Int) (fun x => some (x.1, x.2.1)) (fun x vs _ => vs = [.ref x.1, .int x.2.2] ∧ 0 < x.2.2) (fun x => In fun i => 0 ≤ i ∧ i < x.2.2)
theorem ok_great (F : DefAt K mg "_law_great" s__law_great ps__law_great) (B : Bln mg) (C1 : Callee P w K mg base 1 "_law_draw" ps__law_draw sp_draw) : Callee P w K mg base 2 "_law_great" ps__law_great sp_great := by
  refine callee_of F sc__law_great (fun vs H Q E h => ?_) fun f cdv A outer s H vs Q E hr h => ?_
  · obtain ⟨a, _, ⟨rfl, _⟩, _⟩ := h; rfl
  obtain ⟨⟨u, c, n⟩, jn, ⟨rfl, hn⟩, k⟩ := h
  have hn : 0 < n := hn
  have jn : Jn (some (u, c)) H := jn
  refine S.asgT (U := some (u, c)) (P := fun v H1 => ∃ p, v = .ref p ∧ H1 p = some (.tup [.int 0, .int 1])) jn (R.tup (RA.cons R.int (RA.last R.int)) ?_ ?_) ?_
  · rintro vs H1 ⟨v, r, rfl, _, v, r, rfl, _, rfl⟩; show 2 ≤ sizeLine; decide
  · rintro vs p H1 _ _ ⟨v, r, rfl, rfl, v, r, rfl, rfl, rfl⟩ _; exact ⟨p, rfl, upd_same⟩
  rintro v H1 l1 j1 ⟨p, rfl, hp⟩
  refine ⟨_, Tg.tup rfl hp (Tgs.cons (Tg.name sc__law_great.nd (i := 2) rfl (.inl rfl)) (Tgs.cons (Tg.name sc__law_great.nd (i := 3) rfl (.inl rfl)) Tgs.nil)), ?_⟩
  show S _ _ [some (.ref u), some (.int n), some (.int 0), some (.int 1)] _ _
  refine S.cut (Mid := fun σ' H' => ∃ a b, σ' = [some (.ref u), some (.int n), some (.int a), some (.int b)] ∧ Le (some (u, c)) H H' ∧ Jn (some (u, c)) H')
    (S1.while (U := some (u, c)) PassesOwn.never (fun σ' H' => ∃ a b : Int, σ' = [some (.ref u), some (.int n), some (.int a), some (.int b)] ∧ 0 < b ∧ Le (some (u, c)) H H' ∧ Jn (some (u, c)) H') (fun σ' _ => (n - slI σ' 3).toNat) ⟨0, 1, rfl, by decide, l1, j1⟩ (fun σ' H' ⟨a, b, _, _, _, j⟩ => j)
      (φ := fun σ' _ b => b = decide (slI σ' 3 < n)) ?_ ?_ ?_) ?_
  · rintro σ' H' ⟨a, b, rfl, b0, l, j⟩
    exact RT.lt (R.var (i := 3) rfl (.inl rfl) rfl) (R.var (i := 1) rfl (.inl rfl) rfl)
  · rintro σ' H' ⟨a, b, rfl, b0, l, j⟩ e H2 l2 j2
    have hb : b < n := of_decide_eq_true e.symm
    refine S.par (U := some (u, c)) (Ps := A2 (In fun _ => True) (A2 (Is (.int (b * 10 ^ (7 : Int).toNat))) A0)) rfl sc__law_great.nd (i := 2) (j := 3) rfl rfl (by decide) rfl rfl j2 (RA.cons (R.imIn (R.opIn0 (φ := fun _ => True) (ψ := fun _ => True) op_add (R.imIn (R.toIn (R.mulS (.inr (by decide)) (R.var (i := 2) rfl (.inl rfl) rfl) (R.pow ⟨by decide, by decide, by decide⟩ R.int R.int))) (fun _ _ => trivial)) (R.imIn (R.callU (P := In fun i => 0 ≤ i ∧ i < 10 ^ (7 : Int).toNat) C1 hr (by decide) (by rfl) (RA.cons (R.var (i := 0) rfl (.inl rfl) rfl) (RA.last (R.pow ⟨by decide, by decide, by decide⟩ R.int R.int))) ?_) (fun _ _ => trivial))) (fun _ _ => trivial)) (RA.last (R.mulS (.inr (by decide)) (R.var (i := 3) rfl (.inl rfl) rfl) (R.pow ⟨by decide, by decide, by decide⟩ R.int R.int)))) ?_
    · rintro vs H3 l3 _ ⟨v, r, rfl, rfl, v', r', rfl, rfl, rfl⟩
      exact ⟨(u, c, 10 ^ (7 : Int).toNat), rfl, ⟨rfl, by show (0 : Int) < 10 ^ 7; decide, Nat.lt_of_lt_of_le (show ((10 : Int) ^ (7 : Int).toNat).natAbs < 2 ^ 30 by decide) (Nat.pow_le_pow_right (by decide) (by decide))⟩, fun v H2 _ _ h => h⟩
    · rintro vs H3 l3 j3 ⟨v, r, rfl, ⟨i, rfl, _⟩, v', r', rfl, rfl, rfl⟩
      refine ⟨_, _, rfl, S.nil ⟨⟨i, b * 10 ^ (7 : Int).toNat, rfl, Int.mul_pos b0 (by decide), (l.trans l2).trans l3, j3⟩, ?_⟩⟩
      show (n - b * 10 ^ (7 : Int).toNat).toNat < (n - b).toNat
      have : (10 : Int) ^ (7 : Int).toNat = 10000000 := by decide
      rw [this]
      omega
  · rintro σ' H' ⟨a, b, rfl, b0, l, j⟩ e H2 l2 j2
    exact ⟨a, b, rfl, l.trans l2, j2⟩
  · rintro σ' H' ⟨a, b, rfl, l, j⟩
    refine S.ret (U := some (u, c)) j (R.mod (j := max 1 n) (by omega) (R.int1I (by rfl) B.int (R.var (i := 2) rfl (.inl rfl) rfl)) (R.max2 rfl (by rfl) B.max R.int (R.var (i := 1) rfl (.inl rfl) rfl))) fun v H2 l2 j2 e => k v H2 (l.trans l2) j2 ⟨_, e, Int.emod_nonneg _ (by omega), ?_⟩
    have := Int.emod_lt_of_pos a (show 0 < max 1 n by omega)
    show a % max 1 n < n
    omega
/-! ### divisor -/
abbrev sp_divisor : Sp := FSp (α := List Int) nU (fun l vs H => ∃ p, vs = [.ref p] ∧ H p = some (.lst (l.map V.int)) ∧ l.length ≤ 1000) (fun l => Is (.int (gcdl 0 l : Nat)))
theorem ok_divisor (F : DefAt K mg "_law_divisor" s__law_divisor ps__law_divisor) (B : Bln mg) : Callee P w K mg base 1 "_law_divisor" ps__law_divisor sp_divisor := by
  refine callee_of F sc__law_divisor (fun vs H Q E h => ?_) fun f cdv A outer s H vs Q E hr h => ?_
  · obtain ⟨a, _, ⟨p, rfl, _⟩, _⟩ := h; rfl
  obtain ⟨l, _, ⟨p, rfl, hp, hl⟩, k⟩ := h
  refine S.asgI (U := none) sc__law_divisor.nd (i := 1) rfl (.inl rfl) trivial R.int fun H1 l1 _ => ?_
  refine S.cut (Mid := fun σ' H' => ∃ x2 x3 x4, σ' = [some (.ref p), some (.int (gcdl 0 l : Nat)), x2, x3, x4] ∧ Le none H H') (S1.for (U := none) (Src.lst (R.var (i := 0) rfl (.inl rfl) rfl) (l1.keep _ _ (fun z => z) hp) (fun z => z)) trivial PassesOwn.never rfl fun J H2 l2 _ wk => ⟨_, _, _, wk,
    fun i σ' H' => ∃ x2 x3 x4, σ' = [some (.ref p), some (.int (gcdl 0 (l.take i) : Nat)), x2, x3, x4] ∧ Le none H H', ⟨none, none, none, rfl, l1.trans l2⟩, fun i σ' H' _ ⟨_, _, _, _, l⟩ => l.keep _ _ (fun z => z) hp, ?_, ?_⟩) ?_
  · rintro i v σ' H' H'' hi ⟨x2, x3, x4, rfl, lq⟩ ⟨rfl, hv⟩
    obtain ⟨rfl, hm⟩ := getV hv
    rw [List.length_map] at hi
    refine ⟨_, Tg.name sc__law_divisor.nd (i := 2) rfl (.inl rfl), ?_⟩
    show S _ _ [some (.ref p), some (.int (gcdl 0 (l.take i) : Nat)), some (.int (l.getD i 0)), x3, x4] _ _
    refine S.parI (U := none) rfl sc__law_divisor.nd (i := 3) (j := 4) rfl rfl (by decide) rfl rfl trivial (R.var (i := 1) rfl (.inl rfl) rfl) (R.abs (by rfl) B.abs (R.var (i := 2) rfl (.inl rfl) rfl)) fun H3 l3 _ => ?_
    show S _ _ [some (.ref p), some (.int (gcdl 0 (l.take i) : Nat)), some (.int (l.getD i 0)), some (.int (gcdl 0 (l.take i) : Nat)), some (.int ((l.getD i 0).natAbs : Nat))] _ _
    refine S.cut (Mid := fun σ' H' => ∃ x4, σ' = [some (.ref p), some (.int (gcdl 0 (l.take i) : Nat)), some (.int (l.getD i 0)), some (.int (gcdl 0 (l.take (i + 1)) : Nat)), x4] ∧ Le none H H')
      (S1.while (U := none) PassesOwn.never (fun σ' H' => ∃ a b : Nat, σ' = [some (.ref p), some (.int (gcdl 0 (l.take i) : Nat)), some (.int (l.getD i 0)), some (.int a), some (.int b)] ∧ Nat.gcd a b = gcdl 0 (l.take (i + 1)) ∧ Le none H H') (fun σ' _ => (slI σ' 4).toNat) ⟨_, _, rfl, (gcdl_take hi).symm, lq.trans l3⟩ (fun _ _ _ => trivial)
        (φ := fun σ' _ b => b = !decide (V.int (slI σ' 4) = V.int 0)) ?_ ?_ ?_) ?_
    · rintro σ' H' ⟨a, b, rfl, hg, lq⟩
      exact RT.ne rfl (R.var (i := 4) rfl (.inl rfl) rfl) R.int
    · rintro σ' H' ⟨a, b, rfl, hg, lq⟩ e H4 l4 _
      have hb : (b : Int) ≠ 0 := by rw [ne_int] at e; exact of_decide_eq_true e.symm
      refine S.parI (U := none) rfl sc__law_divisor.nd (i := 3) (j := 4) rfl rfl (by decide) rfl rfl trivial (R.var (i := 4) rfl (.inl rfl) rfl) (R.mod (by omega) (R.int1I (by rfl) B.int (R.var (i := 3) rfl (.inl rfl) rfl)) (R.var (i := 4) rfl (.inl rfl) rfl)) fun H5 l5 _ => S.nil ⟨⟨b, a % b, ?_, ?_, (lq.trans l4).trans l5⟩, ?_⟩
      · rw [Int.natCast_emod]; rfl
      · rw [← hg, Nat.gcd_comm a b, Nat.gcd_rec b a, Nat.gcd_comm]
      · show ((a : Int) % (b : Int)).toNat < ((b : Nat) : Int).toNat
        rw [← Int.natCast_emod, Int.toNat_natCast, Int.toNat_natCast]
        exact Nat.mod_lt _ (by omega)
    · rintro σ' H' ⟨a, b, rfl, hg, lq⟩ e H4 l4 _
      have hb : b = 0 := by
        rw [ne_int] at e
        have := of_decide_eq_false e.symm
        have : (b : Int) = 0 := Classical.byContradiction this
        omega
      subst hb
      rw [Nat.gcd_zero_right] at hg
      exact ⟨_, by rw [hg], lq.trans l4⟩
    · rintro σ' H' ⟨x4, rfl, lq⟩
      refine S.asgI (U := none) sc__law_divisor.nd (i := 1) rfl (.inl rfl) trivial (R.var (i := 3) rfl (.inl rfl) rfl) fun H5 l5 _ => S.nil ⟨_, _, _, rfl, lq.trans l5⟩
  · rintro σ' H' ⟨x2, x3, x4, rfl, lq⟩
    rw [List.length_map, List.take_length]
    exact ⟨_, _, _, rfl, lq⟩
  · rintro σ' H' ⟨x2, x3, x4, rfl, lq⟩
    exact S.ret (U := none) trivial (R.var (i := 1) rfl (.inl rfl) rfl) fun v H2 l2 _ e => k v H2 (lq.trans l2) trivial e
end K62
end
section
set_option linter.all false
/-! Periods, primitive rows, and how the law makes stripes. -/
namespace K62
def P10 : List Nat := [2, 3, 5, 7, 11, 13, 17, 19, 23, 29]
theorem P10_pr : ∀ p ∈ P10, Pr p := by
  have h : ∀ p ∈ P10, (∀ k, k < p + 1 → k ∣ p → k = 1 ∨ k = p) ∧ 0 < p := by decide
  exact fun p hp => pr_of (h p hp).1 (h p hp).2
theorem P10_cop : ∀ p ∈ P10, ∀ q ∈ P10, p ≠ q → Nat.gcd p q = 1 := by decide
theorem P10_ge : ∀ p ∈ P10, 2 ≤ p ∧ p < 30 := by decide
theorem PQ_P10 : ∀ x ∈ PQs, x.1 ∈ P10 ∧ (x.2 = 1 ∨ x.2 ∈ P10) := by decide
theorem gcdl_dvd : ∀ {c : List Int} {m : Nat}, gcdl m c ∣ m ∧ ∀ y ∈ c, ((gcdl m c : Nat) : Int) ∣ y
  | [], m => ⟨Nat.dvd_refl _, fun y hy => nomatch hy⟩
  | x :: c, m => by
    obtain ⟨h1, h2⟩ := gcdl_dvd (c := c) (m := Nat.gcd m x.natAbs)
    refine ⟨Nat.dvd_trans h1 (Nat.gcd_dvd_left ..), fun y hy => ?_⟩
    rcases List.mem_cons.mp hy with rfl | hy
    · exact Int.ofNat_dvd_left.mpr (Nat.dvd_trans h1 (Nat.gcd_dvd_right ..))
    · exact h2 y hy
theorem dvd_gcdl : ∀ {c : List Int} {m d : Nat}, d ∣ m → (∀ y ∈ c, (d : Int) ∣ y) → d ∣ gcdl m c
  | [], m, d, h, _ => h
  | x :: c, m, d, h, h' => dvd_gcdl (c := c) (Nat.dvd_gcd h (Int.ofNat_dvd_left.mp (h' x (List.mem_cons_self ..)))) fun y hy => h' y (List.mem_cons_of_mem _ hy)
/-- a divisor of a period that none of the primes divide is 1 -/
theorem per_one {x : Nat × Nat} (hx : x ∈ PQs) {a b n : Nat} (h : n ∣ x.1 ^ a * x.2 ^ b) (hn : ∀ p ∈ P10, ¬ p ∣ n) : n = 1 := by
  obtain ⟨h1, h2⟩ := PQ_P10 x hx
  obtain ⟨q1, q2⟩ := PQ_pr x hx
  have c1 : Nat.Coprime n (x.1 ^ a) := by
    rcases q1 n with d | d
    · exact absurd d (hn _ h1)
    · exact Nat.Coprime.pow_right a (Nat.Coprime.symm d)
  have h3 := Nat.Coprime.dvd_of_dvd_mul_left c1 h
  rcases h2 with e | h2
  · rw [e, Nat.one_pow] at h3; exact Nat.dvd_one.mp h3
  · have c2 : Nat.Coprime n (x.2 ^ b) := by
      rcases q2 n with d | d
      · exact absurd d (hn _ h2)
      · exact Nat.Coprime.pow_right b (Nat.Coprime.symm d)
    have := Nat.Coprime.dvd_of_dvd_mul_left c2 (by rw [Nat.mul_one]; exact h3 : n ∣ x.2 ^ b * 1)
    exact Nat.dvd_one.mp this
theorem prim_of {x : Nat × Nat} (hx : x ∈ PQs) {m : Int} {c : List Int} (hp : Per x.1 x.2 m) (h : ∀ p ∈ P10, (p : Int) ∣ m → ¬ ∀ y ∈ c, (p : Int) ∣ y) : gcdl m.natAbs c = 1 := by
  obtain ⟨a, b, e⟩ := hp
  obtain ⟨h1, h2⟩ := gcdl_dvd (c := c) (m := m.natAbs)
  refine per_one hx (a := a) (b := b) (by rw [e, Int.natAbs_natCast] at h1; rw [e, Int.natAbs_natCast]; exact h1) fun p hp hd => h p hp ?_ fun y hy => ?_
  · exact Int.ofNat_dvd_left.mpr (Nat.dvd_trans hd h1)
  · exact Int.dvd_trans (Int.natCast_dvd_natCast.mpr hd) (h2 y hy)
theorem prim_no {m : Int} {c : List Int} (h : gcdl m.natAbs c = 1) {p : Nat} (hp : 2 ≤ p) (hm : (p : Int) ∣ m) : ¬ ∀ y ∈ c, (p : Int) ∣ y := fun hy => by
  have := dvd_gcdl (Int.ofNat_dvd_left.mp hm) hy
  rw [h] at this
  have := Nat.dvd_one.mp this
  omega
/-- what _law_powers lists -/
structure Pws (m : Int) (pws : List (Nat × Int)) : Prop where
  mem : ∀ pq ∈ pws, pq.1 ∈ P10 ∧ ∃ (e : Nat) (c : Int), 1 ≤ e ∧ pq.2 = ((pq.1 ^ e : Nat) : Int) ∧ m = pq.2 * c ∧ ¬ (pq.1 : Int) ∣ c
  all : ∀ p ∈ P10, (p : Int) ∣ m → ∃ q, (p, q) ∈ pws
  inc : pws.Pairwise fun a b => a.1 ≠ b.1
  len : pws.length ≤ 10
theorem Pws.dvd {m : Int} {pws : List (Nat × Int)} (h : Pws m pws) {pq : Nat × Int} (hp : pq ∈ pws) : (pq.1 : Int) ∣ pq.2 ∧ pq.2 ∣ m := by
  obtain ⟨_, e, c, he, h1, h2, _⟩ := h.mem pq hp
  refine ⟨?_, ⟨c, h2⟩⟩
  rw [h1]
  obtain ⟨e', rfl⟩ : ∃ e', e = e' + 1 := ⟨e - 1, by omega⟩
  rw [Nat.pow_succ]
  exact Int.natCast_dvd_natCast.mpr (Nat.dvd_mul_left _ _)
/-- the row after the first i primes -/
structure Fx (m : Int) (pws : List (Nat × Int)) (i : Nat) (found : List Int) : Prop where
  rg : ∀ y ∈ found, 0 ≤ y ∧ y < m
  no : ∀ pq ∈ pws.take i, ¬ ∀ y ∈ found, (pq.1 : Int) ∣ y
theorem fx_keep {m : Int} {pws : List (Nat × Int)} {i : Nat} {found : List Int} {pq : Nat × Int} (h : Fx m pws i found) (hp : pws[i]? = some pq) (hn : ¬ ∀ y ∈ found, (pq.1 : Int) ∣ y) : Fx m pws (i + 1) found := by
  refine ⟨h.rg, fun r hr => ?_⟩
  rw [List.take_add_one, hp] at hr
  rcases List.mem_append.mp hr with hr | hr
  · exact h.no r hr
  · have : r = pq := by simpa using hr
    subst this; exact hn
theorem fx_set {m : Int} {pws : List (Nat × Int)} {i at_ : Nat} {found : List Int} {pq : Nat × Int} (W : Pws m pws) (hm : 0 < m) (h : Fx m pws i found) (hp : pws[i]? = some pq) (hat : at_ < found.length) (hn : ∀ y ∈ found, (pq.1 : Int) ∣ y) : Fx m pws (i + 1) (found.set at_ ((found.getD at_ 0 + m / pq.2) % m)) := by
  have hpm := List.mem_of_getElem? hp
  obtain ⟨h10, e, c, he, h1, h2, h3⟩ := W.mem pq hpm
  have q0 : pq.2 ≠ 0 := fun z => by rw [z, Int.zero_mul] at h2; omega
  have hc : m / pq.2 = c := by rw [h2, Int.mul_ediv_cancel_left _ q0]
  rw [hc]
  have hgd : found.getD at_ 0 = found[at_] := by rw [List.getD_eq_getElem?_getD, List.getElem?_eq_getElem hat]; rfl
  rw [hgd]
  have hmd : ∀ k : Int, k ∣ m → k ∣ (found[at_] + c) % m → k ∣ found[at_] + c := fun k hk hd => by
    have e1 : found[at_] + c = (found[at_] + c) % m + m * ((found[at_] + c) / m) := (Int.emod_add_mul_ediv _ _).symm
    rw [e1]
    exact Int.dvd_add hd (Int.dvd_mul_of_dvd_left hk)
  have hnew : (found[at_] + c) % m ∈ found.set at_ ((found[at_] + c) % m) := List.mem_set hat _
  refine ⟨fun y hy => ?_, fun r hr hd => ?_⟩
  · rcases mem_set hy with rfl | ⟨j, _, hj⟩
    · exact ⟨Int.emod_nonneg _ (by omega), Int.emod_lt_of_pos _ hm⟩
    · exact h.rg y (List.mem_of_getElem? hj)
  · rw [List.take_add_one, hp] at hr
    rcases List.mem_append.mp hr with hr | hr
    · -- a prime of before
      have hrm : r ∈ pws := List.mem_of_mem_take hr
      have hne : r.1 ≠ pq.1 := by
        obtain ⟨j, hj, rfl⟩ := List.mem_take_iff_getElem.mp hr
        have hi : i < pws.length := (List.getElem?_eq_some_iff.mp hp).1
        have := List.pairwise_iff_getElem.mp W.inc j i (by omega) hi (by omega)
        rw [List.getElem?_eq_getElem hi] at hp
        cases hp
        exact this
      have hrd := W.dvd hrm
      have hr10 := (W.mem r hrm).1
      have hcop : Nat.gcd r.1 (pq.1 ^ e) = 1 := Nat.Coprime.pow_right e (P10_cop _ hr10 _ h10 hne)
      obtain ⟨u, v, huv⟩ := bezI (a := (r.1 : Int)) (n := pq.1 ^ e) (by rw [Int.natAbs_natCast]; exact hcop)
      have hrmd : (r.1 : Int) ∣ m := Int.dvd_trans hrd.1 hrd.2
      have hrc : (r.1 : Int) ∣ c := by
        obtain ⟨z, hz⟩ := hrmd
        rw [h2, h1] at hz
        refine ⟨u * c + z * v, ?_⟩
        have : c = c * ((r.1 : Int) * u + ((pq.1 ^ e : Nat) : Int) * v) := by rw [huv, Int.mul_one]
        grind
      refine h.no r hr fun y hy => ?_
      obtain ⟨j, hj, rfl⟩ := List.mem_iff_getElem.mp hy
      by_cases ej : j = at_
      · subst ej
        have := Int.dvd_sub (hmd _ hrmd (hd _ hnew)) hrc
        rwa [Int.add_sub_cancel] at this
      · refine hd _ (List.mem_iff_getElem.mpr ⟨j, by simpa using hj, ?_⟩)
        rw [List.getElem_set_ne (Ne.symm ej)]
    · have : r = pq := by simpa using hr
      subst this
      have hpd : (r.1 : Int) ∣ m := Int.dvd_trans (W.dvd hpm).1 (W.dvd hpm).2
      have h5 := Int.dvd_sub (hmd _ hpd (hd _ hnew)) (hn _ (List.getElem_mem hat))
      rw [Int.add_sub_assoc, Int.add_comm, Int.sub_add_cancel] at h5
      exact h3 h5
theorem fx_end {x : Nat × Nat} (hx : x ∈ PQs) {m : Int} {pws : List (Nat × Int)} {found : List Int} (W : Pws m pws) (hp : Per x.1 x.2 m) (h : Fx m pws pws.length found) : gcdl m.natAbs found = 1 :=
  prim_of hx hp fun p hp hd => by
    obtain ⟨q, hq⟩ := W.all p hp hd
    exact h.no (p, q) (by rw [List.take_length]; exact hq)
end K62
end
section
set_option Elab.async false
set_option linter.all false
set_option maxRecDepth 100000
set_option maxHeartbeats 4000000
set_option exponentiation.threshold 100
namespace K62
open PySem PySem.Spec PyProof.Rows L2
variable {P : Program} {w : World} {K : PySem.W.Frag} {mg : Str → Option Value} {base : Heap}
/-- a tuple laid in place -/
theorem Src.tupR {X : Cx} {U : UA} {σ : L2.St} {H : Hp} {e tg : Expr} {xs : List V} (h : R X U e σ H (NT xs)) : Src X U tg e σ H (fun J H1 => ∃ T, H1 T = some (.tup xs) ∧ Walk J xs.length (fun H => H T = some (.tup xs)) (YAt xs)) :=
  Src.of (pi_tup h) fun H1 l j Rr q => ⟨rfl, l, j, fun v H2 l2 j2 ⟨p, e, hp⟩ => ⟨p, e, ⟨xs, .inl (.inl hp)⟩, q _ H2 l2 j2 ⟨p, hp, walk_tup.mono (fun H h => .inl (.inl h)) fun i H x H' _ _ y => y⟩⟩⟩
/-! ### powers -/
abbrev sp_powers : Sp := FSp (α := Int × Hp) nU (fun m vs H => vs = [.int m.1] ∧ 0 < m.1 ∧ H = m.2) (fun m v H => ∃ L vs pws, v = .ref L ∧ m.2 L = none ∧ H L = some (.lst vs) ∧ Rep2 PrR pws vs H ∧ Pws m.1 pws)
theorem ok_powers (F : DefAt K mg "_law_powers" s__law_powers ps__law_powers) (B : Bln mg) : Callee P w K mg base 1 "_law_powers" ps__law_powers sp_powers := by
  refine callee_of F sc__law_powers (fun vs H Q E h => ?_) fun f cdv A outer s H vs Q E hr h => ?_
  · obtain ⟨a, _, ⟨rfl, _⟩, _⟩ := h; rfl
  obtain ⟨⟨m, H0⟩, _, ⟨rfl, hm, hH0⟩, k⟩ := h
  have hm : 0 < m := hm
  have hH0 : H = H0 := hH0
  subst hH0
  refine S.asg (U := none) (P := NLs none H fun vs _ => vs = []) sc__law_powers.nd (i := 1) rfl (.inl rfl) trivial (R.lst (U := none) RA.nil (fun vs H1 e => by cases e; exact Nat.zero_le _) (fun vs p H1 l1 _ e hp => by cases e; exact ⟨p, [], rfl, l1.fresh trivial hp, (fun z => z), upd_same, rfl⟩)) ?_
  rintro v H1 l1 _ ⟨L, _, rfl, hL0, _, hL, rfl⟩
  show S _ _ [some (.int m), some (.ref L), none, none] _ _
  have hP10 : P10.map (fun n : Nat => V.int (n : Int)) = [V.int 2, V.int 3, V.int 5, V.int 7, V.int 11, V.int 13, V.int 17, V.int 19, V.int 23, V.int 29] := rfl
  refine S.cut (Mid := fun σ' H' => ∃ x2 x3 vs pws, σ' = [some (.int m), some (.ref L), x2, x3] ∧ Le none H H' ∧ H' L = some (.lst vs) ∧ Rep2 PrR pws vs H' ∧ Pws m pws) (S1.for (U := none) (Src.tupR (xs := nvs P10) (R.tup (RA.cons R.int (RA.cons R.int (RA.cons R.int (RA.cons R.int (RA.cons R.int (RA.cons R.int (RA.cons R.int (RA.cons R.int (RA.cons R.int (RA.last R.int)))))))))) ?_ ?_)) trivial PassesOwn.never rfl fun J H2 l2 _ ⟨T, hT, wk⟩ => ⟨_, _, _, wk,
    fun i σ' H' => ∃ x2 x3 vs pws, σ' = [some (.int m), some (.ref L), x2, x3] ∧ Le none H H' ∧ H' T = some (.tup (nvs P10)) ∧ H' L = some (.lst vs) ∧ Rep2 PrR pws vs H' ∧ (∀ pq ∈ pws, pq.1 ∈ P10.take i ∧ ∃ (e : Nat) (c : Int), 1 ≤ e ∧ pq.2 = ((pq.1 ^ e : Nat) : Int) ∧ m = pq.2 * c ∧ ¬ (pq.1 : Int) ∣ c) ∧ (∀ p ∈ P10.take i, (p : Int) ∣ m → ∃ q, (p, q) ∈ pws) ∧ (pws.Pairwise fun a b => a.1 ≠ b.1) ∧ pws.length ≤ i, ?_, fun i σ' H' _ ⟨_, _, _, _, _, _, hT, _⟩ => hT, ?_, ?_⟩) ?_
  · rintro vs H1 ⟨v, r, rfl, _, v, r, rfl, _, v, r, rfl, _, v, r, rfl, _, v, r, rfl, _, v, r, rfl, _, v, r, rfl, _, v, r, rfl, _, v, r, rfl, _, v, r, rfl, _, rfl⟩; show 10 ≤ sizeLine; decide
  · rintro vs p H1 _ _ ⟨v, r, rfl, rfl, v, r, rfl, rfl, v, r, rfl, rfl, v, r, rfl, rfl, v, r, rfl, rfl, v, r, rfl, rfl, v, r, rfl, rfl, v, r, rfl, rfl, v, r, rfl, rfl, v, r, rfl, rfl, rfl⟩ _; exact ⟨p, rfl, upd_same⟩
  · exact ⟨none, none, [], [], rfl, l1.trans l2, hT, l2.keep _ _ (fun z => z) hL, ⟨rfl, fun i a v e => nomatch e⟩, (fun pq h => nomatch h), (fun p h => nomatch h), List.Pairwise.nil, Nat.le_refl _⟩
  · rintro i v σ' H' H'' hi ⟨x2, x3, us, pws, rfl, l, hT', hL', hrp, w1, w2, w3, w4⟩ ⟨rfl, hv⟩
    obtain ⟨p, hp, rfl⟩ := nvs_get hv
    have hp10 := List.mem_of_getElem? hp
    obtain ⟨p2, p30⟩ := P10_ge p hp10
    have etake : P10.take (i + 1) = P10.take i ++ [p] := by rw [List.take_add_one, hp]; rfl
    have hpn : p ∉ P10.take i := fun hm => by
      obtain ⟨j, hj, e⟩ := List.mem_take_iff_getElem.mp hm
      have hi' : i < P10.length := (List.getElem?_eq_some_iff.mp hp).1
      have nd : P10.Nodup := by decide
      exact List.pairwise_iff_getElem.mp nd j i (by omega) hi' (by omega) (e.trans (List.getElem?_eq_some_iff.mp hp).2.symm)
    refine ⟨_, Tg.name sc__law_powers.nd (i := 2) rfl (.inl rfl), ?_⟩
    show S _ _ [some (.int m), some (.ref L), some (.int p), x3] _ _
    refine S.asgI (U := none) sc__law_powers.nd (i := 3) rfl (.inl rfl) trivial R.int fun H3 l3 _ => ?_
    show S _ _ [some (.int m), some (.ref L), some (.int p), some (.int 1)] _ _
    refine S.cut (Mid := fun σ' H' => ∃ (e : Nat) (c : Int), σ' = [some (.int m), some (.ref L), some (.int p), some (.int ((p ^ e : Nat) : Int))] ∧ Le none H'' H' ∧ m = ((p ^ e : Nat) : Int) * c ∧ ¬ (p : Int) ∣ c)
      (S1.while (U := none) PassesOwn.never (fun σ' H' => ∃ (e : Nat), σ' = [some (.int m), some (.ref L), some (.int p), some (.int ((p ^ e : Nat) : Int))] ∧ Le none H'' H' ∧ ((p ^ e : Nat) : Int) ∣ m) (fun σ' _ => (m - slI σ' 3).toNat) ⟨0, by simp, l3, by simp⟩ (fun _ _ _ => trivial)
        (φ := fun σ' _ b => b = decide (V.int (m % (slI σ' 3 * p)) = V.int 0)) ?_ ?_ ?_) ?_
    · rintro σ' H' ⟨e, rfl, l', hd⟩
      have hq0 : (0 : Int) < ((p ^ e : Nat) : Int) := by have := Nat.pow_pos (n := e) (show 0 < p by omega); omega
      exact RT.eq rfl (R.mod (Int.mul_pos hq0 (by omega)) (R.int1I (by rfl) B.int (R.var (i := 0) rfl (.inl rfl) rfl)) (R.mulS (.inr (by omega)) (R.var (i := 3) rfl (.inl rfl) rfl) (R.var (i := 2) rfl (.inl rfl) rfl))) R.int
    · rintro σ' H' ⟨e, rfl, l', hd⟩ hb H4 l4 _
      have hz : m % (((p ^ e : Nat) : Int) * p) = 0 := V.int.inj (of_decide_eq_true hb.symm)
      have hdv := Int.dvd_of_emod_eq_zero hz
      have hq0 : (0 : Int) < ((p ^ e : Nat) : Int) := by have := Nat.pow_pos (n := e) (show 0 < p by omega); omega
      have hle := Int.le_of_dvd hm hdv
      have e1 : ((p ^ e : Nat) : Int) * (p : Int) = ((p ^ (e + 1) : Nat) : Int) := by rw [Nat.pow_succ, Int.natCast_mul]
      refine S.asgI (U := none) sc__law_powers.nd (i := 3) rfl (.inl rfl) trivial (R.mulS (.inr (by omega)) (R.var (i := 3) rfl (.inl rfl) rfl) (R.var (i := 2) rfl (.inl rfl) rfl)) fun H5 l5 _ => S.nil ⟨⟨e + 1, by rw [← e1]; rfl, (l'.trans l4).trans l5, by rw [← e1]; exact hdv⟩, ?_⟩
      show (m - ((p ^ e : Nat) : Int) * (p : Int)).toNat < (m - ((p ^ e : Nat) : Int)).toNat
      have h2 : ((p ^ e : Nat) : Int) * 2 ≤ ((p ^ e : Nat) : Int) * p := Int.mul_le_mul_of_nonneg_left (by omega) (by omega)
      omega
    · rintro σ' H' ⟨e, rfl, l', hd⟩ hb H4 l4 _
      obtain ⟨c, hc⟩ := hd
      refine ⟨e, c, rfl, l'.trans l4, hc, fun ⟨z, hz⟩ => ?_⟩
      have : decide (V.int (m % (((p ^ e : Nat) : Int) * p)) = V.int 0) = true := decide_eq_true (by rw [hc, hz, ← Int.mul_assoc, Int.mul_emod_right])
      exact Bool.noConfusion (hb.trans this)
    · rintro σ' H' ⟨e, c, rfl, l', hc, hpc⟩
      have lL := l'.keep _ _ (fun z => z) hL'
      refine S.one (S1.if (U := none) trivial (RT.gt (R.var (i := 3) rfl (.inl rfl) rfl) R.int) (fun hb H4 l4 _ => ?_) (fun hb H4 l4 _ => S.nil ?_))
      · have hgt : (1 : Int) < ((p ^ e : Nat) : Int) := of_decide_eq_true hb.symm
        have he : 1 ≤ e := by
          refine Classical.byContradiction fun z => ?_
          have : e = 0 := by omega
          subst this
          simp at hgt
        have hpr : ∀ {pos pa pb : Pos} {kt : Nat}, R (cxOf CX0 P w K mg base N__law_powers "_law_powers" (defScope s__law_powers) f cdv A outer s H E).nox none (.Tuple [.Name "_law_p" pa, .Name "_law_q" pb] kt pos) [some (.int m), some (.ref L), some (.int p), some (.int ((p ^ e : Nat) : Int))] H4 (PrR (p, ((p ^ e : Nat) : Int))) := by
          intro pos pa pb kt
          refine R.tup (RA.cons (R.var (i := 2) rfl (.inl rfl) rfl) (RA.last (R.var (i := 3) rfl (.inl rfl) rfl))) ?_ ?_
          · rintro vs H1 ⟨v, r, rfl, _, v, r, rfl, _, rfl⟩; show 2 ≤ sizeLine; decide
          · rintro vs p' H1 _ _ ⟨v, r, rfl, rfl, v, r, rfl, rfl, rfl⟩ _; exact ⟨p', rfl, upd_same⟩
        have hlen : us.length = pws.length := hrp.1
        have l4L := l4.keep _ _ (fun z => z) lL
        have hi10 : i < 10 := hi
        refine S.append (U := none) (P := PrR (p, ((p ^ e : Nat) : Int))) trivial l4L (fun z => z) (by omega) (R.var (i := 1) rfl (.inl rfl) rfl) hpr ?_ rfl (pe_bm PySem.F.plainAttrs_list PySem.F.slot_list_append PySem.F.type_list_append mt_append (R.var (i := 1) rfl (.inl rfl) rfl) (RA.last hpr))
        rintro v H5 l5 _ hv5 hL5
        have lH5 := ((l.trans l').trans l4).trans l5
        have ltk : Tk H'' (upd H5 L (.lst (us ++ [v]))) := ((l'.trans l4).trans l5).tup.trans (upd_tk hL5)
        refine S.nil ⟨_, _, us ++ [v], pws ++ [(p, ((p ^ e : Nat) : Int))], rfl, lH5.mut trivial hL0, ltk _ _ hT', upd_same, ?_, fun pq hpq => ?_, fun p' hp' hd => ?_, ?_, ?_⟩
        · refine ⟨by simp [hlen], fun j a u e1 e2 => ?_⟩
          by_cases hj : j < pws.length
          · rw [List.getElem?_append_left hj] at e1
            rw [List.getElem?_append_left (by omega)] at e2
            exact Fz.mv _ _ _ ltk (hrp.2 j a u e1 e2)
          · have hj' : j = pws.length := by have := (List.getElem?_eq_some_iff.mp e1).1; simp at this; omega
            subst hj'
            rw [List.getElem?_append_right (Nat.le_refl _)] at e1
            rw [← hlen, List.getElem?_append_right (Nat.le_refl _)] at e2
            simp at e1 e2
            subst e1 e2
            exact Fz.mv _ _ _ (upd_tk hL5) hv5
        · rcases List.mem_append.mp hpq with h | h
          · obtain ⟨h1, h2⟩ := w1 pq h
            exact ⟨by rw [etake]; exact List.mem_append_left _ h1, h2⟩
          · have : pq = (p, ((p ^ e : Nat) : Int)) := by simpa using h
            subst this
            exact ⟨by rw [etake]; exact List.mem_append_right _ (by simp), e, c, he, rfl, hc, hpc⟩
        · rw [etake] at hp'
          rcases List.mem_append.mp hp' with h | h
          · obtain ⟨q, hq⟩ := w2 p' h hd
            exact ⟨q, List.mem_append_left _ hq⟩
          · have : p' = p := by simpa using h
            subst this
            exact ⟨((p' ^ e : Nat) : Int), List.mem_append_right _ (List.mem_singleton.mpr rfl)⟩
        · refine List.pairwise_append.mpr ⟨w3, by simp, fun a ha b hb => ?_⟩
          have : b = (p, ((p ^ e : Nat) : Int)) := by simpa using hb
          subst this
          exact fun z => hpn (by have h1 := (w1 a ha).1; rwa [show a.1 = p from z] at h1)
        · rw [List.length_append]; show pws.length + 1 ≤ _; omega
      · have hle : ¬ (1 : Int) < ((p ^ e : Nat) : Int) := of_decide_eq_false hb.symm
        have he : e = 0 := by
          refine Classical.byContradiction fun z => hle ?_
          obtain ⟨e', rfl⟩ : ∃ e', e = e' + 1 := ⟨e - 1, by omega⟩
          have h1 : 0 < p ^ e' := Nat.pow_pos (by omega)
          have h2 : 1 * 2 ≤ p ^ e' * p := Nat.mul_le_mul (by omega) p2
          rw [Nat.pow_succ]
          omega
        subst he
        have ltk := (l'.trans l4).tup
        have hpm : ¬ (p : Int) ∣ m := by rw [hc]; simpa using hpc
        refine ⟨_, _, us, pws, rfl, (l.trans l').trans l4, ltk _ _ hT', (l'.trans l4).keep _ _ (fun z => z) hL', hrp.tk ltk, fun pq hpq => ?_, fun p' hp' hd => ?_, w3, by omega⟩
        · obtain ⟨h1, h2⟩ := w1 pq hpq
          exact ⟨by rw [etake]; exact List.mem_append_left _ h1, h2⟩
        · rw [etake] at hp'
          rcases List.mem_append.mp hp' with h | h
          · exact w2 p' h hd
          · have : p' = p := by simpa using h
            subst this
            exact absurd hd hpm
  · rintro σ' H' ⟨x2, x3, us, pws, rfl, l, hT', hL', hrp, w1, w2, w3, w4⟩
    exact ⟨x2, x3, us, pws, rfl, l, hL', hrp, w1, w2, w3, w4⟩
  · rintro σ' H' ⟨x2, x3, us, pws, rfl, l, hL', hrp, W⟩
    exact S.ret (U := none) trivial (R.var (i := 1) rfl (.inl rfl) rfl) fun v H2 l2 _ e => k v H2 (l.trans l2) trivial ⟨L, us, pws, e, hL0, l2.keep _ _ (fun z => z) hL', hrp.tk l2.tup, W⟩
end K62
end
section
set_option Elab.async false
set_option linter.all false
set_option maxRecDepth 100000
set_option maxHeartbeats 4000000
set_option exponentiation.threshold 100
namespace K62
open PySem PySem.Spec PyProof.Rows L2
variable {P : Program} {w : World} {K : PySem.W.Frag} {mg : Str → Option Value} {base : Heap}
theorem Per.mul1 {p q : Nat} {m : Int} (h : Per p q m) : Per p q (m * p) := by
  obtain ⟨a, b, rfl⟩ := h
  exact ⟨a + 1, b, by rw [← Int.natCast_mul, Nat.pow_succ, Nat.mul_right_comm]⟩
theorem Per.mul2 {p q : Nat} {m : Int} (h : Per p q m) : Per p q (m * q) := by
  obtain ⟨a, b, rfl⟩ := h
  exact ⟨a, b + 1, by rw [← Int.natCast_mul, Nat.pow_succ, Nat.mul_assoc]⟩
def prms (x : Nat × Nat) : List Nat := if x.2 = 1 then [x.1] else [x.1, x.2]
theorem prms_per {x : Nat × Nat} {p : Nat} (h : p ∈ prms x) {m : Int} (hp : Per x.1 x.2 m) : Per x.1 x.2 (m * p) := by
  unfold prms at h
  split at h
  · have : p = x.1 := by simpa using h
    subst this; exact hp.mul1
  · rcases List.mem_cons.mp h with rfl | h
    · exact hp.mul1
    · have : p = x.2 := by simpa using h
      subst this; exact hp.mul2
theorem prms_len (x : Nat × Nat) : (prms x).length ≤ 2 := by unfold prms; split <;> simp
abbrev T39 : Int := 10 ^ (39 : Int).toNat
structure PdA where
  u : Addr
  c : Addr
  x : Nat × Nat
  p : Addr
  far : Bool
abbrev PdA.U (x : PdA) : UA := some (x.u, x.c)
abbrev sp_period : Sp := FSp (α := PdA) PdA.U (fun x vs H => vs = [.ref x.u, .ref x.p, .bl x.far] ∧ x.x ∈ PQs ∧ H x.p = some (.tup (nvs (prms x.x)))) (fun x => In fun m => Per x.x.1 x.x.2 m ∧ 0 < m ∧ m < T39)
theorem ok_period (F : DefAt K mg "_law_period" s__law_period ps__law_period) (B : Bln mg) (C1 : Callee P w K mg base 1 "_law_draw" ps__law_draw sp_draw) : Callee P w K mg base 2 "_law_period" ps__law_period sp_period := by
  refine callee_of F sc__law_period (fun vs H Q E h => ?_) fun f cdv A outer s H vs Q E hr h => ?_
  · obtain ⟨a, _, ⟨rfl, _⟩, _⟩ := h; rfl
  obtain ⟨⟨u, c, x, p, far⟩, jn, ⟨rfl, hx, hp⟩, k⟩ := h
  have jn : Jn (some (u, c)) H := jn
  have hx : x ∈ PQs := hx
  have hp : H p = some (.tup (nvs (prms x))) := hp
  have hpl := prms_len x
  refine S.asgI (U := some (u, c)) sc__law_period.nd (i := 3) rfl (.inl rfl) jn R.int fun H1 l1 j1 => ?_
  show S _ _ [some (.ref u), some (.ref p), some (.bl far), some (.int 1), none, none] _ _
  let G : Hp → Prop := fun H' => Le (some (u, c)) H H' ∧ Jn (some (u, c)) H'
  refine S.cut (Mid := fun σ' H' => ∃ m x4 x5, σ' = [some (.ref u), some (.ref p), some (.bl far), some (.int m), x4, x5] ∧ G H' ∧ Per x.1 x.2 m ∧ 0 < m ∧ m < T39) (S1.for (U := some (u, c)) (Src.tup (R.var (i := 1) rfl (.inl rfl) rfl) (l1.tup _ _ hp)) j1 PassesOwn.never rfl fun J H2 l2 j2 wk => ⟨_, _, _, wk,
    fun i σ' H' => ∃ m x4 x5, σ' = [some (.ref u), some (.ref p), some (.bl far), some (.int m), x4, x5] ∧ G H' ∧ Per x.1 x.2 m ∧ 0 < m ∧ m < T39, ⟨1, none, none, rfl, ⟨l1.trans l2, j2⟩, ⟨0, 0, by simp⟩, by decide, by decide⟩, fun i σ' H' _ ⟨_, _, _, _, g, _⟩ => g.1.tup _ _ hp, ?_, fun σ' H' h => h⟩) ?_
  · rintro i v σ' H' H'' hi ⟨m, x4, x5, rfl, g, hm, hm0, hm1⟩ ⟨rfl, hv⟩
    obtain ⟨q, hq, rfl⟩ := nvs_get hv
    have hqm := List.mem_of_getElem? hq
    have hq1 : 0 < q ∧ q < 30 := by
      have := (PQ_facts x hx)
      unfold prms at hqm
      split at hqm
      · have : q = x.1 := by simpa using hqm
        omega
      · rcases List.mem_cons.mp hqm with rfl | h
        · omega
        · have : q = x.2 := by simpa using h
          omega
    refine ⟨_, Tg.name sc__law_period.nd (i := 4) rfl (.inl rfl), ?_⟩
    show S _ _ [some (.ref u), some (.ref p), some (.bl far), some (.int m), some (.int q), x5] _ _
    refine S.one (S1.for (U := some (u, c)) (φ := fun J _ => ∃ n : Nat, Walk J n (fun _ => True) (YFn fun i => .int (i : Int))) (Src.of (pi_range1 (by rfl) B.range (RA.last (P := In fun i => 0 ≤ i ∧ i < 60) (R.callU (U := some (u, c)) (σ := [some (.ref u), some (.ref p), some (.bl far), some (.int m), some (.int q), x5]) (H := H'') C1 hr (by decide) (by rfl) (RA.cons (R.var (i := 0) rfl (.inl rfl) rfl) (RA.last (R.ifE (P := Is (.int (if far then 60 else 4))) (RT.is (k := far) (R.var (i := 2) rfl (.inl rfl) rfl)) (fun e => ?_) (fun e => ?_)))) ?_)) rfl) (fun H2 l j Rr q => ⟨rfl, l, j, fun vs H3 l3 j3 ⟨v, r, e, ⟨n, e1, n0, n1⟩, e2⟩ => ⟨n, by cases e2; rw [e1] at e; exact e, by omega, by omega, q _ H3 l3 j3 ⟨n.toNat, walk_range.mono (fun _ h => h) fun i H x H' _ _ y => ?_⟩⟩⟩)) g.2 PassesOwn.never rfl fun J H3 l3 j3 ⟨n, wk⟩ => ⟨_, _, _, wk,
      fun i σ' H' => ∃ m x5, σ' = [some (.ref u), some (.ref p), some (.bl far), some (.int m), some (.int q), x5] ∧ G H' ∧ Per x.1 x.2 m ∧ 0 < m ∧ m < T39, ⟨m, x5, rfl, ⟨g.1.trans l3, j3⟩, hm, hm0, hm1⟩, fun _ _ _ _ _ => trivial, ?_, ?_⟩)
    · rw [← e]; exact R.int
    · rw [← e]; exact R.int
    · rintro vs H3 l3 _ ⟨v, r, rfl, rfl, v', r', rfl, rfl, rfl⟩
      refine ⟨(u, c, if far then 60 else 4), rfl, ⟨rfl, by show (0 : Int) < if far then 60 else 4; cases far <;> decide, Nat.lt_of_lt_of_le (show ((if far then 60 else 4 : Int)).natAbs < 2 ^ 30 by cases far <;> decide) (Nat.pow_le_pow_right (by decide) (by decide))⟩, fun v H2 _ _ ⟨i, e, i0, i1⟩ => ⟨i, e, i0, ?_⟩⟩
      have i1 : i < (if far then 60 else 4) := i1
      cases far
      · have : i < 4 := i1
        omega
      · exact i1
    · obtain ⟨e1, e2⟩ := y
      exact ⟨e1, by rw [e2]; show V.int (0 + _) = _; rw [Int.zero_add]⟩
    · rintro i v σ' H' H'' hi ⟨m, x5, rfl, g, hm, hm0, hm1⟩ ⟨rfl, rfl⟩
      refine ⟨_, Tg.name sc__law_period.nd (i := 5) rfl (.inl rfl), ?_⟩
      show S _ _ [some (.ref u), some (.ref p), some (.bl far), some (.int m), some (.int q), some (.int i)] _ _
      have hmul : CMul m (q : Int) := .inr (by omega)
      refine S.asg (U := some (u, c)) (P := In fun m => Per x.1 x.2 m ∧ 0 < m ∧ m < T39) sc__law_period.nd (i := 3) rfl (.inl rfl) g.2 (R.ifE (RT.lt (R.mulS hmul (R.var (i := 3) rfl (.inl rfl) rfl) (R.var (i := 4) rfl (.inl rfl) rfl)) (R.pow ⟨by decide, by decide, by decide⟩ R.int R.int)) (fun e => ?_) (fun e => ?_)) ?_
      · exact (R.toIn (R.mulS hmul (R.var (i := 3) rfl (.inl rfl) rfl) (R.var (i := 4) rfl (.inl rfl) rfl))).imIn fun z hz => by rw [hz]; exact ⟨prms_per hqm hm, Int.mul_pos hm0 (by omega), of_decide_eq_true e.symm⟩
      · exact (R.toIn (R.var (i := 3) rfl (.inl rfl) rfl)).imIn fun z hz => by rw [hz]; exact ⟨hm, hm0, hm1⟩
      · rintro v H4 l4 j4 ⟨m', rfl, h⟩
        exact S.nil ⟨m', _, rfl, ⟨g.1.trans l4, j4⟩, h⟩
    · rintro σ' H' ⟨m, x5, rfl, g, h⟩
      exact ⟨m, _, _, rfl, g, h⟩
  · rintro σ' H' ⟨m, x4, x5, rfl, g, h⟩
    exact S.ret (U := some (u, c)) g.2 (R.var (i := 3) rfl (.inl rfl) rfl) fun v H2 l2 j2 e => k v H2 (g.1.trans l2) j2 ⟨m, e, h⟩

/-- a list that H1 does not know -/
theorem newLst1 {X : Cx} {U : UA} {σ : L2.St} {H : Hp} {e tg : Expr} {H1 : Hp} {Q : List V → Hp → Prop} (h : R X U e σ H (fun v H2 => ∃ p xs, v = .ref p ∧ H2 p = some (.lst xs) ∧ ¬ Mv U p ∧ H1 p = none ∧ Q xs H2)) : Src X U tg e σ H (fun J H2 => ∃ p xs, H2 p = some (.lst xs) ∧ ¬ Mv U p ∧ H1 p = none ∧ Q xs H2 ∧ Walk J xs.length (fun H => H p = some (.lst xs)) (YAt xs)) :=
  Src.of (pi_list h) fun H2 l j Rr q => ⟨rfl, l, j, fun v H3 l3 j3 ⟨p, xs, e, hp, nm, hn, hq⟩ => ⟨p, e, ⟨xs, .inl (.inl hp)⟩, q _ H3 l3 j3 ⟨p, xs, hp, nm, hn, hq, walk_list.mono (fun H h => .inl (.inl h)) fun i H x H' _ _ y => y⟩⟩⟩
/-! ### fixed -/
structure FiA where
  u : Addr
  c : Addr
  x : Nat × Nat
  m : Int
  p : Addr
  k : Bool
  l : List Int
abbrev FiA.U (x : FiA) : UA := some (x.u, x.c)
structure FiA.Ok (x : FiA) : Prop where
  pq : x.x ∈ PQs
  per : Per x.x.1 x.x.2 x.m
  m0 : 0 < x.m
  l1 : 1 ≤ x.l.length
  l3 : x.l.length ≤ 3
  mb : x.m.natAbs < 2 ^ 134
/-- a primitive row -/
def PrimR (m : Int) (n : Nat) : VP := fun v H => ∃ c, TpI c v H ∧ c.length = n ∧ (∀ y ∈ c, 0 ≤ y ∧ y < m) ∧ gcdl m.natAbs c = 1
instance {m : Int} {n : Nat} : Fz (PrimR m n) := ⟨fun _ _ _ t ⟨c, h, r⟩ => ⟨c, Fz.mv _ _ _ t h, r⟩⟩
abbrev sp_fixed : Sp := FSp (α := FiA) FiA.U (fun x vs H => vs = [.ref x.u, .int x.m, .ref x.p] ∧ Sq x.k H x.p (x.l.map V.int) ∧ (x.k = true → ¬ Mv x.U x.p) ∧ x.Ok) (fun x => PrimR x.m x.l.length)
theorem ok_fixed (F : DefAt K mg "_law_fixed" s__law_fixed ps__law_fixed) (B : Bln mg) (C1 : Callee P w K mg base 1 "_law_draw" ps__law_draw sp_draw) (C2 : Callee P w K mg base 1 "_law_powers" ps__law_powers sp_powers) : Callee P w K mg base 2 "_law_fixed" ps__law_fixed sp_fixed := by
  refine callee_of F sc__law_fixed (fun vs H Q E h => ?_) fun f cdv A outer s H vs Q E hr h => ?_
  · obtain ⟨a, _, ⟨rfl, _⟩, _⟩ := h; rfl
  obtain ⟨⟨u, c, x, m, p, kk, l0⟩, jn, ⟨rfl, hp, nm, O⟩, k⟩ := h
  have jn : Jn (some (u, c)) H := jn
  have hm : 0 < m := O.m0
  have hl1 : 1 ≤ l0.length := O.l1
  have hl3 : l0.length ≤ 3 := O.l3
  have hp : Sq kk H p (l0.map V.int) := hp
  have nm : kk = true → ¬ Mv (some (u, c)) p := nm
  have un64 := hr.units
  -- found, at
  refine S.par (U := some (u, c)) (Ps := A2 (NLs (some (u, c)) H fun vs _ => vs = (l0.map (· % m)).map V.int) (A2 (In fun i => 0 ≤ i ∧ i < l0.length) A0)) rfl sc__law_fixed.nd (i := 3) (j := 4) rfl rfl (by decide) rfl rfl jn (RA.consS ?_ ((R.lc (U := some (u, c)) (P := NLs (some (u, c)) H fun vs _ => vs.length = l0.length ∧ ∀ i y, vs[i]? = some y → y = V.int (l0.getD i 0 % m)) (own := [("_law_number", 7)]) rfl sc__law_fixed.nd (Src.sq (R.var (i := 2) rfl (.inl rfl) rfl) hp nm) (blkOk_by (N := N__law_fixed) (sc := defScope s__law_fixed) (by decide +kernel))
    (fun J H1 l1 j1 wk => LcK.map (n := l0.length) (fun i => Is (V.int (l0.getD i 0 % m))) (G := fun H => Sq kk H p (l0.map V.int)) (Y := YAt (l0.map V.int)) (by rw [List.length_map] at wk; exact wk) (by omega) l1 jn (fun i H x H' => yAt_le) (fun H' l' => hp.le nm (l1.trans l')) (fun i y H' H'' hi l' j' yy => ?_))).imp ?_) (RA.last (R.callU C1 hr (by decide) (by rfl) (RA.cons (R.var (i := 0) rfl (.inl rfl) rfl) (RA.last (R.lenS (by rfl) B.len hp nm (R.var (i := 2) rfl (.inl rfl) rfl)))) ?_))) ?_
  · rintro v H1 H2 l ⟨L, vs, e, h1, h2, h3, h4⟩
    exact ⟨L, vs, e, h1, h2, l.keep _ _ h2 h3, h4⟩
  · obtain ⟨rfl, hy⟩ := yy
    obtain ⟨rfl, _⟩ := getV hy
    exact ⟨_, fun s Hb C cl fp => Tg.name sc__law_fixed.nd (i := 7) rfl (.inl rfl), rfl, fun s Hb C cl fp => R.mod hm (R.int1I (by rfl) B.int (R.var (i := 7) rfl (.inl rfl) rfl)) (R.var (i := 1) rfl (.inr (.inl rfl)) rfl)⟩
  · rintro v H1 l1 ⟨L, vs, e, h1, h2, h3, h4, h5⟩
    refine ⟨L, vs, e, h1, h2, h3, ?_⟩
    rw [ints_of h4 h5]
    congr 1
    exact range_map_of rfl fun i a e => by rw [List.getD_eq_getElem?_getD, e]; rfl
  · rintro vs H3 l3 _ ⟨v, r, rfl, rfl, v', r', rfl, rfl, rfl⟩
    rw [List.length_map]
    exact ⟨(u, c, (l0.length : Int)), rfl, ⟨rfl, by show (0 : Int) < ((l0.length : Nat) : Int); omega, Nat.lt_of_lt_of_le (show ((l0.length : Nat) : Int).natAbs < 2 ^ 10 by rw [Int.natAbs_natCast]; omega) (Nat.pow_le_pow_right (by decide) (by decide))⟩, fun v H2 _ _ h => h⟩
  rintro vs H1 l1 j1 ⟨v, r, rfl, ⟨L, _, rfl, hL0, nmL, hL, rfl⟩, v', r', rfl, ⟨at_, rfl, a0, a1⟩, rfl⟩
  obtain ⟨n, rfl⟩ := Int.eq_ofNat_of_zero_le a0
  have hnl : n < l0.length := by omega
  refine ⟨_, _, rfl, ?_⟩
  show S _ _ [some (.ref u), some (.int m), some (.ref p), some (.ref L), some (.int n), none, none, none] _ _
  refine S.cut (Mid := fun σ' H' => ∃ found x5 x6 x7 pws, σ' = [some (.ref u), some (.int m), some (.ref p), some (.ref L), some (.int n), x5, x6, x7] ∧ Le (some (u, c)) H H' ∧ Jn (some (u, c)) H' ∧ H' L = some (.lst (found.map V.int)) ∧ found.length = l0.length ∧ Pws m pws ∧ Fx m pws pws.length found) (S1.for (U := some (u, c)) (newLst1 (H1 := H1) (Q := fun vs H => ∃ pws, Rep2 PrR pws vs H ∧ Pws m pws ∧ H L = some (.lst ((l0.map (· % m)).map V.int))) (R.imp (R.callP (P := fun v H => ∃ Lp vs pws, v = .ref Lp ∧ H1 Lp = none ∧ H Lp = some (.lst vs) ∧ Rep2 PrR pws vs H ∧ Pws m pws) C2 hr (by decide) (by rfl) (RA.last (R.var (i := 1) rfl (.inr (.inl rfl)) rfl)) ?_) ?_)) j1 PassesOwn.never rfl fun J H2 l2 j2 ⟨Lp, vs, hLp, nmp, hLp1, ⟨pws, hrp, W, hL2⟩, wk⟩ => ⟨_, _, _, wk,
    fun i σ' H' => ∃ found x5 x6 x7, σ' = [some (.ref u), some (.int m), some (.ref p), some (.ref L), some (.int n), x5, x6, x7] ∧ Le (some (u, c)) H H' ∧ Jn (some (u, c)) H' ∧ Tk H2 H' ∧ H' Lp = some (.lst vs) ∧ H' L = some (.lst (found.map V.int)) ∧ found.length = l0.length ∧ Fx m pws i found, ?_, fun i σ' H' _ ⟨_, _, _, _, _, _, _, _, h, _⟩ => h, ?_, ?_⟩) ?_
  · rintro vs H3 l3 _ ⟨v, r, rfl, rfl, rfl⟩
    exact ⟨(m, H3), ⟨rfl, hm, rfl⟩, fun v H2 _ _ ⟨Lp, vs, pws, e, h0, h⟩ => ⟨Lp, vs, pws, e, l3.fresh j1 h0, h⟩⟩
  · rintro v H2 l2 ⟨Lp, vs, pws, e, h0, hLp, hrp, W⟩
    exact ⟨Lp, vs, e, hLp, Le.nmv j1 h0, h0, pws, hrp, W, l2.keep _ _ nmL hL⟩
  · refine ⟨l0.map (· % m), none, none, none, rfl, l1.trans l2, j2, Tk.refl _, hLp, hL2, by simp, fun y hy => ?_, fun pq h => nomatch h⟩
    obtain ⟨z, _, rfl⟩ := List.mem_map.mp hy
    exact ⟨Int.emod_nonneg _ (by omega), Int.emod_lt_of_pos _ hm⟩
  · rintro i v σ' H' H'' hi ⟨found, x5, x6, x7, rfl, lH, jH, tk, hLp', hL', hfl, hfx⟩ ⟨rfl, hv⟩
    obtain ⟨⟨q1, q2⟩, hpq, T, rfl, hT⟩ := (hrp.tk tk).get hv
    have hpm := List.mem_of_getElem? hpq
    have hT : H'' T = some (.tup [.int (q1 : Int), .int q2]) := hT
    obtain ⟨h10, e, cc, he, h1, h2, h3⟩ := W.mem _ hpm
    have h10 : q1 ∈ P10 := h10
    have h1 : q2 = ((q1 ^ e : Nat) : Int) := h1
    have h2 : m = q2 * cc := h2
    obtain ⟨p2, p30⟩ := P10_ge q1 h10
    have q20 : 0 < q2 := by rw [h1]; have := Nat.pow_pos (n := e) (show 0 < q1 by omega); omega
    have q2m : q2 ≤ m := Int.le_of_dvd hm ⟨cc, h2⟩
    refine ⟨_, Tg.tup rfl hT (Tgs.cons (Tg.name sc__law_fixed.nd (i := 5) rfl (.inr rfl)) (Tgs.cons (Tg.name sc__law_fixed.nd (i := 6) rfl (.inl rfl)) Tgs.nil)), ?_⟩
    show S _ _ [some (.ref u), some (.int m), some (.ref p), some (.ref L), some (.int n), some (.int q1), some (.int q2), x7] _ _
    have q10 : (0 : Int) < (q1 : Int) := by omega
    have hall : (found.filter fun y => decide (y % (q1 : Int) ≠ 0)) = [] ↔ ∀ y ∈ found, (q1 : Int) ∣ y := by
      rw [List.filter_eq_nil_iff]
      constructor
      · intro h y hy
        have := h y hy
        exact Int.dvd_of_emod_eq_zero (by simpa using this)
      · intro h y hy
        simpa using Int.emod_eq_zero_of_dvd (h y hy)
    refine S.one (S1.if (U := some (u, c)) (φ := fun b => b = true ↔ ∀ y ∈ found, (q1 : Int) ∣ y) jH (RT.eqNil (n := 0) (φ := (· = (found.filter fun y => decide (y % (q1 : Int) ≠ 0)).map V.int)) (by decide) un64 (Pa := NLs (some (u, c)) H'' fun vs _ => vs = (found.filter fun y => decide (y % (q1 : Int) ≠ 0)).map V.int) (fun v H1 H2 _ l ⟨L, vs, e, h1, h2, h3, h4⟩ => ⟨L, vs, e, h1, h2, l.keep _ _ h2 h3, h4⟩) (R.lc (own := [("_law_number", 7)]) rfl sc__law_fixed.nd (Src.lst (R.var (i := 3) rfl (.inl rfl) rfl) hL' nmL) (blkOk_by (N := N__law_fixed) (sc := defScope s__law_fixed) (by decide +kernel))
      (fun J H1 l1 _ wk => LcK.stand (LcK.sel (fun i => decide (found.getD i 0 % (q1 : Int) ≠ 0)) (fun i => V.int (found.getD i 0)) wk (by rw [List.length_map]; omega) l1 jH (fun i H x H' => yAt_le) (fun H' l' => (l1.trans l').keep _ _ nmL hL') (fun i y H' H'' hi l' j' yy => ?_)) (fun vs H' _ e => ?_))) (fun v H1 l ⟨L, vs, e, h1, h2, h3, h4⟩ => ⟨L, vs, e, h3, h4, h4 ▸ Dtm.ints⟩) (fun vs e => ?_)) (fun hb H3 l3 j3 => ?_) (fun hb H3 l3 j3 => S.nil ?_))
    · obtain ⟨rfl, hy⟩ := yy
      obtain ⟨rfl, _⟩ := getV hy
      exact ⟨_, fun s Hb C cl fp => Tg.name sc__law_fixed.nd (i := 7) rfl (.inl rfl), rfl, fun s Hb C cl fp => RTs.one ((RT.ne rfl (R.mod q10 (R.int1I (by rfl) B.int (R.var (i := 7) rfl (.inl rfl) rfl)) (R.var (i := 5) rfl (.inr (.inl rfl)) rfl)) R.int).imp fun k h => by rw [h, ne_int]), fun _ s Hb C cl fp => R.var (i := 7) rfl (.inl rfl) rfl⟩
    · rw [e, List.length_map]; exact given_filter found (fun y => decide (y % (q1 : Int) ≠ 0))
    · rw [e, List.isEmpty_iff, List.map_eq_nil_iff]; exact hall
    · have hd := hb.mp rfl
      have hL3 := l3.keep _ _ nmL hL'
      have hnf : n < found.length := by omega
      have q2b : q2.natAbs < 2 ^ 134 := Nat.lt_of_le_of_lt (show q2.natAbs ≤ m.natAbs by omega) O.mb
      refine S.setL (U := some (u, c)) (P := Is (.int ((found.getD n 0 + m / q2) % m))) j3 (R.mod hm (R.int1I (by rfl) B.int (R.add (R.ixL hL3 (atI_nat (j := n) (by rw [List.getElem?_map, List.getElem?_eq_getElem hnf, List.getD_eq_getElem?_getD, List.getElem?_eq_getElem hnf]; rfl)) nmL (R.var (i := 3) rfl (.inl rfl) rfl) (R.var (i := 4) rfl (.inl rfl) rfl)) (R.fdiv (wide_div q20 q2b (by decide) (by decide)) (R.var (i := 1) rfl (.inr (.inl rfl)) rfl) (R.var (i := 6) rfl (.inl rfl) rfl)))) (R.var (i := 1) rfl (.inr (.inl rfl)) rfl)) ?_
      rintro v H4 l4 j4 rfl
      have hL4 := l4.keep _ _ nmL hL3
      refine ⟨L, _, (n : Int), n, R.var (i := 3) rfl (.inl rfl) rfl, R.var (i := 4) rfl (.inl rfl) rfl, hL4, nmL, ixN_nat (by rw [List.length_map]; exact hnf), fun H5 l5 j5 hL5 => S.nil ?_⟩
      have e1 : (found.map V.int).set n (.int ((found.getD n 0 + m / q2) % m)) = (found.set n ((found.getD n 0 + m / q2) % m)).map V.int := by rw [List.map_set]
      rw [e1]
      have lH5 := ((lH.trans l3).trans l4).trans l5
      have hne : Lp ≠ L := fun z => by rw [z, hL] at hLp1; cases hLp1
      exact ⟨_, _, _, _, rfl, lH5.mut jn hL0, upd_jn nmL j5, (tk.trans ((l3.trans l4).trans l5).tup).trans (upd_tk hL5), by rw [upd_ne hne]; exact ((l3.trans l4).trans l5).keep _ _ nmp hLp', upd_same, by rw [List.length_set]; exact hfl, fx_set W hm hfx hpq hnf hd⟩
    · have hn : ¬ ∀ y ∈ found, (q1 : Int) ∣ y := fun z => by have := hb.mpr z; cases this
      exact ⟨found, _, _, _, rfl, lH.trans l3, j3, tk.trans l3.tup, l3.keep _ _ nmp hLp', l3.keep _ _ nmL hL', hfl, fx_keep hfx hpq hn⟩
  · rintro σ' H' ⟨found, x5, x6, x7, rfl, lH, jH, tk, hLp', hL', hfl, hfx⟩
    rw [hrp.1] at hfx
    exact ⟨found, _, _, _, pws, rfl, lH, jH, hL', hfl, W, hfx⟩
  · rintro σ' H' ⟨found, x5, x6, x7, pws, rfl, lH, jH, hL', hfl, W, hfx⟩
    refine S.ret (U := some (u, c)) (P := TpI found) jH (R.callTy call_tuple_of (by rfl) B.tuple PyProof.Rows.boot_tuple (RA.last (R.var (i := 3) rfl (.inl rfl) rfl)) ?_) fun v H2 l2 j2 hv => k v H2 (lH.trans l2) j2 ⟨found, hv, hfl, hfx.rg, fx_end O.pq W O.per hfx⟩
    rintro vs H1 l j ⟨v, r, rfl, rfl, rfl⟩ Q' q'
    exact ⟨L, _, rfl, .inl ⟨.inl (.inl (l.keep _ _ nmL hL')), fun p' hp' => q' _ _ (Le.new j hp') ((Le.new j hp').jn j) ⟨p', rfl, upd_same⟩⟩⟩
end K62
end
section
set_option linter.all false
namespace K62
theorem strip_pow {p : Nat} (hp : Pr p) (h0 : 0 < p) {r : Nat} : ∀ (a n : Nat), n ∣ p ^ a * r → ∃ a' n', n = p ^ a' * n' ∧ n' ∣ r
  | 0, n, h => ⟨0, n, by simp, by simpa using h⟩
  | a + 1, n, h => by
    rcases hp n with ⟨n1, rfl⟩ | hc
    · rw [Nat.pow_succ, Nat.mul_comm (p ^ a) p, Nat.mul_assoc] at h
      obtain ⟨a', n', e, hd⟩ := strip_pow hp h0 a n1 (Nat.dvd_of_mul_dvd_mul_left h0 h)
      exact ⟨a' + 1, n', by rw [e, Nat.pow_succ, Nat.mul_comm (p ^ a') p, Nat.mul_assoc], hd⟩
    · exact ⟨0, n, by simp, Nat.Coprime.dvd_of_dvd_mul_left (Nat.Coprime.pow_right (a + 1) (Nat.Coprime.symm hc)) h⟩
theorem per_dvd {x : Nat × Nat} (hx : x ∈ PQs) {m n : Int} (hm : Per x.1 x.2 m) (hd : n ∣ m) (hn : 0 < n) : Per x.1 x.2 n := by
  obtain ⟨a, b, e⟩ := hm
  obtain ⟨q1, q2⟩ := PQ_pr x hx
  obtain ⟨⟨f1, f2⟩, f3, f4, f5, f6⟩ := PQ_facts x hx
  have h1 : n.natAbs ∣ x.1 ^ a * x.2 ^ b := by
    have := Int.natAbs_dvd_natAbs.mpr hd
    rwa [e, Int.natAbs_natCast] at this
  obtain ⟨a', n', e1, h2⟩ := strip_pow q1 (by omega) a _ h1
  obtain ⟨b', n'', e2, h3⟩ := strip_pow q2 (by omega) b n' (by rw [Nat.mul_one]; exact h2 : n' ∣ x.2 ^ b * 1)
  have := Nat.dvd_one.mp h3
  subst this
  refine ⟨a', b', ?_⟩
  rw [Nat.mul_one] at e2
  rw [← e2, ← e1]
  omega
theorem per_mul {p q : Nat} {m n : Int} (h1 : Per p q m) (h2 : Per p q n) : Per p q (m * n) := by
  obtain ⟨a, b, rfl⟩ := h1
  obtain ⟨c, d, rfl⟩ := h2
  refine ⟨a + c, b + d, ?_⟩
  rw [← Int.natCast_mul, Nat.pow_add, Nat.pow_add]
  congr 1
  rw [Nat.mul_mul_mul_comm]
theorem gcdl_append {m : Nat} {c : List Int} {y : Int} : gcdl m (c ++ [y]) = Nat.gcd (gcdl m c) y.natAbs := by
  unfold gcdl
  rw [List.foldl_append]; rfl
/-- rows reduced by what divides them all -/
theorem summed_prim {x : Nat × Nat} (hx : x ∈ PQs) {m : Int} {ns : List Int} {g : Int} (hm : 0 < m) (hp : Per x.1 x.2 m) (hg : g = ((gcdl 0 (ns ++ [m]) : Nat) : Int)) :
    0 < g ∧ g ∣ m ∧ 0 < m / g ∧ Per x.1 x.2 (m / g) ∧ gcdl (m / g).natAbs (ns.map fun y => y / g % (m / g)) = 1 := by
  obtain ⟨h1, h2⟩ := gcdl_dvd (c := ns ++ [m]) (m := 0)
  have gm : g ∣ m := hg ▸ h2 m (by simp)
  have g0 : 0 < g := by
    rw [hg]
    have : gcdl 0 (ns ++ [m]) ≠ 0 := fun z => by
      rw [z] at h2
      have := Int.zero_dvd.mp (h2 m (by simp))
      omega
    omega
  have mg : 0 < m / g := Int.ediv_pos_of_pos_of_dvd hm (by omega) gm
  have mgd : m / g ∣ m := ⟨g, (Int.ediv_mul_cancel gm).symm⟩
  have hper := per_dvd hx hp mgd mg
  refine ⟨g0, gm, mg, hper, prim_of hx hper fun p hp10 hd hall => ?_⟩
  have p2 := P10_ge p hp10
  -- p * g divides all
  have key : (p * gcdl 0 (ns ++ [m])) ∣ gcdl 0 (ns ++ [m]) := dvd_gcdl (Nat.dvd_zero _) fun y hy => by
    rw [Int.natCast_mul, ← hg]
    rcases List.mem_append.mp hy with hy | hy
    · have gy : g ∣ y := hg ▸ h2 y (List.mem_append_left _ hy)
      have h3 := hall _ (List.mem_map.mpr ⟨y, hy, rfl⟩)
      have h4 : (p : Int) ∣ y / g := by
        have e1 : y / g = y / g % (m / g) + m / g * (y / g / (m / g)) := (Int.emod_add_mul_ediv _ _).symm
        rw [e1]
        exact Int.dvd_add h3 (Int.dvd_mul_of_dvd_left hd)
      obtain ⟨z, hz⟩ := h4
      refine ⟨z, ?_⟩
      rw [← Int.ediv_mul_cancel gy, hz]
      simp only [Int.mul_comm, Int.mul_left_comm, Int.mul_assoc]
    · have : y = m := by simpa using hy
      subst this
      obtain ⟨z, hz⟩ := hd
      refine ⟨z, ?_⟩
      rw [← Int.ediv_mul_cancel gm, hz]
      simp only [Int.mul_comm, Int.mul_left_comm, Int.mul_assoc]
  have hle := Nat.le_of_dvd (by omega) key
  have : 2 * gcdl 0 (ns ++ [m]) ≤ p * gcdl 0 (ns ++ [m]) := Nat.mul_le_mul_right _ p2.1
  omega
theorem lcm_pos {m1 m2 : Int} (h1 : 0 < m1) (h2 : 0 < m2) : 0 < m1 * m2 / ((gcdl 0 [m1, m2] : Nat) : Int) ∧ m1 * m2 / ((gcdl 0 [m1, m2] : Nat) : Int) ∣ m1 * m2 ∧ m1 ∣ m1 * m2 / ((gcdl 0 [m1, m2] : Nat) : Int) ∧ m2 ∣ m1 * m2 / ((gcdl 0 [m1, m2] : Nat) : Int) ∧ (0 : Int) < ((gcdl 0 [m1, m2] : Nat) : Int) := by
  obtain ⟨_, h3⟩ := gcdl_dvd (c := [m1, m2]) (m := 0)
  have d1 := h3 m1 (by simp)
  have d2 := h3 m2 (by simp)
  have g0 : (0 : Int) < ((gcdl 0 [m1, m2] : Nat) : Int) := by
    have : gcdl 0 [m1, m2] ≠ 0 := fun z => by
      rw [z] at d1
      have := Int.zero_dvd.mp d1
      omega
    omega
  generalize ((gcdl 0 [m1, m2] : Nat) : Int) = g at *
  have hd : g ∣ m1 * m2 := Int.dvd_mul_of_dvd_left d1
  refine ⟨Int.ediv_pos_of_pos_of_dvd (Int.mul_pos h1 h2) (by omega) hd, ⟨g, (Int.ediv_mul_cancel hd).symm⟩, ?_, ?_, g0⟩
  · obtain ⟨z, rfl⟩ := d2
    rw [Int.mul_left_comm, Int.mul_ediv_cancel_left _ (by omega)]
    exact Int.dvd_mul_right _ _
  · obtain ⟨z, rfl⟩ := d1
    rw [Int.mul_assoc, Int.mul_ediv_cancel_left _ (by omega)]
    exact Int.dvd_mul_left _ _
end K62
namespace K62
theorem pws_some {x : Nat × Nat} (hx : x ∈ PQs) {m : Int} {pws : List (Nat × Int)} (W : Pws m pws) (hp : Per x.1 x.2 m) (h1 : 1 < m) : pws ≠ [] := fun z => by
  obtain ⟨a, b, e⟩ := hp
  have : m.natAbs = 1 := per_one hx (a := a) (b := b) (by rw [e, Int.natAbs_natCast]; exact Nat.dvd_refl _) fun p hp hd => by
    obtain ⟨q, hq⟩ := W.all p hp (Int.ofNat_dvd_left.mpr hd)
    rw [z] at hq; cases hq
  omega
/-- what shifts a stripe off a cell -/
theorem shift_off {m δ t : Int} (hm : 0 < m) (hδ : 0 < δ) (hδ' : δ < m) : ¬ m ∣ t - (t % m + δ) % m := fun h => by
  have e1 : t = t % m + m * (t / m) := (Int.emod_add_mul_ediv _ _).symm
  have e2 : t % m + δ = (t % m + δ) % m + m * ((t % m + δ) / m) := (Int.emod_add_mul_ediv _ _).symm
  obtain ⟨z, hz⟩ := h
  have h3 : m ∣ δ := ⟨(t % m + δ) / m - z + t / m, by grind⟩
  have := Int.le_of_dvd hδ h3
  omega
theorem on_mod {m t : Int} : m ∣ t - t % m := ⟨t / m, by have := Int.emod_add_mul_ediv t m; omega⟩
theorem quot_small {m q : Int} {e : Nat} (hm : 0 < m) (hq : 1 < q) (hd : q ∣ m) : 0 < m / q ∧ m / q < m := by
  obtain ⟨c, rfl⟩ := hd
  rw [Int.mul_ediv_cancel_left _ (by omega)]
  have hc : 0 < c := Int.pos_of_mul_pos_right hm (by omega)
  refine ⟨hc, ?_⟩
  have : 2 * c ≤ q * c := Int.mul_le_mul_of_nonneg_right (by omega) (by omega)
  omega
end K62
end
section
set_option Elab.async false
set_option linter.all false
set_option maxRecDepth 100000
set_option maxHeartbeats 4000000
set_option exponentiation.threshold 100
namespace K62
open PySem PySem.Spec PyProof.Rows L2
variable {P : Program} {w : World} {K : PySem.W.Frag} {mg : Str → Option Value} {base : Heap}
/-- list + list -/
theorem R.catL {X : Cx} {U : UA} {σ : L2.St} {H : Hp} {a b : Expr} {pos : Pos} {l : Addr} {xs zs : List V} {H0 : Hp} (hj : Jn U H) (h : H l = some (.lst xs)) (nm : ¬ Mv U l) (hz : xs.length + zs.length ≤ 1000) (ha : R X U a σ H (Is (.ref l))) (hb : R X U b σ H (NLs U H0 fun vs _ => vs = zs)) : R X U (.BinOp a .Add b pos) σ H (NLs U H fun vs _ => vs = xs ++ zs) :=
  R.op op_cat ha hb fun x y H1 l1 j1 hx ⟨L, vs, e, h1, h2, h3, h4⟩ Q q => by
    cases hx; subst e; subst h4
    exact ⟨l, L, xs, vs, rfl, rfl, l1.keep _ _ nm h, h3, Nat.le_trans hz (by decide), fun p hp => q _ _ (Le.new j1 hp) ((Le.new j1 hp).jn j1) ⟨p, _, rfl, l1.fresh hj hp, Le.nmv j1 hp, upd_same, rfl⟩⟩
/-- a list display -/
theorem R.lstI {X : Cx} {U : UA} {σ : L2.St} {H : Hp} {es : List Expr} {pos : Pos} {Ps : List V → Hp → Prop} {vs : List V} (hj : Jn U H) (ha : RA X U es σ H Ps) (h : ∀ us H1, Ps us H1 → us = vs) (hz : vs.length ≤ 1000) : R X U (.List es pos) σ H (NLs U H fun us _ => us = vs) :=
  R.lst ha (fun us H1 p => by rw [h us H1 p]; exact Nat.le_trans hz (by decide)) fun us p H1 l1 j1 hp hn => ⟨p, us, rfl, l1.fresh hj hn, Le.nmv j1 hn, upd_same, h us H1 hp⟩
/-- a tuple of told values -/
theorem R.tupI {X : Cx} {U : UA} {σ : L2.St} {H : Hp} {es : List Expr} {pos : Pos} {kt : Nat} {Ps : List V → Hp → Prop} {vs : List V} (ha : RA X U es σ H Ps) (h : ∀ us H1, Ps us H1 → us = vs) (hz : vs.length ≤ 1000) : R X U (.Tuple es kt pos) σ H (NT vs) :=
  R.tup ha (fun us H1 p => by rw [h us H1 p]; exact Nat.le_trans hz (by decide)) fun us p H1 l1 j1 hp hn => ⟨p, rfl, by rw [upd_same, h us H1 hp]⟩
/-- a pick from a tuple laid in place -/
theorem R.pickT {X : Cx} {u c : Addr} {σ : L2.St} {H : Hp} {a b : Expr} {p pos : Pos} {vs : List V} {j : Nat} (C : Callee X.prog X.w X.K X.mg X.base 2 "_law_pick" ps__law_pick sp_pick) (hr : Room j X.A) (hj : 2 ≤ j) (hg : Gl X "_law_pick") (hz : 0 < vs.length ∧ vs.length ≤ 1000) (ha : R X (some (u, c)) a σ H (Is (.ref u))) (hb : R X (some (u, c)) b σ H (NT vs))
    (h0 : starEach [a, b] X.env = (false, eval a X.env) :: starEach [b] X.env := by rfl) (h1 : starEach [b] X.env = (false, eval b X.env) :: starEach [] X.env := by rfl) (h2 : (backTo pos (starEach [b] X.env)).any (·.1) = false := by rfl) : R X (some (u, c)) (.Call (.Name "_law_pick" p) [a, b] [] pos) σ H (Vq (· ∈ vs)) :=
  R.callU C hr hj hg (RA.cons ha (RA.last hb h1) h0) (fun us H1 l j1 ⟨v, r, e, e1, v', r', e', ⟨q, e2, hq⟩, e3⟩ => by
    cases e1; cases e2; cases e3; subst e'
    exact ⟨⟨u, c, q, false, vs⟩, rfl, ⟨e, hq, (fun z => Bool.noConfusion z), hz⟩, fun v H2 _ _ h => h⟩) (by decide) h0 h2
/-- a row over a period -/
def RwOk (x : Nat × Nat) (d : Nat) (m : Int) (c : List Int) : Prop := Per x.1 x.2 m ∧ 0 < m ∧ m.natAbs < 2 ^ 134 ∧ c.length = d ∧ (∀ y ∈ c, 0 ≤ y ∧ y < m) ∧ gcdl m.natAbs c = 1
def RwR (x : Nat × Nat) (d : Nat) : VP := fun v H => ∃ T m c vc, v = .ref T ∧ H T = some (.tup [.int m, vc]) ∧ TpI c vc H ∧ RwOk x d m c
instance {x : Nat × Nat} {d : Nat} : Fz (RwR x d) := ⟨fun _ _ _ t ⟨T, m, c, vc, e, h, h2, r⟩ => ⟨T, m, c, vc, e, t T _ h, Fz.mv _ _ _ t h2, r⟩⟩
structure SuA where
  u : Addr
  c : Addr
  x : Nat × Nat
  d : Nat
  p : Addr
  vs : List V
  ss : List Stp
abbrev SuA.U (x : SuA) : UA := some (x.u, x.c)
structure SuA.Ok (x : SuA) : Prop where
  pq : x.x ∈ PQs
  d3 : x.d ≤ 3
  ok : ∀ s ∈ x.ss, VS x.x.1 x.x.2 x.d s
  n0 : 0 < x.ss.length
  n1 : x.ss.length ≤ 1000
theorem VS.rw {x : Nat × Nat} {d : Nat} {s : Stp} (h : VS x.1 x.2 d s) : RwOk x d s.m s.c := ⟨h.per, h.pos, h.small, h.len, h.cs, h.prim⟩
abbrev T40 : Int := 10 ^ (40 : Int).toNat
theorem zipw_range (f : Int → Int → Int) {r c : List Int} {n : Nat} (h1 : r.length = n) (h2 : c.length = n) : ((List.range n).map fun i => f (r.getD i 0) (c.getD i 0)) = List.zipWith f r c := by
  have := zip_range f r c
  rwa [h1, h2, Nat.min_self] at this
abbrev sp_summed : Sp := FSp (α := SuA) SuA.U (fun x vs H => vs = [.ref x.u, .ref x.p] ∧ H x.p = some (.lst x.vs) ∧ ¬ Mv x.U x.p ∧ Rep2 StR x.ss x.vs H ∧ x.Ok) (fun x => RwR x.x x.d)
theorem ok_summed (F : DefAt K mg "_law_summed" s__law_summed ps__law_summed) (B : Bln mg) (C1 : Callee P w K mg base 2 "_law_pick" ps__law_pick sp_pick) (C2 : Callee P w K mg base 1 "_law_divisor" ps__law_divisor sp_divisor) : Callee P w K mg base 3 "_law_summed" ps__law_summed sp_summed := by
  refine callee_of F sc__law_summed (fun vs H Q E h => ?_) fun f cdv A outer s H vs Q E hr h => ?_
  · obtain ⟨a, _, ⟨rfl, _⟩, _⟩ := h; rfl
  obtain ⟨⟨u, c, x, d, p, us, ss⟩, jn, ⟨rfl, hp, nm, hrep, O⟩, k⟩ := h
  have jn : Jn (some (u, c)) H := jn
  have hp : H p = some (.lst us) := hp
  have nm : ¬ Mv (some (u, c)) p := nm
  have hrep : Rep2 StR ss us H := hrep
  have hx : x ∈ PQs := O.pq
  have hok : ∀ s ∈ ss, VS x.1 x.2 d s := O.ok
  have d3 : d ≤ 3 := O.d3
  have hul : us.length = ss.length := hrep.1
  have n0 : 0 < ss.length := O.n0
  have n1 : ss.length ≤ 1000 := O.n1
  have pick : ∀ {H' : Hp} {vs : List V}, Le (some (u, c)) H H' → A2 (Is (V.ref u)) (A2 (Is (V.ref p)) A0) vs H' → ∃ a : PkA, a.U = some (u, c) ∧ (vs = [.ref a.u, .ref a.p] ∧ Sq a.k H' a.p a.vs ∧ (a.k = true → ¬ Mv a.U a.p) ∧ 0 < a.vs.length ∧ a.vs.length ≤ 1000) ∧ ∀ v H2, Le (some (u, c)) H' H2 → Jn (some (u, c)) H2 → Vq (· ∈ a.vs) v H2 → Vq (· ∈ us) v H2 := by
    rintro H' vs l ⟨v, r, rfl, rfl, v', r', rfl, rfl, rfl⟩
    exact ⟨⟨u, c, p, true, us⟩, rfl, ⟨rfl, l.keep _ _ nm hp, fun _ => nm, by show 0 < us.length; omega, by show us.length ≤ 1000; omega⟩, fun v H2 _ _ h => h⟩
  -- one, other
  refine S.par (U := some (u, c)) (Ps := A2 (Vq (· ∈ us)) (A2 (Vq (· ∈ us)) A0)) rfl sc__law_summed.nd (i := 2) (j := 3) rfl rfl (by decide) rfl rfl jn (RA.cons (R.callU C1 hr (by decide) (by rfl) (RA.cons (R.var (i := 0) rfl (.inl rfl) rfl) (RA.last (R.var (i := 1) rfl (.inl rfl) rfl))) (fun vs H1 l _ h => pick l h)) (RA.last (R.callU C1 hr (by decide) (by rfl) (RA.cons (R.var (i := 0) rfl (.inl rfl) rfl) (RA.last (R.var (i := 1) rfl (.inl rfl) rfl))) (fun vs H1 l _ h => pick l h)))) ?_
  rintro vs H1 l1 j1 ⟨v1, r, rfl, hv1, v2, r', rfl, hv2, rfl⟩
  have geti : ∀ {v : V} {H' : Hp}, Le (some (u, c)) H H' → v ∈ us → ∃ s q pc, VS x.1 x.2 d s ∧ v = .ref q ∧ H' q = some (.tup [.int s.m, .ref pc, .int s.r]) ∧ H' pc = some (.tup (s.c.map V.int)) := fun l h => by
    obtain ⟨i, hi⟩ := List.mem_iff_getElem?.mp h
    obtain ⟨s, hs, q, vc, e, hq, pc, e2, hpc⟩ := (hrep.tk l.tup).get hi
    subst e2
    exact ⟨s, q, pc, hok s (List.mem_of_getElem? hs), e, hq, hpc⟩
  obtain ⟨s1, q1, pc1, V1, rfl, hq1, hpc1⟩ := geti l1 hv1
  obtain ⟨s2, q2, pc2, V2, rfl, hq2, hpc2⟩ := geti l1 hv2
  refine ⟨_, _, rfl, ?_⟩
  show S _ _ [some (.ref u), some (.ref p), some (.ref q1), some (.ref q2), none, none, none, none, none, none, none] _ _
  obtain ⟨m0, mdv, md1, md2, g0⟩ := lcm_pos V1.pos V2.pos
  have hper := per_dvd hx (per_mul V1.per V2.per) mdv m0
  have p1 := V1.pos
  have p2 := V2.pos
  have hm12 : (s1.m * s2.m).natAbs < 2 ^ 268 := wide_lt V1.small V2.small
  have mle : s1.m * s2.m / ((gcdl 0 [s1.m, s2.m] : Nat) : Int) ≤ s1.m * s2.m := Int.le_of_dvd (Int.mul_pos p1 p2) mdv
  have gle : ((gcdl 0 [s1.m, s2.m] : Nat) : Int) ≤ s1.m := Int.le_of_dvd p1 ((gcdl_dvd (c := [s1.m, s2.m]) (m := 0)).2 s1.m (by simp))
  -- m
  refine S.asgI (U := some (u, c)) (v := .int (s1.m * s2.m / ((gcdl 0 [s1.m, s2.m] : Nat) : Int))) sc__law_summed.nd (i := 4) rfl (.inr rfl) j1 (R.fdiv (wide_div (b := 134) g0 (Nat.lt_of_le_of_lt (show _ ≤ s1.m.natAbs by omega) V1.small) (by decide) (by decide)) (R.mul (wide_mul V1.small V2.small (by decide) (by decide) (by decide)) (R.ixT (v := .int s1.m) hq1 rfl (R.var (i := 2) rfl (.inl rfl) rfl) R.int) (R.ixT (v := .int s2.m) hq2 rfl (R.var (i := 3) rfl (.inl rfl) rfl) R.int)) (R.callP C2 hr (by decide) (by rfl) (RA.last (R.lstI (vs := [s1.m, s2.m].map V.int) j1 (RA.cons (R.ixT (v := .int s1.m) hq1 rfl (R.var (i := 2) rfl (.inl rfl) rfl) R.int) (RA.last (R.ixT (v := .int s2.m) hq2 rfl (R.var (i := 3) rfl (.inl rfl) rfl) R.int))) ?_ (by show 2 ≤ 1000; decide))) ?_)) fun H2 l2 j2 => ?_
  · rintro us' H2 ⟨v, r, rfl, rfl, v', r', rfl, rfl, rfl⟩; rfl
  · rintro vs H2 l2 _ ⟨v, r, rfl, ⟨L, _, rfl, _, _, hL, rfl⟩, rfl⟩
    exact ⟨[s1.m, s2.m], ⟨L, rfl, hL, by simp⟩, fun v H2 _ _ h => h⟩
  generalize hmm : s1.m * s2.m / ((gcdl 0 [s1.m, s2.m] : Nat) : Int) = m at *
  have mb : m.natAbs < 2 ^ 268 := Nat.lt_of_le_of_lt (show m.natAbs ≤ (s1.m * s2.m).natAbs by clear hm12; omega) hm12
  show S _ _ [some (.ref u), some (.ref p), some (.ref q1), some (.ref q2), some (.int m), none, none, none, none, none, none] _ _
  have hq1' := l2.tup _ _ hq1
  have hq2' := l2.tup _ _ hq2
  have quot : ∀ {s : Stp}, VS x.1 x.2 d s → CDivW m s.m := fun V => wide_div V.pos V.small (by decide) (by decide)
  have qb : ∀ {s : Stp}, VS x.1 x.2 d s → (m / s.m).natAbs < 2 ^ 268 := fun {s} V => by
    have h1 := Int.ediv_nonneg (a := m) (b := s.m) (by omega) (by have := V.pos; omega)
    have h2 := Int.ediv_le_self (a := m) s.m (by omega)
    exact Nat.lt_of_le_of_lt (by clear mb hm12; omega) mb
  -- k, l
  refine S.asgT (U := some (u, c)) (P := fun v H => ∃ T a b, v = .ref T ∧ H T = some (.tup [.int a, .int b]) ∧ a.natAbs < 2 ^ 275 ∧ b.natAbs < 2 ^ 275) j2 (R.tup (RA.cons (P := In fun i => i.natAbs < 2 ^ 275) (R.imIn (R.opIn (C := CMul) (φ := (· = m / s1.m)) (ψ := fun i => i.natAbs < 8) op_mul (fun i j _ h => .inr (by omega)) (R.toIn (R.fdiv (quot V1) (R.var (i := 4) rfl (.inr (.inl rfl)) rfl) (R.ixT (v := .int s1.m) hq1' rfl (R.var (i := 2) rfl (.inl rfl) rfl) R.int))) ((R.pickT (vs := [.int 1, .int (-1), .int 2, .int 3, .int 5]) C1 hr (by decide) (by rfl) (by decide) (R.var (i := 0) rfl (.inl rfl) rfl) (R.tupI (RA.cons R.int (RA.cons (R.neg R.int) (RA.cons R.int (RA.cons R.int (RA.last R.int))))) ?_ (by decide))).imp ?_)) ?_)
      (RA.last (P := In fun i => i.natAbs < 2 ^ 275) (R.imIn (R.opIn (C := CMul) (φ := (· = m / s2.m)) (ψ := fun i => i.natAbs < 8) op_mul (fun i j _ h => .inr (by omega)) (R.toIn (R.fdiv (quot V2) (R.var (i := 4) rfl (.inr (.inl rfl)) rfl) (R.ixT (v := .int s2.m) hq2' rfl (R.var (i := 3) rfl (.inl rfl) rfl) R.int))) ((R.pickT (vs := [.int 1, .int (-1), .int 2, .int 7, .int 0]) C1 hr (by decide) (by rfl) (by decide) (R.var (i := 0) rfl (.inl rfl) rfl) (R.tupI (RA.cons R.int (RA.cons (R.neg R.int) (RA.cons R.int (RA.cons R.int (RA.last R.int))))) ?_ (by decide))).imp ?_)) ?_))) ?_ ?_) ?_
  · rintro us' H2 ⟨v, r, rfl, rfl, v, r, rfl, rfl, v, r, rfl, rfl, v, r, rfl, rfl, v', r', rfl, rfl, rfl⟩; rfl
  · rintro v H3 l3 h
    have h : v ∈ [V.int 1, V.int (-1), V.int 2, V.int 3, V.int 5] := h
    simp only [List.mem_cons, List.not_mem_nil, or_false] at h
    rcases h with rfl | rfl | rfl | rfl | rfl <;> exact ⟨_, rfl, by decide⟩
  · rintro i ⟨a, b, rfl, hb, rfl⟩
    have := wide_lt (a := 268) (b := 3) (qb V1) (show b.natAbs < 2 ^ 3 by omega)
    exact Nat.lt_of_lt_of_le this (Nat.pow_le_pow_right (by decide) (by decide))
  · rintro us' H2 ⟨v, r, rfl, rfl, v, r, rfl, rfl, v, r, rfl, rfl, v, r, rfl, rfl, v', r', rfl, rfl, rfl⟩; rfl
  · rintro v H3 l3 h
    have h : v ∈ [V.int 1, V.int (-1), V.int 2, V.int 7, V.int 0] := h
    simp only [List.mem_cons, List.not_mem_nil, or_false] at h
    rcases h with rfl | rfl | rfl | rfl | rfl <;> exact ⟨_, rfl, by decide⟩
  · rintro i ⟨a, b, rfl, hb, rfl⟩
    have := wide_lt (a := 268) (b := 3) (qb V2) (show b.natAbs < 2 ^ 3 by omega)
    exact Nat.lt_of_lt_of_le this (Nat.pow_le_pow_right (by decide) (by decide))
  · rintro us' H2 ⟨v, r, rfl, _, v', r', rfl, _, rfl⟩; show 2 ≤ sizeLine; decide
  · rintro us' p' H3 _ _ ⟨v, r, rfl, ⟨a, rfl, ha⟩, v', r', rfl, ⟨b, rfl, hb⟩, rfl⟩ hn; exact ⟨p', a, b, rfl, upd_same, ha, hb⟩
  rintro v H3 l3 j3 ⟨T, ka, kb, rfl, hT, hka, hkb⟩
  refine ⟨_, Tg.tup rfl hT (Tgs.cons (Tg.name sc__law_summed.nd (i := 5) rfl (.inr rfl)) (Tgs.cons (Tg.name sc__law_summed.nd (i := 6) rfl (.inr rfl)) Tgs.nil)), ?_⟩
  show S _ _ [some (.ref u), some (.ref p), some (.ref q1), some (.ref q2), some (.int m), some (.int ka), some (.int kb), none, none, none, none] _ _
  have l23 := l2.trans l3
  have hq1'' := l23.tup _ _ hq1
  have hq2'' := l23.tup _ _ hq2
  have hpc1' := l23.tup _ _ hpc1
  have hpc2' := l23.tup _ _ hpc2
  have hcl1 : s1.c.length = d := V1.len
  have hcl2 : s2.c.length = d := V2.len
  have hcb : ∀ {s : Stp}, VS x.1 x.2 d s → ∀ y ∈ s.c, y.natAbs < 2 ^ 134 := fun {s} V y hy => by
    have h1 := V.cs y hy
    have h2 := V.small
    omega
  let ns : List Int := List.zipWith (fun a b => ka * a + kb * b) s1.c s2.c
  have nsl : ns.length = d := by simp [ns, hcl1, hcl2]
  have enr : (List.range d).map (fun i => ka * s1.c.getD i 0 + kb * s2.c.getD i 0) = ns := zipw_range (fun a b => ka * a + kb * b) hcl1 hcl2
  -- numbers
  refine S.asgLc (U := some (u, c)) (i := 7) (own := [("_law_x", 9), ("_law_y", 10)]) (P := NLs (some (u, c)) H3 fun vs H' => vs.length = min (s1.c.map V.int).length (s2.c.map V.int).length ∧ ∀ i y, vs[i]? = some y → y = V.int (ka * s1.c.getD i 0 + kb * s2.c.getD i 0)) rfl sc__law_summed.nd rfl rfl (sw_true rfl rfl rfl (by decide +kernel)) j3 (Src.zip2 (b1 := false) (b2 := false) (ys := s2.c.map V.int) (by rfl) B.zip (R.ixT (v := .ref pc1) hq1'' rfl (R.var (i := 2) rfl (.inl rfl) rfl) R.int) ((R.ixT (v := .ref pc2) hq2'' rfl (R.var (i := 3) rfl (.inl rfl) rfl) R.int).imp fun v H4 l4 e => ⟨pc2, e, l4.tup _ _ hpc2'⟩) hpc1' (fun z => Bool.noConfusion z)) (blkOk_by (N := N__law_summed) (sc := defScope s__law_summed) (by decide +kernel))
    (fun J H4 l4 _ ⟨pq2, hp2, wk⟩ => LcK.map (fun i => Is (V.int (ka * s1.c.getD i 0 + kb * s2.c.getD i 0))) wk (by rw [List.length_map]; omega) l4 j3 (fun i H x H' => yZ2_le) (fun H' l' => ⟨(l4.trans l').tup _ _ hpc1', l'.tup _ _ hp2⟩) (fun i y H' H'' hi l' j' yy => ?_)) ?_
  · obtain ⟨T3, y1, y2, rfl, hn, rfl, g1, g2⟩ := yy
    obtain ⟨rfl, hm1⟩ := getV g1
    obtain ⟨rfl, hm2⟩ := getV g2
    exact ⟨_, fun s Hb C cl fp => Tg.tup rfl upd_same (Tgs.cons (Tg.name sc__law_summed.nd (i := 9) rfl (.inl rfl)) (Tgs.cons (Tg.name sc__law_summed.nd (i := 10) rfl (.inl rfl)) Tgs.nil)), rfl, fun s Hb C cl fp => R.add (R.mul (wide_mul hka (hcb V1 _ hm1) (by decide) (by decide) (by decide)) (R.var (i := 5) rfl (.inr (.inl rfl)) rfl) (R.var (i := 9) rfl (.inl rfl) rfl)) (R.mul (wide_mul hkb (hcb V2 _ hm2) (by decide) (by decide) (by decide)) (R.var (i := 6) rfl (.inr (.inl rfl)) rfl) (R.var (i := 10) rfl (.inl rfl) rfl))⟩
  rintro v H4 l4 j4 ⟨Ln, vn, rfl, _, nmn, hLn, hnz, hnv⟩
  have evn : vn = ns.map V.int := by
    rw [ints_of hnz hnv, List.length_map, List.length_map, hcl1, hcl2, Nat.min_self, enr]
  subst evn
  show S _ _ [some (.ref u), some (.ref p), some (.ref q1), some (.ref q2), some (.int m), some (.int ka), some (.int kb), some (.ref Ln), none, none, none] _ _
  obtain ⟨gg0, ggm, mg0, mgper, mgprim⟩ := summed_prim (ns := ns) hx m0 hper rfl
  -- divisor
  refine S.asgI (U := some (u, c)) (v := .int ((gcdl 0 (ns ++ [m]) : Nat) : Int)) sc__law_summed.nd (i := 8) rfl (.inr rfl) j4 (R.callP C2 hr (by decide) (by rfl) (RA.last (R.catL (zs := [V.int m]) j4 hLn nmn (by simp; omega) (R.var (i := 7) rfl (.inl rfl) rfl) (R.lstI j4 (RA.last (R.var (i := 4) rfl (.inr (.inl rfl)) rfl)) ?_ (by show 1 ≤ 1000; decide)))) ?_) fun H5 l5 j5 => ?_
  · rintro us' H2 ⟨v, r, rfl, rfl, rfl⟩; rfl
  · rintro vs H2 l2 _ ⟨v, r, rfl, ⟨L, _, rfl, _, _, hL, rfl⟩, rfl⟩
    exact ⟨ns ++ [m], ⟨L, rfl, by rw [hL, List.map_append]; rfl, by simp; omega⟩, fun v H2 _ _ h => h⟩
  generalize hgg : ((gcdl 0 (ns ++ [m]) : Nat) : Int) = g at *
  show S _ _ [some (.ref u), some (.ref p), some (.ref q1), some (.ref q2), some (.int m), some (.int ka), some (.int kb), some (.ref Ln), some (.int g), none, none] _ _
  have gle' : g ≤ m := Int.le_of_dvd m0 ggm
  have gdiv : ∀ i, CDivW i g := fun i => wide_div (b := 268) gg0 (Nat.lt_of_le_of_lt (by clear mb; omega) mb) (by decide) (by decide)
  have l15 := ((l23.trans l4).trans l5)
  have lH5 := l1.trans l15
  refine S.if (U := some (u, c)) j5 (RT.ge (R.fdiv (gdiv m) (R.var (i := 4) rfl (.inr (.inl rfl)) rfl) (R.var (i := 8) rfl (.inr (.inl rfl)) rfl)) (R.pow ⟨by decide, by decide, by decide⟩ R.int R.int)) (fun e H6 l6 j6 => ?_) (fun e H6 l6 j6 => S.nil ?_)
  · have hq6 := (l15.trans l6).tup _ _ hq1
    refine S.ret (U := some (u, c)) (P := NT [.int s1.m, .ref pc1]) j6 (R.tupI (RA.cons (R.ixT (v := .int s1.m) hq6 rfl (R.var (i := 2) rfl (.inl rfl) rfl) R.int) (RA.last (R.ixT (v := .ref pc1) hq6 rfl (R.var (i := 2) rfl (.inl rfl) rfl) R.int))) ?_ (by show 2 ≤ 1000; decide)) ?_
    · rintro us' H2 ⟨v, r, rfl, rfl, v', r', rfl, rfl, rfl⟩; rfl
    · rintro v H7 l7 j7 ⟨T, rfl, hT⟩
      exact k _ H7 ((lH5.trans l6).trans l7) j7 ⟨T, s1.m, s1.c, .ref pc1, rfl, hT, ⟨pc1, rfl, ((l15.trans l6).trans l7).tup _ _ hpc1⟩, V1.rw⟩
  · have hlt : m / g < T40 := Int.not_le.mp (of_decide_eq_false e.symm)
    refine S.asgI (U := some (u, c)) sc__law_summed.nd (i := 4) rfl (.inr rfl) j6 (R.fdiv (gdiv m) (R.var (i := 4) rfl (.inr (.inl rfl)) rfl) (R.var (i := 8) rfl (.inr (.inl rfl)) rfl)) fun H7 l7 j7 => ?_
    show S _ _ [some (.ref u), some (.ref p), some (.ref q1), some (.ref q2), some (.int (m / g)), some (.int ka), some (.int kb), some (.ref Ln), some (.int g), none, none] _ _
    have hLn7 := ((l5.trans l6).trans l7).keep _ _ nmn hLn
    refine S.ret (U := some (u, c)) (P := RwR x d) j7 (R.tup (RA.cons (R.var (i := 4) rfl (.inr (.inl rfl)) rfl) (RA.last (P := TpI (ns.map fun y => y / g % (m / g))) (R.tupleI (H0 := H7) (n := (ns.map V.int).length) (f := fun i => ns.getD i 0 / g % (m / g)) ?_ (by rfl) B.tuple (R.lc (own := [("_law_x", 9)]) rfl sc__law_summed.nd (Src.lst (R.var (i := 7) rfl (.inl rfl) rfl) hLn7 nmn) (blkOk_by (N := N__law_summed) (sc := defScope s__law_summed) (by decide +kernel))
      (fun J H8 l8 j wk => LcK.map (fun i => Is (V.int (ns.getD i 0 / g % (m / g)))) wk (by rw [List.length_map]; omega) l8 j7 (fun i H x H' => yAt_le) (fun H' l' => (l8.trans l').keep _ _ nmn hLn7) (fun i y H' H'' hi l' j' yy => ?_)))))) ?_ ?_) ?_
    · exact range_map_of (by rw [List.length_map]) fun i a e => by rw [List.getD_eq_getElem?_getD, e]; rfl
    · obtain ⟨rfl, hy⟩ := yy
      obtain ⟨rfl, hm⟩ := getV hy
      exact ⟨_, fun s Hb C cl fp => Tg.name sc__law_summed.nd (i := 9) rfl (.inl rfl), rfl, fun s Hb C cl fp => R.mod mg0 (R.int1I (by rfl) B.int (R.fdiv (gdiv _) (R.var (i := 9) rfl (.inl rfl) rfl) (R.var (i := 8) rfl (.inr (.inl rfl)) rfl))) (R.var (i := 4) rfl (.inr (.inl rfl)) rfl)⟩
    · rintro us' H2 ⟨v, r, rfl, _, v', r', rfl, _, rfl⟩; show 2 ≤ sizeLine; decide
    · rintro us' p' H8 _ j8 ⟨v, r, rfl, rfl, v', r', rfl, hv', rfl⟩ hn
      refine ⟨p', m / g, _, _, rfl, upd_same, Fz.le (Le.new j8 hn) hv', mgper, mg0, ?_, by rw [List.length_map]; exact nsl, fun y hy => ?_, mgprim⟩
      · have h40 : T40.natAbs < 2 ^ 134 := by decide
        exact Nat.lt_trans (by omega) h40
      · obtain ⟨z, _, rfl⟩ := List.mem_map.mp hy
        exact ⟨Int.emod_nonneg _ (by omega), Int.emod_lt_of_pos _ mg0⟩
    · rintro v H8 l8 j8 hv
      exact k _ H8 (((lH5.trans l6).trans l7).trans l8) j8 hv
end K62
end
section
set_option Elab.async false
set_option linter.all false
set_option maxRecDepth 100000
set_option maxHeartbeats 4000000
set_option exponentiation.threshold 100
namespace K62
open PySem PySem.Spec PyProof.Rows L2
variable {P : Program} {w : World} {K : PySem.W.Frag} {mg : Str → Option Value} {base : Heap}
theorem ins_of {φ : Int → Prop} : ∀ {vs : List V}, (∀ y ∈ vs, ∃ i, y = V.int i ∧ φ i) → ∃ l : List Int, vs = l.map V.int ∧ ∀ i ∈ l, φ i
  | [], _ => ⟨[], rfl, fun i h => nomatch h⟩
  | v :: vs, h => by
    obtain ⟨i, rfl, hi⟩ := h v (List.mem_cons_self ..)
    obtain ⟨l, rfl, hl⟩ := ins_of (vs := vs) fun y hy => h y (List.mem_cons_of_mem _ hy)
    refine ⟨i :: l, rfl, fun j hj => ?_⟩
    rcases List.mem_cons.mp hj with rfl | hj
    · exact hi
    · exact hl j hj
theorem ins_ix {φ : Int → Prop} {vs : List V} {H : Hp} (h : ∀ (i : Nat) y, vs[i]? = some y → In φ y H) : ∃ l : List Int, vs = l.map V.int ∧ ∀ i ∈ l, φ i := ins_of fun y hy => by
  obtain ⟨i, hi⟩ := List.mem_iff_getElem?.mp hy
  exact h i y hi
/-- tuple(..) of a new list of ints of which something is told -/
def TpN (n : Nat) (φ : Int → Prop) : VP := fun v H => ∃ l : List Int, TpI l v H ∧ l.length = n ∧ ∀ i ∈ l, φ i
instance {n : Nat} {φ : Int → Prop} : Fz (TpN n φ) := ⟨fun _ _ _ t ⟨l, h, r⟩ => ⟨l, Fz.mv _ _ _ t h, r⟩⟩
theorem R.tupleIn {X : Cx} {U : UA} {σ : L2.St} {H H0 : Hp} {a : Expr} {pos q : Pos} {n : Nat} {φ : Int → Prop} (hg : Gl X "tuple") (hm : X.mg "tuple" = none) (ha : R X U a σ H (NLs U H0 fun vs H' => vs.length = n ∧ ∀ (i : Nat) (y : V), vs[i]? = some y → In φ y H'))
    (h1 : starEach [a] X.env = (false, eval a X.env) :: starEach [] X.env := by rfl) (h2 : (backTo pos (starEach [] X.env)).any (·.1) = false := by rfl) : R X U (.Call (.Name "tuple" q) [a] [] pos) σ H (TpN n φ) :=
  (R.tupleN (Qs := fun vs H' => vs.length = n ∧ ∀ (i : Nat) (y : V), vs[i]? = some y → In φ y H') (fun vs H1 H2 t h => tk_map (Qi := fun _ => In φ) vs H1 H2 t h) hg hm ha h1 h2).imp fun v H1 _ ⟨p, vs, e, hp, hz, hu⟩ => by
    obtain ⟨l, rfl, hl⟩ := ins_ix hu
    exact ⟨l, ⟨p, e, hp⟩, by rw [← hz, List.length_map], hl⟩
/-- x == k of an int of which something is told -/
theorem R.eqIn {X : Cx} {U : UA} {σ : L2.St} {H : Hp} {a b : Expr} {pos : Pos} {φ : Int → Prop} {k : Int} (ha : R X U a σ H (In φ)) (hb : R X U b σ H (Is (.int k))) : R X U (.Compare a [.Eq] [b] pos) σ H (Vq fun v => ∃ b, v = .bl b) :=
  R.cmpv op_eq (nomark _) ha hb fun x y H1 l jn ⟨i, hi, _⟩ hy Q q => by cases hi; cases hy; exact ⟨rfl, q _ H1 (Le.refl _) jn ⟨_, rfl⟩⟩
def PmR : VP := fun v H => ∃ x ∈ PQs, NT (nvs (prms x)) v H
instance : Fz PmR := ⟨fun _ _ _ t ⟨x, hx, h⟩ => ⟨x, hx, Fz.mv _ _ _ t h⟩⟩
theorem R.pm1 {X : Cx} {U : UA} {σ : L2.St} {H : Hp} {p k : Nat} {q pos : Pos} {kt : Nat} (h : (p, 1) ∈ PQs) (h0 : starEach [(.Constant (.int (p : Int)) k q : Expr)] X.env = (false, eval (.Constant (.int (p : Int)) k q) X.env) :: starEach [] X.env := by rfl) : R X U (.Tuple [.Constant (.int (p : Int)) k q] kt pos) σ H PmR :=
  (R.tupI (vs := [.int (p : Int)]) (RA.last R.int h0) (fun us H1 ⟨v, r, e, e1, e2⟩ => by cases e1; cases e2; exact e) (by show 1 ≤ 1000; decide)).imp fun v H1 _ h' => ⟨(p, 1), h, h'⟩
theorem R.pm2 {X : Cx} {U : UA} {σ : L2.St} {H : Hp} {p p' k k' : Nat} {q q' pos : Pos} {kt : Nat} (h : (p, p') ∈ PQs) (hne : ¬ p' = 1) (h0 : starEach [(.Constant (.int (p : Int)) k q : Expr), .Constant (.int (p' : Int)) k' q'] X.env = (false, eval (.Constant (.int (p : Int)) k q) X.env) :: starEach [(.Constant (.int (p' : Int)) k' q' : Expr)] X.env := by rfl) (h1 : starEach [(.Constant (.int (p' : Int)) k' q' : Expr)] X.env = (false, eval (.Constant (.int (p' : Int)) k' q') X.env) :: starEach [] X.env := by rfl) : R X U (.Tuple [.Constant (.int (p : Int)) k q, .Constant (.int (p' : Int)) k' q'] kt pos) σ H PmR :=
  (R.tupI (vs := [.int (p : Int), .int (p' : Int)]) (RA.cons R.int (RA.last R.int h1) h0) (fun us H1 ⟨v, r, e, e1, v', r', e', e2, e3⟩ => by cases e1; cases e2; cases e3; subst e'; exact e) (by show 2 ≤ 1000; decide)).imp fun v H1 _ h' => ⟨(p, p'), h, by unfold prms; rw [if_neg hne]; exact h'⟩
/-- range of an int of which something is told -/
theorem Src.rangeN {X : Cx} {U : UA} {σ : L2.St} {H : Hp} {a tg : Expr} {p pos : Pos} {φ : Int → Prop} (hg : Gl X "range") (hm : X.mg "range" = none) (hφ : ∀ i, φ i → 0 ≤ i ∧ i ≤ 1000) (h : R X U a σ H (In φ)) (h1 : starEach [a] X.env = (false, eval a X.env) :: starEach [] X.env := by rfl) (hs : starEach [a] X.env = [(false, eval a X.env)] := by rfl) :
    Src X U tg (.Call (.Name "range" p) [a] [] pos) σ H (fun J _ => ∃ n : Nat, φ n ∧ Walk J n (fun _ => True) (YFn fun i => .int (i : Int))) :=
  Src.of (pi_range1 hg hm (RA.last h h1) hs) fun H1 l j Rr q => ⟨rfl, l, j, fun vs H2 l2 j2 ⟨v, r, e, ⟨n, e1, hn⟩, e2⟩ => by
    obtain ⟨n0, n1⟩ := hφ n hn
    obtain ⟨k, rfl⟩ := Int.eq_ofNat_of_zero_le n0
    refine ⟨(k : Int), by cases e2; rw [e1] at e; exact e, by omega, by omega, q _ H2 l2 j2 ⟨k, hn, ?_⟩⟩
    rw [Int.toNat_natCast]
    refine walk_range.mono (fun _ h => h) fun i H x H' _ _ y => ?_
    obtain ⟨e1, e2⟩ := y
    exact ⟨e1, by rw [e2]; show V.int (0 + _) = _; rw [Int.zero_add]⟩⟩
structure LsA where
  u : Addr
  c : Addr
  d : Nat
abbrev LsA.U (x : LsA) : UA := some (x.u, x.c)
/-- what _law_stripes answers -/
def LsR (d : Nat) : VP := fun v H => ∃ T vc vs thr x cell ss, v = .ref T ∧ H T = some (.tup [vc, vs, .bl thr]) ∧ TpI cell vc H ∧ cell.length = d ∧ (∀ y ∈ cell, y.natAbs < 2 ^ 210) ∧ TupR StR ss vs H ∧ Sts x d ss ∧ (thr = true ↔ ∀ s ∈ ss, On s cell)
instance {d : Nat} : Fz (LsR d) := ⟨fun _ _ _ t ⟨T, vc, vs, thr, x, cell, ss, e, h, h1, h2, h3, h4, r⟩ => ⟨T, vc, vs, thr, x, cell, ss, e, t T _ h, Fz.mv _ _ _ t h1, h2, h3, Fz.mv _ _ _ t h4, r⟩⟩
abbrev sp_stripes : Sp := FSp (α := LsA) LsA.U (fun x vs H => vs = [.ref x.u, .int x.d] ∧ 1 ≤ x.d ∧ x.d ≤ 3) (fun x => LsR x.d)
theorem ok_stripes (F : DefAt K mg "_law_stripes" s__law_stripes ps__law_stripes) (B : Bln mg) (C1 : Callee P w K mg base 2 "_law_pick" ps__law_pick sp_pick) (C2 : Callee P w K mg base 2 "_law_great" ps__law_great sp_great) (C3 : Callee P w K mg base 1 "_law_draw" ps__law_draw sp_draw) (C4 : Callee P w K mg base 2 "_law_period" ps__law_period sp_period)
    (C5 : Callee P w K mg base 2 "_law_fixed" ps__law_fixed sp_fixed) (C6 : Callee P w K mg base 3 "_law_summed" ps__law_summed sp_summed) (C7 : Callee P w K mg base 1 "_law_dot" ps__law_dot sp_ldot) (C8 : Callee P w K mg base 1 "_law_powers" ps__law_powers sp_powers) : Callee P w K mg base 4 "_law_stripes" ps__law_stripes sp_stripes := by
  refine callee_of F sc__law_stripes (fun vs H Q E h => ?_) fun f cdv A outer s H vs Q E hr h => ?_
  · obtain ⟨a, _, ⟨rfl, _⟩, _⟩ := h; rfl
  obtain ⟨⟨u, c, d⟩, jn, ⟨rfl, d1, d3⟩, k⟩ := h
  have jn : Jn (some (u, c)) H := jn
  have d1 : 1 ≤ d := d1
  have d3 : d ≤ 3 := d3
  have un64 := hr.units
  -- size
  refine S.asg (U := some (u, c)) (P := In fun i => 0 < i ∧ i.natAbs < 2 ^ 200) sc__law_stripes.nd (i := 2) rfl (.inr rfl) jn ((R.pickT (vs := [.int 1, .int 10, .int (10 ^ (9 : Int).toNat), .int (10 ^ (60 : Int).toNat - 1)]) C1 hr (by decide) (by rfl) (by decide) (R.var (i := 0) rfl (.inr (.inl rfl)) rfl) (R.tupI (RA.cons R.int (RA.cons R.int (RA.cons (R.pow ⟨by decide, by decide, by decide⟩ R.int R.int) (RA.last (R.sub (R.pow ⟨by decide, by decide, by decide⟩ R.int R.int) R.int))))) ?_ (by decide))).imp ?_) ?_
  · rintro us' H2 ⟨v, r, rfl, rfl, v, r, rfl, rfl, v, r, rfl, rfl, v', r', rfl, rfl, rfl⟩; rfl
  · rintro v H3 l3 h
    have h : v ∈ [V.int 1, V.int 10, V.int (10 ^ (9 : Int).toNat), V.int (10 ^ (60 : Int).toNat - 1)] := h
    simp only [List.mem_cons, List.not_mem_nil, or_false] at h
    rcases h with rfl | rfl | rfl | rfl
    · exact ⟨_, rfl, by decide⟩
    · exact ⟨_, rfl, by decide⟩
    · exact ⟨_, rfl, by decide, Nat.lt_of_lt_of_le (show ((10 : Int) ^ (9 : Int).toNat).natAbs < 2 ^ 40 by decide) (Nat.pow_le_pow_right (by decide) (by decide))⟩
    · exact ⟨_, rfl, by decide, by decide⟩
  rintro v H1 l1 j1 ⟨size, rfl, sz0, szb⟩
  show S _ _ [some (.ref u), some (.int d), some (.int size), none, none, none, none, none, none, none, none, none, none, none, none, none, none, none, none] _ _
  -- cell
  refine S.asg (U := some (u, c)) (P := TpN d fun y => y.natAbs < 2 ^ 210) sc__law_stripes.nd (i := 3) rfl (.inl rfl) j1 (R.tupleIn (H0 := H1) (by rfl) B.tuple (R.lc (own := [("_law_place", 18)]) rfl sc__law_stripes.nd (Src.range1 (n := d) (by rfl) B.range (by omega) (R.var (i := 1) rfl (.inl rfl) rfl)) (blkOk_by (N := N__law_stripes) (sc := defScope s__law_stripes) (by decide +kernel))
    (fun J H2 l2 j wk => LcK.map (n := d) (G := fun _ => True) (Y := YFn fun i => .int (i : Int)) (fun i => In fun y => y.natAbs < 2 ^ 210) (by rw [Int.toNat_natCast] at wk; exact wk) (by omega) l2 j1 (fun i H x H' => yFn_le) (fun _ _ => trivial) (fun i y H' H'' hi l' j' yy => ?_)))) ?_
  · obtain ⟨rfl, rfl⟩ := yy
    refine ⟨_, fun s Hb C cl fp => Tg.name sc__law_stripes.nd (i := 18) rfl (.inl rfl), rfl, fun s Hb C cl fp => R.imIn (R.opIn0 (φ := fun i => 0 ≤ i ∧ i < 2 * size + 1) (ψ := (· = size)) op_sub (R.callU C2 hr (by decide) (by rfl) (RA.cons (R.var (i := 0) rfl (.inr (.inl rfl)) rfl) (RA.last (R.add (R.mulS (.inl (by decide)) R.int (R.var (i := 2) rfl (.inr (.inl rfl)) rfl)) R.int))) ?_) (R.toIn (R.var (i := 2) rfl (.inr (.inl rfl)) rfl))) ?_⟩
    · rintro vs H3 l3 _ ⟨v, r, rfl, rfl, v', r', rfl, rfl, rfl⟩
      exact ⟨(u, c, 2 * size + 1), rfl, ⟨rfl, by show 0 < 2 * size + 1; omega⟩, fun v H2 _ _ h => h⟩
    · rintro i ⟨a, b, ⟨h1, h2⟩, rfl, rfl⟩
      have h3 : (a - b).natAbs ≤ b.natAbs + 1 := by clear szb; omega
      have h4 : b.natAbs + 1 ≤ 2 ^ 200 := szb
      exact Nat.lt_of_le_of_lt (Nat.le_trans h3 h4) (Nat.pow_lt_pow_right (by decide) (by decide))
  rintro v H2 l2 j2 ⟨cell, ⟨pcell, rfl, hcell⟩, hcl, hcb⟩
  show S _ _ [some (.ref u), some (.int d), some (.int size), some (.ref pcell), none, none, none, none, none, none, none, none, none, none, none, none, none, none, none] _ _
  -- primes
  refine S.asg (U := some (u, c)) (P := PmR) sc__law_stripes.nd (i := 4) rfl (.inl rfl) j2 (R.callU C1 hr (by decide) (by rfl) (RA.cons (R.var (i := 0) rfl (.inr (.inl rfl)) rfl) (RA.last (P := fun v H => ∃ q vs, v = .ref q ∧ H q = some (.tup vs) ∧ (∀ y ∈ vs, PmR y H) ∧ 0 < vs.length ∧ vs.length ≤ 1000) (R.tup (RA.cons (R.pm1 (p := 2) (by decide)) (RA.cons (R.pm1 (p := 3) (by decide)) (RA.cons (R.pm2 (p := 2) (p' := 3) (by decide) (by decide)) (RA.cons (R.pm1 (p := 5) (by decide)) (RA.cons (R.pm2 (p := 2) (p' := 5) (by decide) (by decide)) (RA.cons (R.pm1 (p := 7) (by decide)) (RA.cons (R.pm2 (p := 3) (p' := 11) (by decide) (by decide)) (RA.cons (R.pm2 (p := 13) (p' := 29) (by decide) (by decide)) (RA.last (R.pm2 (p := 2) (p' := 23) (by decide) (by decide))))))))))) ?_ ?_))) ?_) ?_
  · rintro vs H1 ⟨v, r, rfl, _, v, r, rfl, _, v, r, rfl, _, v, r, rfl, _, v, r, rfl, _, v, r, rfl, _, v, r, rfl, _, v, r, rfl, _, v, r, rfl, _, rfl⟩; show 9 ≤ sizeLine; decide
  · rintro vs q H3 l3 j3 ⟨v1, r, rfl, h1, v2, r, rfl, h2, v3, r, rfl, h3, v4, r, rfl, h4, v5, r, rfl, h5, v6, r, rfl, h6, v7, r, rfl, h7, v8, r, rfl, h8, v9, r, rfl, h9, rfl⟩ hn
    have ln := Le.new (U := some (u, c)) (o := .tup [v1, v2, v3, v4, v5, v6, v7, v8, v9]) j3 hn
    refine ⟨q, _, rfl, upd_same, fun y hy => Fz.le ln ?_, by show 0 < 9; decide, by show 9 ≤ 1000; decide⟩
    simp only [List.mem_cons, List.not_mem_nil, or_false] at hy
    rcases hy with rfl | rfl | rfl | rfl | rfl | rfl | rfl | rfl | rfl <;> assumption
  · rintro vs H3 l3 _ ⟨v, r, rfl, rfl, v', r', rfl, ⟨q, us, rfl, hq, hall, hz⟩, rfl⟩
    exact ⟨⟨u, c, q, false, us⟩, rfl, ⟨rfl, hq, (fun z => Bool.noConfusion z), hz⟩, fun v H2 l2 _ h => Fz.le l2 (hall v h)⟩
  rintro v H3 l3 j3 ⟨x, hx, prm, rfl, hprm⟩
  show S _ _ [some (.ref u), some (.int d), some (.int size), some (.ref pcell), some (.ref prm), none, none, none, none, none, none, none, none, none, none, none, none, none, none] _ _
  -- far, rare, found, through
  refine S.asgT (U := some (u, c)) (P := fun v H => ∃ T far rare F, v = .ref T ∧ H T = some (.tup [.bl far, .int rare, .ref F, .bl true]) ∧ 0 < rare ∧ rare ≤ 40 ∧ H3 F = none ∧ ¬ Mv (some (u, c)) F ∧ H F = some (.lst [])) j3 (R.tup (RA.cons (R.eqIn (φ := fun i => 0 ≤ i ∧ i < 3) (R.callU C3 hr (by decide) (by rfl) (RA.cons (R.var (i := 0) rfl (.inr (.inl rfl)) rfl) (RA.last R.int)) ?_) R.int) (RA.cons (P := In fun i => 0 < i ∧ i ≤ 40) ((R.pickT (vs := [.int 2, .int 5, .int 40]) C1 hr (by decide) (by rfl) (by decide) (R.var (i := 0) rfl (.inr (.inl rfl)) rfl) (R.tupI (RA.cons R.int (RA.cons R.int (RA.last R.int))) ?_ (by decide))).imp ?_)
    (RA.consS (P := NLs (some (u, c)) H3 fun vs _ => vs = []) (fun v H H' l ⟨L, vs, e, h1, h2, h3, h4⟩ => ⟨L, vs, e, h1, h2, l.keep _ _ h2 h3, h4⟩) (R.lstI j3 RA.nil (fun us H1 e => e) (by show 0 ≤ 1000; decide)) (RA.last R.bl)))) ?_ ?_) ?_
  · rintro vs H3 l3 _ ⟨v, r, rfl, rfl, v', r', rfl, rfl, rfl⟩
    exact ⟨(u, c, 3), rfl, ⟨rfl, by show (0 : Int) < 3; decide, Nat.lt_of_lt_of_le (show (3 : Int).natAbs < 2 ^ 10 by decide) (Nat.pow_le_pow_right (by decide) (by decide))⟩, fun v H2 _ _ h => h⟩
  · rintro us' H2 ⟨v, r, rfl, rfl, v, r, rfl, rfl, v', r', rfl, rfl, rfl⟩; rfl
  · rintro v H3 l3 h
    have h : v ∈ [V.int 2, V.int 5, V.int 40] := h
    simp only [List.mem_cons, List.not_mem_nil, or_false] at h
    rcases h with rfl | rfl | rfl <;> exact ⟨_, rfl, by decide⟩
  · rintro us' H2 ⟨v, r, rfl, _, v, r, rfl, _, v, r, rfl, _, v', r', rfl, _, rfl⟩; show 4 ≤ sizeLine; decide
  · rintro us' p' H4 _ j4 ⟨v, r, rfl, ⟨far, rfl⟩, v, r, rfl, ⟨rare, rfl, r0, r1⟩, v, r, rfl, ⟨F, _, rfl, f1, f2, f3, rfl⟩, v', r', rfl, rfl, rfl⟩ hn
    exact ⟨p', far, rare, F, rfl, upd_same, r0, r1, f1, f2, (Le.new j4 hn).keep _ _ f2 f3⟩
  rintro v H4 l4 j4 ⟨T4, far, rare, Fd, rfl, hT4, r0, r1, hF3, nmF, hF4⟩
  refine ⟨_, Tg.tup rfl hT4 (Tgs.cons (Tg.name sc__law_stripes.nd (i := 5) rfl (.inl rfl)) (Tgs.cons (Tg.name sc__law_stripes.nd (i := 6) rfl (.inl rfl)) (Tgs.cons (Tg.name sc__law_stripes.nd (i := 7) rfl (.inl rfl)) (Tgs.cons (Tg.name sc__law_stripes.nd (i := 8) rfl (.inl rfl)) Tgs.nil)))), ?_⟩
  show S _ _ [some (.ref u), some (.int d), some (.int size), some (.ref pcell), some (.ref prm), some (.bl far), some (.int rare), some (.ref Fd), some (.bl true), none, none, none, none, none, none, none, none, none, none] _ _
  have l03 := (l1.trans l2).trans l3
  have l04 := l03.trans l4
  have hF0 : H Fd = none := l03.fresh jn hF3
  have hcell4 := (l3.trans l4).tup _ _ hcell
  have hprm4 := l4.tup _ _ hprm
  have drawn : ∀ {H' : Hp} {vs : List V} {n : Int}, 0 < n → n ≤ 1000 → A2 (Is (V.ref u)) (A2 (Is (V.int n)) A0) vs H' → ∃ a : Addr × Addr × Int, some (a.1, a.2.1) = some (u, c) ∧ (vs = [.ref a.1, .int a.2.2] ∧ 0 < a.2.2 ∧ a.2.2.natAbs < 2 ^ 8000) ∧ ∀ v H2, Le (some (u, c)) H' H2 → Jn (some (u, c)) H2 → In (fun i => 0 ≤ i ∧ i < a.2.2) v H2 → In (fun i => 0 ≤ i ∧ i < n) v H2 := by
    rintro H' vs n n0 n1 ⟨v, r, rfl, rfl, v', r', rfl, rfl, rfl⟩
    exact ⟨(u, c, n), rfl, ⟨rfl, n0, Nat.lt_of_lt_of_le (show n.natAbs < 2 ^ 10 by omega) (Nat.pow_le_pow_right (by decide) (by decide))⟩, fun v H2 _ _ h => h⟩
  let W : Nat → L2.St → Hp → Prop := fun i σ' H' => ∃ thr vs ss x9 x10 x11 x12 x13 x14 x15 x16 x17, σ' = [some (.ref u), some (.int d), some (.int size), some (.ref pcell), some (.ref prm), some (.bl far), some (.int rare), some (.ref Fd), some (.bl thr), x9, x10, x11, x12, x13, x14, x15, x16, x17, none] ∧ Le (some (u, c)) H H' ∧ Jn (some (u, c)) H' ∧ Tk H4 H' ∧ H' Fd = some (.lst vs) ∧ Rep2 StR ss vs H' ∧ ss.length = i ∧ (∀ s ∈ ss, VS x.1 x.2 d s) ∧ (thr = true ↔ ∀ s ∈ ss, On s cell)
  refine S.cut (Mid := fun σ' H' => ∃ n, 1 ≤ n ∧ n ≤ 12 ∧ W n σ' H') (S1.for (U := some (u, c)) (Src.rangeN (φ := fun i => 1 ≤ i ∧ i ≤ 12) (by rfl) B.range (fun i h => ⟨by omega, by omega⟩) ((R.pickT (vs := [.int 1, .int 2, .int 3, .int 4, .int 5, .int 6, .int 8, .int (if far then 8 else 12)]) C1 hr (by decide) (by rfl) ⟨by show 0 < 8; decide, by show 8 ≤ 1000; decide⟩ (R.var (i := 0) rfl (.inr (.inl rfl)) rfl) (R.tupI (RA.cons R.int (RA.cons R.int (RA.cons R.int (RA.cons R.int (RA.cons R.int (RA.cons R.int (RA.cons R.int (RA.last (R.ifE (P := Is (.int (if far then 8 else 12))) (RT.is (k := far) (R.var (i := 5) rfl (.inl rfl) rfl)) (fun e => ?_) (fun e => ?_)))))))))) ?_ (by show 8 ≤ 1000; decide))).imp ?_)) j4 PassesOwn.never rfl fun J H5 l5 j5 ⟨n, hn, wk⟩ => ⟨_, _, _, wk, W,
    ⟨true, [], [], none, none, none, none, none, none, none, none, none, rfl, l04.trans l5, j5, l5.tup, l5.keep _ _ nmF hF4, ⟨rfl, fun i a v e => nomatch e⟩, rfl, (fun s h => nomatch h), by simp⟩, fun _ _ _ _ _ => trivial, ?_, fun σ' H' h => ⟨n, by omega, by omega, h⟩⟩) ?_
  · rw [← e]; exact R.int
  · rw [← e]; exact R.int
  · rintro us' H2 ⟨v, r, rfl, rfl, v, r, rfl, rfl, v, r, rfl, rfl, v, r, rfl, rfl, v, r, rfl, rfl, v, r, rfl, rfl, v, r, rfl, rfl, v', r', rfl, rfl, rfl⟩; rfl
  · rintro v H3 l3 h
    have h : v ∈ [V.int 1, V.int 2, V.int 3, V.int 4, V.int 5, V.int 6, V.int 8, V.int (if far then 8 else 12)] := h
    simp only [List.mem_cons, List.not_mem_nil, or_false] at h
    rcases h with rfl | rfl | rfl | rfl | rfl | rfl | rfl | rfl
    all_goals first
      | exact ⟨_, rfl, by decide⟩
      | (refine ⟨_, rfl, ?_⟩; cases far <;> decide)
  · rintro i v σ' H' H'' hi ⟨thr, vs, ss, x9, x10, x11, x12, x13, x14, x15, x16, x17, rfl, lH, jH, tk, hF, hrep, hsl, hvs, hthr⟩ ⟨rfl, rfl⟩
    refine ⟨_, Tg.name sc__law_stripes.nd (i := 9) rfl (.inl rfl), ?_⟩
    show S _ _ [some (.ref u), some (.int d), some (.int size), some (.ref pcell), some (.ref prm), some (.bl far), some (.int rare), some (.ref Fd), some (.bl thr), some (.int i), x10, x11, x12, x13, x14, x15, x16, x17, none] _ _
    have hcell0 := tk _ _ hcell4
    have hprm0 := tk _ _ hprm4
    have hvl : vs.length = i := hrep.1.trans hsl
    -- shift, way, m
    refine S.asgT (U := some (u, c)) (P := fun v H => ∃ T sh wy m, v = .ref T ∧ H T = some (.tup [.int sh, .int wy, .int m]) ∧ Per x.1 x.2 m ∧ 0 < m ∧ m < T39) jH (R.tup (RA.cons (P := In fun i => 0 ≤ i ∧ i < rare) (R.callU C3 hr (by decide) (by rfl) (RA.cons (R.var (i := 0) rfl (.inr (.inl rfl)) rfl) (RA.last (R.var (i := 6) rfl (.inl rfl) rfl))) (fun vs H1 l _ h => drawn r0 (by omega) h)) (RA.cons (P := In fun i => 0 ≤ i ∧ i < 5) (R.callU C3 hr (by decide) (by rfl) (RA.cons (R.var (i := 0) rfl (.inr (.inl rfl)) rfl) (RA.last R.int)) (fun vs H1 l _ h => drawn (by decide) (by decide) h)) (RA.last (P := In fun m => Per x.1 x.2 m ∧ 0 < m ∧ m < T39) (R.callU C4 hr (by decide) (by rfl) (RA.cons (R.var (i := 0) rfl (.inr (.inl rfl)) rfl) (RA.cons (R.var (i := 4) rfl (.inl rfl) rfl) (RA.last (R.var (i := 5) rfl (.inl rfl) rfl)))) ?_)))) ?_ ?_) ?_
    · rintro vs H3 l3 _ ⟨v, r, rfl, rfl, v', r', rfl, rfl, v'', r'', rfl, rfl, rfl⟩
      exact ⟨⟨u, c, x, prm, far⟩, rfl, ⟨rfl, hx, l3.tup _ _ hprm0⟩, fun v H2 _ _ h => h⟩
    · rintro us' H2 ⟨v, r, rfl, _, v, r, rfl, _, v', r', rfl, _, rfl⟩; show 3 ≤ sizeLine; decide
    · rintro us' p' H5 _ j5 ⟨v, r, rfl, ⟨sh, rfl, _⟩, v, r, rfl, ⟨wy, rfl, _⟩, v', r', rfl, ⟨m, rfl, h⟩, rfl⟩ hn
      exact ⟨p', sh, wy, m, rfl, upd_same, h⟩
    rintro v H5 l5 j5 ⟨T5, sh, wy, m, rfl, hT5, mper, m0, m39⟩
    refine ⟨_, Tg.tup rfl hT5 (Tgs.cons (Tg.name sc__law_stripes.nd (i := 10) rfl (.inl rfl)) (Tgs.cons (Tg.name sc__law_stripes.nd (i := 11) rfl (.inl rfl)) (Tgs.cons (Tg.name sc__law_stripes.nd (i := 12) rfl (.inr rfl)) Tgs.nil))), ?_⟩
    show S _ _ [some (.ref u), some (.int d), some (.int size), some (.ref pcell), some (.ref prm), some (.bl far), some (.int rare), some (.ref Fd), some (.bl thr), some (.int i), some (.int sh), some (.int wy), some (.int m), x13, x14, x15, x16, x17, none] _ _
    have mb : m.natAbs < 2 ^ 134 := Nat.lt_trans (show m.natAbs < T39.natAbs by omega) (by decide)
    -- c
    refine S.asg (U := some (u, c)) (P := PrimR m d) sc__law_stripes.nd (i := 13) rfl (.inl rfl) j5 (R.callU C5 hr (by decide) (by rfl) (RA.cons (R.var (i := 0) rfl (.inr (.inl rfl)) rfl) (RA.cons (R.var (i := 12) rfl (.inr (.inl rfl)) rfl) (RA.last (R.lc (U := some (u, c)) (P := NLs (some (u, c)) H5 fun vs H' => vs.length = d ∧ ∀ (i : Nat) (y : V), vs[i]? = some y → In (fun _ => True) y H') (own := [("_law_place", 18)]) rfl sc__law_stripes.nd (Src.range1 (n := d) (by rfl) B.range (by omega) (R.var (i := 1) rfl (.inl rfl) rfl)) (blkOk_by (N := N__law_stripes) (sc := defScope s__law_stripes) (by decide +kernel))
      (fun J H6 l6 j wk => LcK.map (n := d) (G := fun _ => True) (Y := YFn fun i => .int (i : Int)) (fun i => In fun _ => True) (by rw [Int.toNat_natCast] at wk; exact wk) (by omega) l6 j5 (fun i H x H' => yFn_le) (fun _ _ => trivial) (fun i y H' H'' hi l' j' yy => ?_)))))) ?_) ?_
    · obtain ⟨rfl, rfl⟩ := yy
      refine ⟨_, fun s Hb C cl fp => Tg.name sc__law_stripes.nd (i := 18) rfl (.inl rfl), rfl, fun s Hb C cl fp => R.imIn (R.callU (P := In fun i => 0 ≤ i ∧ i < m) C2 hr (by decide) (by rfl) (RA.cons (R.var (i := 0) rfl (.inr (.inl rfl)) rfl) (RA.last (R.var (i := 12) rfl (.inr (.inl rfl)) rfl))) ?_) (fun _ _ => trivial)⟩
      rintro vs H3 l3 _ ⟨v, r, rfl, rfl, v', r', rfl, rfl, rfl⟩
      exact ⟨(u, c, m), rfl, ⟨rfl, m0⟩, fun v H2 _ _ h => h⟩
    · rintro vs H6 l6 _ ⟨v, r, rfl, rfl, v', r', rfl, rfl, v'', r'', rfl, ⟨L, us, rfl, _, nmL, hL, hz, hu⟩, rfl⟩
      obtain ⟨l, rfl, _⟩ := ins_ix hu
      have hll : l.length = d := by simpa using hz
      exact ⟨⟨u, c, x, m, L, true, l⟩, rfl, ⟨rfl, hL, fun _ => nmL, hx, mper, m0, by show 1 ≤ l.length; omega, by show l.length ≤ 3; omega, mb⟩, fun v H2 _ _ h => by
        have h : PrimR m l.length v H2 := h
        rwa [hll] at h⟩
    rintro v6 H6 l6 j6 hc6
    have l46 := (l5.trans l6)
    show S _ _ [some (.ref u), some (.int d), some (.int size), some (.ref pcell), some (.ref prm), some (.bl far), some (.int rare), some (.ref Fd), some (.bl thr), some (.int i), some (.int sh), some (.int wy), some (.int m), some v6, x14, x15, x16, x17, none] _ _
    have lsd : ∀ {H' : Hp}, Le (some (u, c)) H'' H' → LsD 2 (· = vs) (.ref Fd) H' := fun l => ⟨Fd, vs, rfl, l.keep _ _ nmF hF, rfl, fun y hy => by
      obtain ⟨i, hi⟩ := List.mem_iff_getElem?.mp hy
      obtain ⟨s, _, hs⟩ := (hrep.tk l.tup).get hi
      exact Dtm.str3 hs⟩
    -- way 0
    refine S.cut (Mid := fun σ' H' => ∃ v13 x14, σ' = [some (.ref u), some (.int d), some (.int size), some (.ref pcell), some (.ref prm), some (.bl far), some (.int rare), some (.ref Fd), some (.bl thr), some (.int i), some (.int sh), some (.int wy), some (.int m), some v13, x14, x15, x16, x17, none] ∧ Le (some (u, c)) H'' H' ∧ Jn (some (u, c)) H' ∧ PrimR m d v13 H') (S1.if (U := some (u, c)) (φ := fun b => b = true → 0 < vs.length) j6 (RW.pt (RW.and (φ := fun _ => True) (ψ := fun b => b = true → 0 < vs.length) ((RT.eq rfl (R.var (i := 11) rfl (.inl rfl) rfl) R.int).imp fun _ _ => trivial) (fun _ => RW.and1 (RT.neNil (n := 2) (φ := (· = vs)) (by decide) un64 (Pa := Is (.ref Fd)) (fun _ _ _ _ _ h => h) (R.var (i := 7) rfl (.inl rfl) rfl) (fun v H1 l e => by cases e; exact lsd (l46.trans l)) (fun ws e => by subst e; cases ws <;> simp))) (fun _ h => Bool.noConfusion h) (fun _ k h => h))) (fun e H7 l7 j7 => ?_) (fun e H7 l7 j7 => S.nil ⟨v6, x14, rfl, l46.trans l7, j7, Fz.le l7 hc6⟩)) ?_
    · have hv0 := e rfl
      have l47 := l46.trans l7
      refine S.asg (U := some (u, c)) (P := Vq (· ∈ vs)) sc__law_stripes.nd (i := 14) rfl (.inl rfl) j7 (R.callU C1 hr (by decide) (by rfl) (RA.cons (R.var (i := 0) rfl (.inr (.inl rfl)) rfl) (RA.last (R.var (i := 7) rfl (.inl rfl) rfl))) ?_) ?_
      · rintro us' H8 l8 _ ⟨v, r, rfl, rfl, v', r', rfl, rfl, rfl⟩
        exact ⟨⟨u, c, Fd, true, vs⟩, rfl, ⟨rfl, (l47.trans l8).keep _ _ nmF hF, fun _ => nmF, hv0, by show vs.length ≤ 1000; omega⟩, fun v H2 _ _ h => h⟩
      rintro v8 H8 l8 j8 hv8
      obtain ⟨i8, hi8⟩ := List.mem_iff_getElem?.mp (show v8 ∈ vs from hv8)
      obtain ⟨s8, hs8, q8, vc8, rfl, hq8, pc8, rfl, hpc8⟩ := (hrep.tk (l47.trans l8).tup).get hi8
      have hV8 := hvs s8 (List.mem_of_getElem? hs8)
      have hl8 : s8.c.length = d := hV8.len
      refine S.asg (U := some (u, c)) (P := PrimR m d) sc__law_stripes.nd (i := 13) rfl (.inl rfl) j8 (R.callU C5 hr (by decide) (by rfl) (RA.cons (R.var (i := 0) rfl (.inr (.inl rfl)) rfl) (RA.cons (R.var (i := 12) rfl (.inr (.inl rfl)) rfl) (RA.last (R.ixT (v := .ref pc8) hq8 rfl (R.var (i := 14) rfl (.inl rfl) rfl) R.int)))) ?_) ?_
      · rintro us' H9 l9 _ ⟨v, r, rfl, rfl, v', r', rfl, rfl, v'', r'', rfl, rfl, rfl⟩
        exact ⟨⟨u, c, x, m, pc8, false, s8.c⟩, rfl, ⟨rfl, l9.tup _ _ hpc8, (fun z => Bool.noConfusion z), hx, mper, m0, by show 1 ≤ s8.c.length; omega, by show s8.c.length ≤ 3; omega, mb⟩, fun v H2 _ _ h => by
          have h : PrimR m s8.c.length v H2 := h
          rwa [hl8] at h⟩
      rintro v9 H9 l9 j9 hv9
      exact S.nil ⟨v9, _, rfl, (l47.trans l8).trans l9, j9, hv9⟩
    rintro σ' H7 ⟨v13, x14, rfl, l7, j7, hc7⟩
    -- way 1, 2
    refine S.cut (Mid := fun σ' H' => ∃ m v13 cc, σ' = [some (.ref u), some (.int d), some (.int size), some (.ref pcell), some (.ref prm), some (.bl far), some (.int rare), some (.ref Fd), some (.bl thr), some (.int i), some (.int sh), some (.int wy), some (.int m), some v13, x14, x15, x16, x17, none] ∧ Le (some (u, c)) H'' H' ∧ Jn (some (u, c)) H' ∧ TpI cc v13 H' ∧ RwOk x d m cc) (S1.if (U := some (u, c)) (φ := fun b => b = true → 0 < vs.length) j7 (RW.pt (RW.and (φ := fun _ => True) (ψ := fun b => b = true → 0 < vs.length) (RT.cmp op_in_seq (by rfl) (Pa := Is (.int wy)) (Pb := NT [.int 1, .int 2]) (R.var (i := 11) rfl (.inl rfl) rfl) (R.tupI (RA.cons R.int (RA.last R.int)) ?_ (by decide)) ?_) (fun _ => RW.and1 (RT.neNil (n := 2) (φ := (· = vs)) (by decide) un64 (Pa := Is (.ref Fd)) (fun _ _ _ _ _ h => h) (R.var (i := 7) rfl (.inl rfl) rfl) (fun v H1 l e => by cases e; exact lsd (l7.trans l)) (fun ws e => by subst e; cases ws <;> simp))) (fun _ h => Bool.noConfusion h) (fun _ k h => h))) (fun e H8 l8 j8 => ?_) (fun e H8 l8 j8 => S.nil ?_)) ?_
    · rintro us' H2 ⟨v, r, rfl, rfl, v', r', rfl, rfl, rfl⟩; rfl
    · rintro a b H8 l8 j8 rfl ⟨q, rfl, hq⟩ Q' q'
      exact ⟨q, _, rfl, .inr (.inl (.inl hq)), rfl, rfl, q' _ H8 (Le.refl _) j8 ⟨_, rfl, trivial⟩⟩
    · refine S.asgT (U := some (u, c)) (P := RwR x d) j8 (R.callU C6 hr (by decide) (by rfl) (RA.cons (R.var (i := 0) rfl (.inr (.inl rfl)) rfl) (RA.last (R.var (i := 7) rfl (.inl rfl) rfl))) ?_) ?_
      · rintro us' H9 l9 _ ⟨v, r, rfl, rfl, v', r', rfl, rfl, rfl⟩
        have l79 := (l7.trans l8).trans l9
        exact ⟨⟨u, c, x, d, Fd, vs, ss⟩, rfl, ⟨rfl, l79.keep _ _ nmF hF, nmF, hrep.tk l79.tup, hx, d3, hvs, by have := e rfl; show 0 < ss.length; omega, by show ss.length ≤ 1000; omega⟩, fun v H2 _ _ h => h⟩
      · rintro v H9 l9 j9 ⟨T9, m9, c9, vc9, rfl, hT9, hc9, hR9⟩
        refine ⟨_, Tg.tup rfl hT9 (Tgs.cons (Tg.name sc__law_stripes.nd (i := 12) rfl (.inr rfl)) (Tgs.cons (Tg.name sc__law_stripes.nd (i := 13) rfl (.inl rfl)) Tgs.nil)), S.nil ⟨m9, vc9, c9, rfl, (l7.trans l8).trans l9, j9, hc9, hR9⟩⟩
    · obtain ⟨cc, h1, h2, h3, h4⟩ := hc7
      exact ⟨m, v13, cc, rfl, l7.trans l8, j8, Fz.le l8 h1, mper, m0, mb, h2, h3, h4⟩
    rintro σ' H8 ⟨m, v13, cc, rfl, l8, j8, hcc, R0⟩
    obtain ⟨mper, m0, mb, ccl, ccr, ccp⟩ := R0
    obtain ⟨pcc, rfl, hpcc⟩ := hcc
    have hcell8 := l8.tup _ _ hcell0
    have ccb : Bd 400000 cc := fun y hy => by
      have h1 := ccr y hy
      exact Nat.lt_of_le_of_lt (show y.natAbs ≤ m.natAbs by clear mb; omega) (Nat.lt_of_lt_of_le mb (Nat.pow_le_pow_right (by decide) (by decide)))
    have ceb : Bd 400000 cell := fun y hy => Nat.lt_of_lt_of_le (hcb y hy) (Nat.pow_le_pow_right (by decide) (by decide))
    -- r
    refine S.asgI (U := some (u, c)) (v := .int (dot cc cell % m)) sc__law_stripes.nd (i := 15) rfl (.inl rfl) j8 (R.mod m0 (R.int1I (by rfl) B.int (R.callP C7 hr (by decide) (by rfl) (RA.cons (R.var (i := 13) rfl (.inl rfl) rfl) (RA.last (R.var (i := 3) rfl (.inl rfl) rfl))) ?_)) (R.var (i := 12) rfl (.inr (.inl rfl)) rfl)) fun H9 l9 j9 => ?_
    · rintro us' H9 l9 _ ⟨v, r, rfl, rfl, v', r', rfl, rfl, rfl⟩
      exact ⟨(cc, cell), ⟨_, _, rfl, ⟨pcc, rfl, l9.tup _ _ hpcc⟩, ⟨pcell, rfl, l9.tup _ _ hcell8⟩, by show cc.length ≤ 1000; omega, ccb, ceb⟩, fun v H2 _ _ h => h⟩
    show S _ _ [some (.ref u), some (.int d), some (.int size), some (.ref pcell), some (.ref prm), some (.bl far), some (.int rare), some (.ref Fd), some (.bl thr), some (.int i), some (.int sh), some (.int wy), some (.int m), some (.ref pcc), x14, some (.int (dot cc cell % m)), x16, x17, none] _ _
    have l89 := l8.trans l9
    -- the shift
    refine S.cut (Mid := fun σ' H' => ∃ thr' r x16 x17, σ' = [some (.ref u), some (.int d), some (.int size), some (.ref pcell), some (.ref prm), some (.bl far), some (.int rare), some (.ref Fd), some (.bl thr'), some (.int i), some (.int sh), some (.int wy), some (.int m), some (.ref pcc), x14, some (.int r), x16, x17, none] ∧ Le (some (u, c)) H'' H' ∧ Jn (some (u, c)) H' ∧ H' pcc = some (.tup (cc.map V.int)) ∧ 0 ≤ r ∧ r < m ∧ (thr' = true ↔ thr = true ∧ On ⟨m, cc, r⟩ cell)) (S1.if (U := some (u, c)) (φ := fun b => b = true → 1 < m) j9 (RW.pt (RW.and (φ := fun _ => True) (ψ := fun b => b = true → 1 < m) ((RT.eq rfl (R.var (i := 10) rfl (.inl rfl) rfl) R.int).imp fun _ _ => trivial) (fun _ => RW.and1 ((RT.gt (R.var (i := 12) rfl (.inr (.inl rfl)) rfl) R.int).imp fun k e h => by rw [e] at h; exact of_decide_eq_true h)) (fun _ h => Bool.noConfusion h) (fun _ k h => h))) (fun e H10 l10 j10 => ?_) (fun e H10 l10 j10 => S.nil ?_)) ?_
    · have m1 : 1 < m := e rfl
      have l8a := l89.trans l10
      -- p, q
      refine S.asgT (U := some (u, c)) (P := fun v H => ∃ T p q, v = .ref T ∧ H T = some (.tup [.int p, .int q]) ∧ 1 < p ∧ p ∣ m ∧ 1 < q ∧ q ∣ m) j10 (R.callU C1 hr (by decide) (by rfl) (RA.cons (R.var (i := 0) rfl (.inr (.inl rfl)) rfl) (RA.last (P := fun v H => ∃ L us pws, v = .ref L ∧ ¬ Mv (some (u, c)) L ∧ H L = some (.lst us) ∧ Rep2 PrR pws us H ∧ Pws m pws) (R.callP C8 hr (by decide) (by rfl) (RA.last (R.var (i := 12) rfl (.inr (.inl rfl)) rfl)) ?_))) ?_) ?_
      · rintro us' H11 l11 j11 ⟨v, r, rfl, rfl, rfl⟩
        exact ⟨(m, H11), ⟨rfl, m0, rfl⟩, fun v H2 _ _ ⟨L, us, pws, e, h0, h⟩ => ⟨L, us, pws, e, Le.nmv j11 h0, h⟩⟩
      · rintro us' H11 l11 _ ⟨v, r, rfl, rfl, v', r', rfl, ⟨L, us, pws, rfl, nmL, hL, hrp, WW⟩, rfl⟩
        have hne := pws_some hx WW mper m1
        have hul : us.length = pws.length := hrp.1
        have hpl := WW.len
        refine ⟨⟨u, c, L, true, us⟩, rfl, ⟨rfl, hL, fun _ => nmL, by have := List.length_pos_iff.mpr hne; show 0 < us.length; omega, by show us.length ≤ 1000; omega⟩, fun v H2 l2 _ hv => ?_⟩
        obtain ⟨iq, hiq⟩ := List.mem_iff_getElem?.mp (show v ∈ us from hv)
        obtain ⟨⟨p1, q1⟩, hpq, T, rfl, hT⟩ := (hrp.tk l2.tup).get hiq
        have hpm := List.mem_of_getElem? hpq
        obtain ⟨w1, w2⟩ := WW.dvd hpm
        obtain ⟨w3, e', c', w4, w5, w6, w7⟩ := WW.mem _ hpm
        have hp2 := P10_ge p1 w3
        have w1 : (p1 : Int) ∣ q1 := w1
        have w2 : q1 ∣ m := w2
        have hq0 : 0 < q1 := by
          rcases Int.lt_trichotomy q1 0 with h | h | h
          · have w5 : q1 = ((p1 ^ e' : Nat) : Int) := w5
            omega
          · subst h; have := Int.zero_dvd.mp w2; omega
          · exact h
        have hple := Int.le_of_dvd hq0 w1
        exact ⟨T, (p1 : Int), q1, rfl, hT, by omega, Int.dvd_trans w1 w2, by omega, w2⟩
      rintro v H11 l11 j11 ⟨T, p, q, rfl, hT, p1, pd, q1, qd⟩
      refine ⟨_, Tg.tup rfl hT (Tgs.cons (Tg.name sc__law_stripes.nd (i := 16) rfl (.inl rfl)) (Tgs.cons (Tg.name sc__law_stripes.nd (i := 17) rfl (.inl rfl)) Tgs.nil)), ?_⟩
      show S _ _ [some (.ref u), some (.int d), some (.int size), some (.ref pcell), some (.ref prm), some (.bl far), some (.int rare), some (.ref Fd), some (.bl thr), some (.int i), some (.int sh), some (.int wy), some (.int m), some (.ref pcc), x14, some (.int (dot cc cell % m)), some (.int p), some (.int q), none] _ _
      have l8b := l8a.trans l11
      have ple := Int.le_of_dvd m0 pd
      have qle := Int.le_of_dvd m0 qd
      have pdiv : CDivW m p := wide_div (by omega) (Nat.lt_of_le_of_lt (show p.natAbs ≤ m.natAbs by clear mb; omega) mb) (by decide) (by decide)
      have qdiv : CDivW m q := wide_div (by omega) (Nat.lt_of_le_of_lt (show q.natAbs ≤ m.natAbs by clear mb; omega) mb) (by decide) (by decide)
      obtain ⟨a1, a2⟩ := quot_small (e := 0) m0 p1 pd
      obtain ⟨b1, b2⟩ := quot_small (e := 0) m0 q1 qd
      refine S.par (U := some (u, c)) (Ps := A2 (In fun r => ∃ δ, 0 < δ ∧ δ < m ∧ r = (dot cc cell % m + δ) % m) (A2 (Is (.bl false)) A0)) rfl sc__law_stripes.nd (i := 15) (j := 8) rfl rfl (by decide) rfl rfl j11 (RA.cons (R.imIn (R.opIn (C := fun _ j => 0 < j) (φ := fun r => ∃ δ, 0 < δ ∧ δ < m ∧ r = dot cc cell % m + δ) (ψ := (· = m)) op_mod (fun i j _ e => by rw [e]; exact m0) (R.int1 (by rfl) B.int (R.imIn (R.opIn0 (φ := (· = dot cc cell % m)) (ψ := fun δ => 0 < δ ∧ δ < m) op_add (R.toIn (R.var (i := 15) rfl (.inl rfl) rfl)) ((R.pickT (vs := [.int (m / p), .int (m / p), .int (m / q), .int 1]) C1 hr (by decide) (by rfl) ⟨by show 0 < 4; decide, by show 4 ≤ 1000; decide⟩ (R.var (i := 0) rfl (.inr (.inl rfl)) rfl) (R.tupI (RA.cons (R.fdiv pdiv (R.var (i := 12) rfl (.inr (.inl rfl)) rfl) (R.var (i := 16) rfl (.inl rfl) rfl)) (RA.cons (R.fdiv pdiv (R.var (i := 12) rfl (.inr (.inl rfl)) rfl) (R.var (i := 16) rfl (.inl rfl) rfl)) (RA.cons (R.fdiv qdiv (R.var (i := 12) rfl (.inr (.inl rfl)) rfl) (R.var (i := 17) rfl (.inl rfl) rfl)) (RA.last R.int)))) ?_ (by show 4 ≤ 1000; decide))).imp ?_)) (fun i ⟨a, b, h1, h2, h3⟩ => ⟨b, h2.1, h2.2, by rw [h3, h1]⟩))) (R.toIn (R.var (i := 12) rfl (.inr (.inl rfl)) rfl))) (fun i ⟨a, b, ⟨δ, h1, h2, h3⟩, e1, e2⟩ => ⟨δ, h1, h2, by rw [e2, h3, e1]⟩)) (RA.last R.bl)) ?_
      · rintro us' H2 ⟨v, r, rfl, rfl, v, r, rfl, rfl, v, r, rfl, rfl, v', r', rfl, rfl, rfl⟩; rfl
      · rintro v H3 l3 h
        have h : v ∈ [V.int (m / p), V.int (m / p), V.int (m / q), V.int 1] := h
        simp only [List.mem_cons, List.not_mem_nil, or_false] at h
        rcases h with rfl | rfl | rfl | rfl
        · exact ⟨_, rfl, a1, a2⟩
        · exact ⟨_, rfl, a1, a2⟩
        · exact ⟨_, rfl, b1, b2⟩
        · exact ⟨_, rfl, by omega, m1⟩
      · rintro us' H12 l12 j12 ⟨v, r, rfl, ⟨r', rfl, δ, δ0, δ1, rfl⟩, v', r'', rfl, rfl, rfl⟩
        refine ⟨_, _, rfl, S.nil ⟨false, _, _, _, rfl, l8b.trans l12, j12, (((l9.trans l10).trans l11).trans l12).tup _ _ hpcc, Int.emod_nonneg _ (by omega), Int.emod_lt_of_pos _ m0, ?_⟩⟩
        constructor
        · intro z; cases z
        · rintro ⟨_, h⟩
          exact absurd h (shift_off m0 δ0 δ1)
    · refine ⟨thr, _, _, _, rfl, l89.trans l10, j10, (l9.trans l10).tup _ _ hpcc, Int.emod_nonneg _ (by omega), Int.emod_lt_of_pos _ m0, ?_⟩
      constructor
      · exact fun h => ⟨h, on_mod⟩
      · exact fun h => h.1
    rintro σ' H10 ⟨thr', r, x16, x17, rfl, l10, j10, hpcc', r0', r1', hthr'⟩
    have hF10 := l10.keep _ _ nmF hF
    have hst : ∀ {pos pa pb pc : Pos} {kt : Nat}, R (cxOf CX0 P w K mg base N__law_stripes "_law_stripes" (defScope s__law_stripes) f cdv A outer s H E).nox (some (u, c)) (.Tuple [.Name "_law_m" pa, .Name "_law_c" pb, .Name "_law_r" pc] kt pos) [some (.ref u), some (.int d), some (.int size), some (.ref pcell), some (.ref prm), some (.bl far), some (.int rare), some (.ref Fd), some (.bl thr'), some (.int i), some (.int sh), some (.int wy), some (.int m), some (.ref pcc), x14, some (.int r), x16, x17, none] H10 (StR ⟨m, cc, r⟩) := by
      intro pos pa pb pc kt
      refine (R.tupI (vs := [.int m, .ref pcc, .int r]) (RA.cons (R.var (i := 12) rfl (.inr (.inl rfl)) rfl) (RA.cons (R.var (i := 13) rfl (.inl rfl) rfl) (RA.last (R.var (i := 15) rfl (.inl rfl) rfl)))) ?_ (by show 3 ≤ 1000; decide)).imp fun v H1 l1 ⟨p, e, hp⟩ => ⟨p, .ref pcc, e, hp, pcc, rfl, l1.tup _ _ hpcc'⟩
      rintro us' H2 ⟨v, r, rfl, rfl, v, r, rfl, rfl, v', r', rfl, rfl, rfl⟩; rfl
    refine S.append (U := some (u, c)) (P := StR ⟨m, cc, r⟩) j10 hF10 nmF (by omega) (R.var (i := 7) rfl (.inl rfl) rfl) hst ?_ rfl (pe_bm PySem.F.plainAttrs_list PySem.F.slot_list_append PySem.F.type_list_append mt_append (R.var (i := 7) rfl (.inl rfl) rfl) (RA.last hst))
    rintro v H11 l11 j11 hv hF11
    have ltk : Tk H'' (upd H11 Fd (.lst (vs ++ [v]))) := (l10.trans l11).tup.trans (upd_tk hF11)
    have lHu : Le (some (u, c)) H (upd H11 Fd (.lst (vs ++ [v]))) := ((lH.trans l10).trans l11).mut jn hF0
    refine S.nil ⟨thr', vs ++ [v], ss ++ [⟨m, cc, r⟩], _, _, _, _, _, _, _, _, _, rfl, lHu, upd_jn nmF j11, tk.trans ltk, upd_same, ?_, by rw [List.length_append, hsl]; rfl, fun t ht => ?_, ?_⟩
    · refine ⟨by simp [hvl, hsl], fun j a z e1 e2 => ?_⟩
      by_cases hj : j < ss.length
      · rw [List.getElem?_append_left hj] at e1
        rw [List.getElem?_append_left (by omega)] at e2
        exact Fz.mv _ _ _ ltk (hrep.2 j a z e1 e2)
      · have hj' : j = ss.length := by have := (List.getElem?_eq_some_iff.mp e1).1; simp at this; omega
        subst hj'
        rw [List.getElem?_append_right (Nat.le_refl _)] at e1
        rw [show ss.length = vs.length by omega, List.getElem?_append_right (Nat.le_refl _)] at e2
        simp at e1 e2
        subst e1 e2
        exact Fz.mv _ _ _ (upd_tk hF11) hv
    · rcases List.mem_append.mp ht with h | h
      · exact hvs t h
      · have : t = ⟨m, cc, r⟩ := by simpa using h
        subst this
        exact ⟨mper, m0, mb, ccl, ccr, ccp, r0', r1'⟩
    · rw [hthr', hthr]
      constructor
      · rintro ⟨h1, h2⟩ t ht
        rcases List.mem_append.mp ht with h | h
        · exact h1 t h
        · have : t = ⟨m, cc, r⟩ := by simpa using h
          subst this; exact h2
      · exact fun h => ⟨fun t ht => h t (List.mem_append_left _ ht), h _ (List.mem_append_right _ (by simp))⟩
  · rintro σ' H' ⟨n, n0, n1, thr, vs, ss, x9, x10, x11, x12, x13, x14, x15, x16, x17, rfl, lH, jH, tk, hF, hrep, hsl, hvs, hthr⟩
    refine S.ret (U := some (u, c)) (P := LsR d) jH (R.tup (RA.cons (R.var (i := 3) rfl (.inl rfl) rfl) (RA.cons (P := TupR StR ss) (R.callTy call_tuple_of (by rfl) B.tuple PyProof.Rows.boot_tuple (RA.last (R.var (i := 7) rfl (.inl rfl) rfl)) ?_) (RA.last (R.var (i := 8) rfl (.inl rfl) rfl)))) ?_ ?_) fun v H2 l2 j2 hv => k v H2 (lH.trans l2) j2 hv
    · rintro us' H1 l j ⟨v, r, rfl, rfl, rfl⟩ Q' q'
      exact ⟨Fd, _, rfl, .inl ⟨.inl (.inl (l.keep _ _ nmF hF)), fun p' hp' => q' _ _ (Le.new j hp') ((Le.new j hp').jn j) ⟨p', vs, rfl, upd_same, hrep.tk (l.trans (Le.new (U := some (u, c)) j hp')).tup⟩⟩⟩
    · rintro us' H2 ⟨v, r, rfl, _, v, r, rfl, _, v', r', rfl, _, rfl⟩; show 3 ≤ sizeLine; decide
    · rintro us' p' H2 l2 j2 ⟨v, r, rfl, rfl, v1, r1, rfl, h1, v', r', rfl, rfl, rfl⟩ hn
      have ln := Le.new (U := some (u, c)) (o := .tup [.ref pcell, v1, .bl thr]) j2 hn
      exact ⟨p', .ref pcell, v1, thr, x, cell, ss, rfl, upd_same, ⟨pcell, rfl, (l2.trans ln).tup _ _ (tk _ _ hcell4)⟩, hcl, hcb, Fz.le ln h1, ⟨hx, d1, d3, by omega, by omega, hvs⟩, hthr⟩
end K62
end
section
set_option Elab.async false
set_option linter.all false
set_option maxRecDepth 100000
set_option maxHeartbeats 4000000
set_option exponentiation.threshold 100
namespace K62
open PySem PySem.Spec PyProof.Rows L2
variable {P : Program} {w : World} {K : PySem.W.Frag} {mg : Str → Option Value} {base : Heap}
def AtR {α : Type} (R : α → VP) (as : List α) (i : Nat) : VP := fun v H => ∀ a, as[i]? = some a → R a v H
instance {α : Type} {R : α → VP} [∀ a, Fz (R a)] {as : List α} {i : Nat} : Fz (AtR R as i) := ⟨fun v H H' t h a e => Fz.mv _ _ _ t (h a e)⟩
/-- a comprehension of told things -/
theorem LcK.rep {α : Type} {R : α → VP} [∀ a, Fz (R a)] {as : List α} {X : Cx} {U : UA} {scope : Scope} {tg elt : Expr} {own : List Nat} {σ : L2.St} {J : It} {H0 H1 : Hp} {n : Nat} {G : Hp → Prop} {Y : Nat → Hp → V → Hp → Prop} (w : Walk J n G Y) (hna : n = as.length) (hn : n ≤ 100000) (l0 : Le U H0 H1) (j0 : Jn U H0) (hY : ∀ i H x H', Jn U H → Y i H x H' → Le U H H') (hG : ∀ H', Le U H1 H' → G H')
    (turn : ∀ i x H' H'' a, as[i]? = some a → Le U H1 H' → Jn U H'' → Y i H' x H'' → ∃ σ2, Blk X scope (fun X' => Tg X' tg x (wipe σ own) H'' σ2) ∧ wipe σ2 own = wipe σ own ∧ Blk X scope (fun X' => K62.R X' U elt σ2 H'' (R a))) :
    LcK X U scope tg [] elt own σ J H1 (NLs U H0 fun vs H2 => Rep2 R as vs H2) :=
  LcK.stand (LcK.map (AtR R as) w hn l0 j0 hY hG fun i x H' H'' hi l j y => by
    obtain ⟨σ2, h1, h2, h3⟩ := turn i x H' H'' _ (List.getElem?_eq_getElem (by omega)) l j y
    exact ⟨σ2, h1, h2, fun s Hb C cl fp => (h3 s Hb C cl fp).imp fun v H1 _ hv a e => by rw [List.getElem?_eq_getElem (by omega)] at e; cases e; exact hv⟩) fun vs H' _ ⟨h1, h2⟩ => ⟨h1.trans hna, fun i a v e1 e2 => h2 i v e2 a e1⟩
theorem R.tupleR {α : Type} {R : α → VP} [∀ a, Fz (R a)] {as : List α} {X : Cx} {U : UA} {σ : L2.St} {H H0 : Hp} {a : Expr} {pos q : Pos} (hg : Gl X "tuple") (hm : X.mg "tuple" = none) (ha : K62.R X U a σ H (NLs U H0 fun vs H' => Rep2 R as vs H'))
    (h1 : starEach [a] X.env = (false, eval a X.env) :: starEach [] X.env := by rfl) (h2 : (backTo pos (starEach [] X.env)).any (·.1) = false := by rfl) : K62.R X U (.Call (.Name "tuple" q) [a] [] pos) σ H (TupR R as) :=
  (K62.R.tupleN (fun vs H1 H2 t h => h.tk t) hg hm ha h1 h2).imp fun v H1 _ ⟨p, vs, e, hp, h⟩ => ⟨p, vs, e, hp, h⟩
/-! ### moved -/
def movd (step : Row) (s : Stp) : Stp := ⟨s.m, s.c, (s.r + dot s.c step) % s.m⟩
abbrev sp_moved : Sp := FSp (α := Nat × List Stp × Row) nU (fun x vs H => ∃ v w, vs = [v, w] ∧ TupR StR x.2.1 v H ∧ TpI x.2.2 w H ∧ x.1 ≤ 3 ∧ x.2.1.length ≤ 12 ∧ (∀ s ∈ x.2.1, StOk x.1 s) ∧ Bd 400000 x.2.2) (fun x => TupR StR (x.2.1.map (movd x.2.2)))
theorem ok_moved (F : DefAt K mg "_law_moved" s__law_moved ps__law_moved) (B : Bln mg) (C1 : Callee P w K mg base 1 "_law_dot" ps__law_dot sp_ldot) : Callee P w K mg base 2 "_law_moved" ps__law_moved sp_moved := by
  refine callee_of F sc__law_moved (fun vs H Q E h => ?_) fun f cdv A outer s H vs Q E hr h => ?_
  · obtain ⟨a, _, ⟨v, w, rfl, _⟩, _⟩ := h; rfl
  obtain ⟨⟨d, ss, step⟩, _, ⟨v, w', rfl, ⟨p, us, rfl, hp, hrep⟩, ⟨q, rfl, hq⟩, d3, n12, hok, hb⟩, k⟩ := h
  have d3 : d ≤ 3 := d3
  have n12 : ss.length ≤ 12 := n12
  have hok : ∀ s ∈ ss, StOk d s := hok
  have hb : Bd 400000 step := hb
  have hul : us.length = ss.length := hrep.1
  refine S.ret (U := none) (P := TupR StR (ss.map (movd step))) trivial (R.tupleR (H0 := H) (by rfl) B.tuple (R.lc (own := [("_law_m", 2), ("_law_c", 3), ("_law_r", 4)]) rfl sc__law_moved.nd (Src.tup (R.var (i := 0) rfl (.inl rfl) rfl) hp) (blkOk_by (N := N__law_moved) (sc := defScope s__law_moved) (by decide +kernel))
    (fun J H1 l j wk => LcK.rep wk (by rw [List.length_map]; exact hul) (by omega) l trivial (fun i H x H' => yAt_le) (fun H' l' => (l.trans l').tup _ _ hp) (fun i y H' H'' a ha l' j' yy => ?_)))) fun v H1 l _ h => k v H1 l trivial h
  · obtain ⟨rfl, hy⟩ := yy
    have ll := l.trans l'
    obtain ⟨t, ht, q1, vc, rfl, hq1, pc, rfl, hpc⟩ := (hrep.tk ll.tup).get hy
    rw [List.getElem?_map, ht] at ha
    cases ha
    have hto := hok t (List.mem_of_getElem? ht)
    refine ⟨_, fun s Hb C cl fp => Tg.tup rfl hq1 (Tgs.cons (Tg.name sc__law_moved.nd (i := 2) rfl (.inl rfl)) (Tgs.cons (Tg.name sc__law_moved.nd (i := 3) rfl (.inl rfl)) (Tgs.cons (Tg.name sc__law_moved.nd (i := 4) rfl (.inl rfl)) Tgs.nil))), rfl, fun s Hb C cl fp => (R.tupI (vs := [.int t.m, .ref pc, .int ((t.r + dot t.c step) % t.m)]) (RA.cons (R.var (i := 2) rfl (.inl rfl) rfl) (RA.cons (R.var (i := 3) rfl (.inl rfl) rfl) (RA.last (R.mod hto.m0 (R.int1I (by rfl) B.int (R.add (R.var (i := 4) rfl (.inl rfl) rfl) (R.callP (P := Is (.int (dot t.c step))) C1 hr (by decide) (by rfl) (RA.cons (R.var (i := 3) rfl (.inl rfl) rfl) (RA.last (R.var (i := 1) rfl (.inr (.inl rfl)) rfl))) ?_))) (R.var (i := 2) rfl (.inl rfl) rfl))))) ?_ (by show 3 ≤ 1000; decide)).imp ?_⟩
    · rintro vs H3 l3 _ ⟨v, r, rfl, rfl, v', r', rfl, rfl, rfl⟩
      exact ⟨(t.c, step), ⟨_, _, rfl, ⟨pc, rfl, l3.tup _ _ hpc⟩, ⟨q, rfl, (ll.trans l3).tup _ _ hq⟩, by show t.c.length ≤ 1000; rw [hto.len]; omega, bd_cs hto, hb⟩, fun v H2 _ _ h => h⟩
    · rintro us' H2 ⟨v, r, rfl, rfl, v, r, rfl, rfl, v', r', rfl, rfl, rfl⟩; rfl
    · rintro v H3 l3 ⟨T, e, hT⟩
      exact ⟨T, .ref pc, e, hT, pc, rfl, l3.tup _ _ hpc⟩
/-! ### is_integer -/
abbrev sp_lisint : Sp := FSp (α := Int) nU (fun i vs _ => vs = [.int i]) (fun _ => Is (.bl true))
theorem ok_lisint (F : DefAt K mg "_law_is_integer" s__law_is_integer ps__law_is_integer) (B : Bln mg) : Callee P w K mg base 1 "_law_is_integer" ps__law_is_integer sp_lisint := by
  refine callee_of F sc__law_is_integer (fun vs H Q E h => ?_) fun f cdv A outer s H vs Q E hr h => ?_
  · obtain ⟨a, _, rfl, _⟩ := h; rfl
  obtain ⟨i, _, rfl, k⟩ := h
  refine S.ret (U := none) trivial (R.andB (R.isi (fun _ _ => .base (.int i)) (kit_ty (r := true) (by decide +kernel)) (by rfl) B.isinstance (R.var (i := 0) rfl (.inl rfl) rfl) (R.bltn (by rfl) B.int PyProof.Rows.boot_int rfl))
    (fun _ => R.one (R.notB (R.isi (fun _ _ => .base (.int i)) (kit_ty (r := false) (by decide +kernel)) (by rfl) B.isinstance (R.var (i := 0) rfl (.inl rfl) rfl) (R.bltn (by rfl) B.bool PyProof.Rows.boot_bool rfl))))) fun v H1 l _ e => k v H1 l trivial e
/-! ### nothing found -/
theorem given_none {n : Nat} {v : Nat → V} : Evl.given n (fun _ => false) v = [] := by
  unfold Evl.given
  rw [List.filter_eq_nil_iff.mpr fun a _ h => Bool.noConfusion h]; rfl
/-- [.. for .. if ..] where no test holds -/
theorem LcK.no {X : Cx} {U : UA} {scope : Scope} {tg elt : Expr} {ifs : List Expr} {own : List Nat} {σ : L2.St} {J : It} {H0 H1 : Hp} {n : Nat} {G : Hp → Prop} {Y : Nat → Hp → V → Hp → Prop} (wk : Walk J n G Y) (hn : n ≤ 100000) (l0 : Le U H0 H1) (j0 : Jn U H0) (hY : ∀ i H x H', Jn U H → Y i H x H' → Le U H H') (hG : ∀ H', Le U H1 H' → G H')
    (turn : ∀ i x H' H'', i < n → Le U H1 H' → Jn U H'' → Y i H' x H'' → ∃ σ2, Blk X scope (fun X' => Tg X' tg x (wipe σ own) H'' σ2) ∧ wipe σ2 own = wipe σ own ∧ Blk X scope (fun X' => RTs X' U ifs σ2 H'' (· = false))) : LcK X U scope tg ifs elt own σ J H1 (NLs U H0 fun vs _ => vs = []) :=
  LcK.stand (LcK.sel (fun _ => false) (fun _ => .non) wk hn l0 j0 hY hG fun i x H' H'' hi l j y => by
    obtain ⟨σ2, h1, h2, h3⟩ := turn i x H' H'' hi l j y
    exact ⟨σ2, h1, h2, h3, fun z => Bool.noConfusion z⟩) fun vs H' _ e => e.trans given_none
theorem RT.neNone {X : Cx} {U : UA} {σ : L2.St} {H H0 : Hp} {a : Expr} {pos q : Pos} (hu : X.A.units + 64 < cLine) (ha : R X U a σ H (NLs U H0 fun vs _ => vs = [])) : RT X U (.Compare a [.NotEq] [.List [] q] pos) σ H (· = false) :=
  RT.neNil (n := 0) (φ := (· = [])) (by decide) hu (fun v H1 H2 _ l ⟨L, vs, e, h1, h2, h3, h4⟩ => ⟨L, vs, e, h1, h2, l.keep _ _ h2 h3, h4⟩) ha (fun v H1 l ⟨L, vs, e, h1, h2, h3, h4⟩ => ⟨L, vs, e, h3, h4, by rw [h4]; exact fun u hu => nomatch hu⟩) (fun vs e => by rw [e]; rfl)
theorem R.eqNone {X : Cx} {U : UA} {σ : L2.St} {H H0 : Hp} {a : Expr} {pos q : Pos} (hu : X.A.units + 64 < cLine) (ha : R X U a σ H (NLs U H0 fun vs _ => vs = [])) : R X U (.Compare a [.Eq] [.List [] q] pos) σ H (Is (.bl true)) :=
  (R.eqNil (n := 0) (φ := (· = [])) (ψ := (· = true)) (by decide) hu (fun v H1 H2 _ l ⟨L, vs, e, h1, h2, h3, h4⟩ => ⟨L, vs, e, h1, h2, l.keep _ _ h2 h3, h4⟩) ha (fun v H1 l ⟨L, vs, e, h1, h2, h3, h4⟩ => ⟨L, vs, e, h3, h4, by rw [h4]; exact fun u hu => nomatch hu⟩) (fun vs e => by rw [e]; rfl)).imp fun v H1 _ ⟨b, e, h⟩ => by rw [e, h]; rfl
end K62
end
section
set_option Elab.async false
set_option linter.all false
set_option maxRecDepth 100000
set_option maxHeartbeats 4000000
set_option exponentiation.threshold 100
namespace K62
open PySem PySem.Spec PyProof.Rows L2
variable {P : Program} {w : World} {K : PySem.W.Frag} {mg : Str → Option Value} {base : Heap}
/-- tuple + tuple -/
theorem R.catT {X : Cx} {U : UA} {σ : L2.St} {H : Hp} {a b : Expr} {pos : Pos} {xs ys : List V} (hz : xs.length + ys.length ≤ 1000) (ha : R X U a σ H (NT xs)) (hb : R X U b σ H (NT ys)) : R X U (.BinOp a .Add b pos) σ H (NT (xs ++ ys)) :=
  R.op op_catA ha hb fun x y H1 l1 j1 ⟨p, e1, h1⟩ ⟨q, e2, h2⟩ Q k => by
    subst e1; subst e2
    refine ⟨p, q, xs, ys, rfl, rfl, .inl (.inl h1), .inl (.inl h2), Nat.le_trans hz (by decide), fun e => ?_, fun _ e => ?_, fun _ _ t ht => k _ _ (Le.new j1 ht) ((Le.new j1 ht).jn j1) ⟨t, rfl, upd_same⟩⟩
    · subst e; exact k _ H1 (Le.refl _) j1 ⟨q, rfl, h2⟩
    · subst e; exact k _ H1 (Le.refl _) j1 ⟨p, rfl, by rw [List.append_nil]; exact h1⟩
theorem rep_flat (v : V) : ∀ n : Nat, (List.replicate n [v]).flatten = List.replicate n v
  | 0 => rfl
  | n + 1 => by rw [List.replicate_succ, List.flatten_cons, rep_flat v n]; rfl
/-- [v] * n -/
theorem R.repL {X : Cx} {U : UA} {σ : L2.St} {H : Hp} {a b : Expr} {pos : Pos} {v : V} {n : Nat} (hj : Jn U H) (hn : n ≤ 1000) (ha : R X U a σ H (NLs U H fun vs _ => vs = [v])) (hb : R X U b σ H (Is (.int n))) : R X U (.BinOp a .Mult b pos) σ H (NLs U H fun vs _ => vs = List.replicate n v) :=
  R.of (pe_op op_rep ha hb) fun H1 l j Q q => ⟨rfl, l, j, fun x H2 l2 j2 ⟨L, vs, e, h1, h2, h3, h4⟩ => ⟨rfl, l.trans l2, j2, fun y H3 l3 j3 ey => by
    subst e; subst h4; cases ey
    refine ⟨L, n, [v], rfl, rfl, l3.keep _ _ h2 h3, by omega, by omega, by rw [Int.toNat_natCast]; exact Nat.le_trans (by simpa using hn : [v].length * n ≤ 1000) (by decide), fun t ht => q _ _ ((l2.trans l3).trans (Le.new j3 ht)) ((Le.new j3 ht).jn j3) ⟨t, _, rfl, ((l.trans l2).trans l3).fresh hj ht, Le.nmv j3 ht, upd_same, ?_⟩⟩
    show (List.replicate (n : Int).toNat [v]).flatten = _
    rw [Int.toNat_natCast, rep_flat]⟩⟩
/-- the sums of a bar, the right sides last -/
def sums (d : Nat) (W : Int) (ss : List Stp) (prs : List (Nat × Int)) : List Int := (List.range d).map (fun i => Lc W (psub ss prs) (pnum prs) (unit d i)) ++ [Lr W (psub ss prs) (pnum prs)]
theorem sums_len {d : Nat} {W : Int} {ss : List Stp} {prs : List (Nat × Int)} : (sums d W ss prs).length = d + 1 := by simp [sums]
theorem sums_0 {d : Nat} {W : Int} {ss : List Stp} : sums d W ss [] = List.replicate (d + 1) 0 := by
  apply List.ext_getElem?
  intro i
  unfold sums
  by_cases hi : i < d
  · rw [List.getElem?_append_left (by simp; omega), List.getElem?_map, List.getElem?_range hi]
    simp [Lc, show i < d + 1 by omega]
  · by_cases hi' : i = d
    · subst hi'
      rw [List.getElem?_append_right (by simp)]
      simp [Lr]
    · rw [List.getElem?_eq_none (by simp; omega), List.getElem?_eq_none (by simp; omega)]
theorem sums_step {d : Nat} {W : Int} {ss : List Stp} {prs : List (Nat × Int)} {pr : Nat × Int} (hl : (stp ss pr.1).c.length = d) : List.zipWith (fun a b => a + pr.2 * (W / (stp ss pr.1).m) * b) (sums d W ss prs) ((stp ss pr.1).c ++ [(stp ss pr.1).r]) = sums d W ss (prs ++ [pr]) := by
  have e1 : psub ss (prs ++ [pr]) = psub ss prs ++ [stp ss pr.1] := by simp [psub]
  have e2 : pnum (prs ++ [pr]) = pnum prs ++ [pr.2] := by simp [pnum]
  have hpl : (pnum prs).length = (psub ss prs).length := by simp [pnum, psub]
  unfold sums
  rw [e1, e2, Lr_append hpl, List.zipWith_append (by simp [hl])]
  congr 1
  apply List.ext_getElem?
  intro i
  rw [List.getElem?_zipWith]
  by_cases hi : i < d
  · rw [List.getElem?_map, List.getElem?_range hi, List.getElem?_map, List.getElem?_range hi, List.getElem?_eq_getElem (by omega : i < (stp ss pr.1).c.length)]
    show some _ = some _
    congr 1
    dsimp only
    rw [Lc_append hpl, dot_unit_r hl hi, List.getD_eq_getElem?_getD, List.getElem?_eq_getElem (by omega : i < (stp ss pr.1).c.length)]
    rfl
  · rw [List.getElem?_eq_none (l := List.map _ (List.range d)) (by simp; omega), List.getElem?_eq_none (l := List.map _ (List.range d)) (by simp; omega)]
abbrev sp_lisbar : Sp := FSp (α := IbA) nU (fun x vs H => ∃ v w, vs = [v, w] ∧ TupR StR x.ss v H ∧ TupR PrR x.prs w H ∧ x.Ok ∧ 0 < x.ss.length) (fun _ => Is (.bl true))
theorem ok_lisbar (F : DefAt K mg "_law_is_bar" s__law_is_bar ps__law_is_bar) (B : Bln mg) (C1 : Callee P w K mg base 1 "_law_is_integer" ps__law_is_integer sp_lisint) : Callee P w K mg base 2 "_law_is_bar" ps__law_is_bar sp_lisbar := by
  refine callee_of F sc__law_is_bar (fun vs H Q E h => ?_) fun f cdv A outer s H vs Q E hr h => ?_
  · obtain ⟨a, _, ⟨v, w, rfl, _⟩, _⟩ := h; rfl
  obtain ⟨x, _, ⟨v, w', rfl, ⟨p, us, rfl, hp, hrep⟩, ⟨q, qs, rfl, hq, hrq⟩, O, hn0⟩, k⟩ := h
  have un64 := hr.units
  have d3 := O.d3
  have hlen := O.len
  have hul : us.length = x.ss.length := hrep.1
  have hql : qs.length = x.prs.length := hrq.1
  have hin : ∀ pr ∈ x.prs, pr.1 < x.ss.length := fun pr h => (O.bar.ok pr h).1
  have hmem : ∀ pr ∈ x.prs, stp x.ss pr.1 ∈ x.ss := fun pr h => by
    rw [stp_get (List.getElem?_eq_getElem (hin pr h))]; exact List.getElem_mem (hin pr h)
  have hok : ∀ pr ∈ x.prs, StOk x.d (stp x.ss pr.1) := fun pr h => O.ok _ (hmem pr h)
  -- d
  obtain ⟨u0, hu0, p0, vc0, rfl, hp0, pc0, rfl, hpc0⟩ := hrep.of (List.getElem?_eq_getElem hn0)
  have hl0 : (x.ss[0]'hn0).c.length = x.d := (O.ok _ (List.getElem_mem _)).len
  refine S.asgI (U := none) (v := .int x.d) sc__law_is_bar.nd (i := 2) rfl (.inl rfl) trivial (R.cast (R.lenT (by rfl) B.len hpc0 (R.ixT (v := .ref pc0) hp0 rfl (R.ixT hp (atI_nat (j := 0) hu0) (R.var (i := 0) rfl (.inl rfl) rfl) R.int) R.int)) (by rw [List.length_map, hl0])) fun H1 l1 _ => ?_
  have hq1 := l1.tup _ _ hq
  refine S.if (U := none) trivial (RW.pt (RW.orB (p := false) (q := false) (notT (P := Is .non) (R.isi (k := true) (fun H1 l => .base (.tup (l.tup _ _ hq1))) (kit_ty (by decide +kernel)) (by rfl) B.isinstance (R.var (i := 1) rfl (.inr (.inl rfl)) rfl) (R.bltn (by rfl) B.tuple PyProof.Rows.boot_tuple rfl)))
    (fun _ => RW.or1 ((RT.gt (R.lenT (by rfl) B.len hq1 (R.var (i := 1) rfl (.inr (.inl rfl)) rfl)) (R.add (R.var (i := 2) rfl (.inl rfl) rfl) R.int)).imp fun k e => by rw [e]; exact decide_eq_false (by omega))))) (fun e => Bool.noConfusion (e : true = false)) fun _ H2 l2 _ => S.nil ?_
  have l12 := l1.trans l2
  show S _ _ [some (.ref p), some (.ref q), some (.int x.d), none, none, none, none, none, none, none, none, none, none, none] _ _
  -- pairs
  refine S.cut (Mid := fun σ' H' => ∃ x3, σ' = [some (.ref p), some (.ref q), some (.int x.d), x3, none, none, none, none, none, none, none, none, none, none] ∧ Le none H H') (S1.for (U := none) (Src.tup (R.var (i := 1) rfl (.inr (.inl rfl)) rfl) (l12.tup _ _ hq)) trivial PassesOwn.never rfl fun J H3 l3 _ wk => ⟨_, _, _, wk,
    fun i σ' H' => ∃ x3, σ' = [some (.ref p), some (.ref q), some (.int x.d), x3, none, none, none, none, none, none, none, none, none, none] ∧ Le none H H', ⟨none, rfl, l12.trans l3⟩, fun i σ' H' _ ⟨_, _, l⟩ => l.tup _ _ hq, ?_, fun σ' H' h => h⟩) ?_
  · rintro i v σ' H' H'' hi ⟨x3, rfl, l⟩ ⟨rfl, hv⟩
    obtain ⟨pr, hpr, qp, rfl, hqp⟩ := (hrq.tk l.tup).get hv
    have hpm := List.mem_of_getElem? hpr
    have hok1 := O.bar.ok pr hpm
    refine ⟨_, Tg.name sc__law_is_bar.nd (i := 3) rfl (.inl rfl), ?_⟩
    show S _ _ [some (.ref p), some (.ref q), some (.int x.d), some (.ref qp), none, none, none, none, none, none, none, none, none, none] _ _
    refine S.if (U := none) trivial (RW.pt (RW.orB (p := false) (q := false) (notT (P := Is .non) (R.isi (k := true) (fun H1 l => .base (.tup (l.tup _ _ hqp))) (kit_ty (by decide +kernel)) (by rfl) B.isinstance (R.var (i := 3) rfl (.inl rfl) rfl) (R.bltn (by rfl) B.tuple PyProof.Rows.boot_tuple rfl)))
      (fun _ => RW.orB (p := false) (q := false) (RT.ne rfl (R.lenT (by rfl) B.len hqp (R.var (i := 3) rfl (.inl rfl) rfl)) R.int) (fun _ => RW.or1 (RT.neNone (U := none) (H0 := H'') un64 (R.lc (own := [("_law_x", 11)]) rfl sc__law_is_bar.nd (Src.tup (R.var (i := 3) rfl (.inl rfl) rfl) hqp) (blkOk_by (N := N__law_is_bar) (sc := defScope s__law_is_bar) (by decide +kernel))
        (fun J H4 l4 _ wk => LcK.no wk (by show 2 ≤ 100000; decide) l4 trivial (fun i H x H' => yAt_le) (fun H' l' => (l4.trans l').tup _ _ hqp) (fun i y Ha Hb hi l' j' yy => ?_)))))))) (fun e => Bool.noConfusion (e : true = false)) fun _ H4 l4 _ => S.nil ?_
    · obtain ⟨rfl, hy⟩ := yy
      have : ∃ z : Int, y = .int z := by
        match i, hi, hy with
        | 0, _, hy => exact ⟨_, (Option.some.inj hy).symm⟩
        | 1, _, hy => exact ⟨_, (Option.some.inj hy).symm⟩
      obtain ⟨z, rfl⟩ := this
      refine ⟨_, fun s Hb C cl fp => Tg.name sc__law_is_bar.nd (i := 11) rfl (.inl rfl), rfl, fun s Hb C cl fp => RTs.one (notT (P := Is .non) (R.callP C1 hr (by decide) (by rfl) (RA.last (R.var (i := 11) rfl (.inl rfl) rfl)) ?_))⟩
      rintro vs H5 l5 _ ⟨v, r, rfl, rfl, rfl⟩
      exact ⟨z, rfl, fun v H2 _ _ e => e⟩
    have hqp4 := l4.tup _ _ hqp
    refine S.if (U := none) trivial (RW.pt (RW.orB (p := false) (q := false) ((RT.not (φ := (· = true)) ((RT.chain op_le op_lt R.int (R.ixT (v := .int pr.1) hqp4 rfl (R.var (i := 3) rfl (.inl rfl) rfl) R.int) (R.lenT (by rfl) B.len ((l.trans l4).tup _ _ hp) (R.var (i := 0) rfl (.inl rfl) rfl))).imp fun k e => ?_)).imp fun k e => by rw [← Bool.not_not k, e]; rfl) (fun _ => RW.or1 ((RT.eq rfl (R.ixT (v := .int pr.2) hqp4 rfl (R.var (i := 3) rfl (.inl rfl) rfl) R.int) R.int).imp fun k e => by rw [e]; exact decide_eq_false fun z => hok1.2.1 (V.int.inj z))))) (fun e => Bool.noConfusion (e : true = false)) fun _ H5 l5 _ => S.nil (S.nil ⟨_, rfl, (l.trans l4).trans l5⟩)
    rw [e, decide_eq_true (show (0 : Int) ≤ (pr.1 : Int) by omega), decide_eq_true (show (pr.1 : Int) < (us.length : Int) by have := hok1.1; omega)]; rfl
  rintro σ' H3 ⟨x3, rfl, l3⟩
  -- in order
  refine S.if (U := none) trivial (RT.neNone (U := none) (H0 := H3) un64 (R.lc (own := [("_law_at", 6)]) rfl sc__law_is_bar.nd (Src.range2 (lo := 1) (hi := qs.length) (by rfl) B.range (by omega) R.int (R.lenT (by rfl) B.len (l3.tup _ _ hq) (R.var (i := 1) rfl (.inr (.inl rfl)) rfl))) (blkOk_by (N := N__law_is_bar) (sc := defScope s__law_is_bar) (by decide +kernel))
    (fun J H4 l4 _ wk => LcK.no wk (by omega) l4 trivial (fun i H x H' => yFn_le) (fun H' l' => trivial) (fun i y Ha Hb hi l' j' yy => ?_)))) (fun e => Bool.noConfusion (e : true = false)) fun _ H4 l4 _ => S.nil ?_
  · obtain ⟨rfl, rfl⟩ := yy
    have i1 : i < x.prs.length := by omega
    have i2 : i + 1 < x.prs.length := by omega
    have ll := (l3.trans l4).trans l'
    obtain ⟨y1, hy1, q1, rfl, hq1⟩ := (hrq.tk ll.tup).of (List.getElem?_eq_getElem i1)
    obtain ⟨y2, hy2, q2, rfl, hq2⟩ := (hrq.tk ll.tup).of (List.getElem?_eq_getElem i2)
    have hpw := List.pairwise_iff_getElem.mp O.bar.inc i (i + 1) i1 i2 (by omega)
    refine ⟨_, fun s Hb C cl fp => Tg.name sc__law_is_bar.nd (i := 6) rfl (.inl rfl), rfl, fun s Hb C cl fp => RTs.one ((RT.ge (R.ixT (v := .int _) hq1 rfl (R.ixT (i := 1 + (i : Int) - 1) (ll.tup _ _ hq) (by rw [show 1 + (i : Int) - 1 = ((i : Nat) : Int) by omega]; exact atI_nat hy1) (R.var (i := 1) rfl (.inr (.inl rfl)) rfl) (R.sub (R.var (i := 6) rfl (.inl rfl) rfl) R.int)) R.int) (R.ixT (v := .int _) hq2 rfl (R.ixT (i := 1 + (i : Int)) (ll.tup _ _ hq) (by rw [show 1 + (i : Int) = ((i + 1 : Nat) : Int) by omega]; exact atI_nat hy2) (R.var (i := 1) rfl (.inr (.inl rfl)) rfl) (R.var (i := 6) rfl (.inl rfl) rfl)) R.int)).imp fun k e => ?_)⟩
    rw [e]
    exact decide_eq_false (by omega)
  have l04 := l3.trans l4
  -- whole, sums
  refine S.asgT (U := none) (P := fun v H => ∃ T L, v = .ref T ∧ H T = some (.tup [.int 1, .ref L]) ∧ H L = some (.lst (List.replicate (x.d + 1) (.int 0)))) trivial (R.tup (RA.cons R.int (RA.last (R.repL (v := .int 0) (n := x.d + 1) trivial (by omega) (R.lstI trivial (RA.last R.int) (fun us H1 ⟨v, r, e, e1, e2⟩ => by cases e1; cases e2; exact e) (by show 1 ≤ 1000; decide)) (R.cast (R.add (R.var (i := 2) rfl (.inl rfl) rfl) R.int) (by rw [Int.natCast_add]; rfl))))) ?_ ?_) ?_
  · rintro us' H2 ⟨v, r, rfl, _, v', r', rfl, _, rfl⟩; show 2 ≤ sizeLine; decide
  · rintro us' p' H5 _ j5 ⟨v, r, rfl, rfl, v', r', rfl, ⟨L, _, rfl, f1, f2, f3, rfl⟩, rfl⟩ hn
    exact ⟨p', L, rfl, upd_same, (Le.new (U := none) trivial hn).keep _ _ f2 f3⟩
  rintro v H5 l5 _ ⟨T5, L0, rfl, hT5, hL0⟩
  refine ⟨_, Tg.tup rfl hT5 (Tgs.cons (Tg.name sc__law_is_bar.nd (i := 4) rfl (.inr rfl)) (Tgs.cons (Tg.name sc__law_is_bar.nd (i := 5) rfl (.inl rfl)) Tgs.nil)), ?_⟩
  show S _ _ [some (.ref p), some (.ref q), some (.int x.d), x3, some (.int 1), some (.ref L0), none, none, none, none, none, none, none, none] _ _
  have l05 := l04.trans l5
  refine S.cut (Mid := fun σ' H' => ∃ W x6 x7, σ' = [some (.ref p), some (.ref q), some (.int x.d), x3, some (.int W), some (.ref L0), x6, x7, none, none, none, none, none, none] ∧ Le none H5 H' ∧ 0 < W ∧ (∀ pr ∈ x.prs, (stp x.ss pr.1).m ∣ W) ∧ W.natAbs < 2 ^ (134 * x.prs.length + 1)) (S1.for (U := none) (Src.tup (R.var (i := 1) rfl (.inr (.inl rfl)) rfl) (l05.tup _ _ hq)) trivial PassesOwn.never rfl fun J H6 l6 _ wk => ⟨_, _, _, wk,
    fun i σ' H' => ∃ W x6 x7, σ' = [some (.ref p), some (.ref q), some (.int x.d), x3, some (.int W), some (.ref L0), x6, x7, none, none, none, none, none, none] ∧ Le none H5 H' ∧ 0 < W ∧ (∀ pr ∈ x.prs.take i, (stp x.ss pr.1).m ∣ W) ∧ W.natAbs < 2 ^ (134 * i + 1), ⟨1, none, none, rfl, l6, by decide, (fun pr h => nomatch h), by decide⟩, fun i σ' H' _ ⟨_, _, _, _, l, _⟩ => (l05.trans l).tup _ _ hq, ?_, ?_⟩) ?_
  · rintro i v σ' H' H'' hi ⟨W, x6, x7, rfl, l, W0, Wd, Wb⟩ ⟨rfl, hv⟩
    have l0 := l05.trans l
    obtain ⟨pr, hpr, qp, rfl, hqp⟩ := (hrq.tk l0.tup).get hv
    have hpm := List.mem_of_getElem? hpr
    obtain ⟨y1, hy1, q1, vc1, rfl, hq1, pc1, rfl, hpc1⟩ := (hrep.tk l0.tup).of (List.getElem?_eq_getElem (hin pr hpm))
    have est : x.ss[pr.1]'(hin pr hpm) = stp x.ss pr.1 := (stp_get (List.getElem?_eq_getElem (hin pr hpm))).symm
    rw [est] at hq1 hpc1
    have hso := hok pr hpm
    have il : i ≤ 4 := by omega
    refine ⟨_, Tg.tup rfl hqp (Tgs.cons (Tg.name sc__law_is_bar.nd (i := 6) rfl (.inl rfl)) (Tgs.cons (Tg.name sc__law_is_bar.nd (i := 7) rfl (.inr rfl)) Tgs.nil)), ?_⟩
    show S _ _ [some (.ref p), some (.ref q), some (.int x.d), x3, some (.int W), some (.ref L0), some (.int pr.1), some (.int pr.2), none, none, none, none, none, none] _ _
    refine S.asgI (U := none) sc__law_is_bar.nd (i := 4) rfl (.inr rfl) trivial (R.mul (wide_mul Wb hso.m1 (by omega) (by decide) (by omega)) (R.var (i := 4) rfl (.inr (.inl rfl)) rfl) (R.ixT (v := .int (stp x.ss pr.1).m) hq1 rfl (R.ixT (l0.tup _ _ hp) (atI_nat hy1) (R.var (i := 0) rfl (.inl rfl) rfl) (R.var (i := 6) rfl (.inl rfl) rfl)) R.int)) fun H7 l7 _ => S.nil ⟨_, _, _, rfl, l.trans l7, Int.mul_pos W0 hso.m0, fun r hr => ?_, ?_⟩
    · rw [List.take_add_one, hpr] at hr
      rcases List.mem_append.mp hr with h | h
      · exact Int.dvd_mul_of_dvd_left (Wd r h)
      · have : r = pr := by simpa using h
        subst this
        exact Int.dvd_mul_left _ _
    · have := wide_lt Wb hso.m1
      rwa [show 134 * i + 1 + 134 = 134 * (i + 1) + 1 by omega] at this
  · rintro σ' H' ⟨W, x6, x7, rfl, l, W0, Wd, Wb⟩
    rw [hql, List.take_length] at Wd
    rw [hql] at Wb
    exact ⟨W, _, _, rfl, l, W0, Wd, Wb⟩
  rintro σ' H6 ⟨W, x6, x7, rfl, l6, W0, Wd, Wb⟩
  have hBW := O.bar.bars W W0 Wd
  have l56 := l05.trans l6
  have Wb' : W.natAbs < 2 ^ 600 := Nat.lt_of_lt_of_le Wb (Nat.pow_le_pow_right (by decide) (by omega))
  refine S.cut (Mid := fun σ' H' => ∃ L x6 x7 x8 x9 x10, σ' = [some (.ref p), some (.ref q), some (.int x.d), x3, some (.int W), some (.ref L), x6, x7, x8, x9, x10, none, none, none] ∧ Le none H6 H' ∧ H' L = some (.lst ((sums x.d W x.ss x.prs).map V.int))) (S1.for (U := none) (Src.tup (R.var (i := 1) rfl (.inr (.inl rfl)) rfl) (l56.tup _ _ hq)) trivial PassesOwn.never rfl fun J H7 l7 _ wk => ⟨_, _, _, wk,
    fun i σ' H' => ∃ L x6 x7 x8 x9 x10, σ' = [some (.ref p), some (.ref q), some (.int x.d), x3, some (.int W), some (.ref L), x6, x7, x8, x9, x10, none, none, none] ∧ Le none H6 H' ∧ H' L = some (.lst ((sums x.d W x.ss (x.prs.take i)).map V.int)), ⟨L0, _, _, none, none, none, rfl, l7, ?_⟩, fun i σ' H' _ ⟨_, _, _, _, _, _, _, l, _⟩ => (l56.trans l).tup _ _ hq, ?_, ?_⟩) ?_
  · rw [(l6.trans l7).keep _ _ (fun z => z) hL0, List.take_zero, sums_0, List.map_replicate]
  · rintro i v σ' H' H'' hi ⟨L, x6, x7, x8, x9, x10, rfl, l, hL⟩ ⟨rfl, hv⟩
    have l0 := l56.trans l
    obtain ⟨pr, hpr, qp, rfl, hqp⟩ := (hrq.tk l0.tup).get hv
    have hpm := List.mem_of_getElem? hpr
    obtain ⟨y1, hy1, q1, vc1, rfl, hq1, pc1, rfl, hpc1⟩ := (hrep.tk l0.tup).of (List.getElem?_eq_getElem (hin pr hpm))
    have est : x.ss[pr.1]'(hin pr hpm) = stp x.ss pr.1 := (stp_get (List.getElem?_eq_getElem (hin pr hpm))).symm
    rw [est] at hq1 hpc1
    have hso := hok pr hpm
    have hlb := (O.bar.ok pr hpm).2.2
    have etk : x.prs.take (i + 1) = x.prs.take i ++ [pr] := by rw [List.take_add_one, hpr]; rfl
    refine ⟨_, Tg.tup rfl hqp (Tgs.cons (Tg.name sc__law_is_bar.nd (i := 6) rfl (.inl rfl)) (Tgs.cons (Tg.name sc__law_is_bar.nd (i := 7) rfl (.inr rfl)) Tgs.nil)), ?_⟩
    show S _ _ [some (.ref p), some (.ref q), some (.int x.d), x3, some (.int W), some (.ref L), some (.int pr.1), some (.int pr.2), x8, x9, x10, none, none, none] _ _
    refine S.asgT (U := none) (P := Is (.ref q1)) trivial (R.ixT (l0.tup _ _ hp) (atI_nat hy1) (R.var (i := 0) rfl (.inl rfl) rfl) (R.var (i := 6) rfl (.inl rfl) rfl)) ?_
    rintro v H8 l8 _ rfl
    refine ⟨_, Tg.tup rfl (l8.tup _ _ hq1) (Tgs.cons (Tg.name sc__law_is_bar.nd (i := 8) rfl (.inr rfl)) (Tgs.cons (Tg.name sc__law_is_bar.nd (i := 9) rfl (.inl rfl)) (Tgs.cons (Tg.name sc__law_is_bar.nd (i := 10) rfl (.inl rfl)) Tgs.nil))), ?_⟩
    show S _ _ [some (.ref p), some (.ref q), some (.int x.d), x3, some (.int W), some (.ref L), some (.int pr.1), some (.int pr.2), some (.int (stp x.ss pr.1).m), some (.ref pc1), some (.int (stp x.ss pr.1).r), none, none, none] _ _
    have hL8 := l8.keep _ _ (fun z => z) hL
    have hpc8 := l8.tup _ _ hpc1
    have hcl := hso.len
    have Wq : (W / (stp x.ss pr.1).m).natAbs < 2 ^ 600 := by
      have h0 := hso.m0
      have h1 : 0 ≤ W / (stp x.ss pr.1).m := Int.ediv_nonneg (by omega) (by omega)
      have h2 : W / (stp x.ss pr.1).m ≤ W := Int.ediv_le_self _ (by omega)
      exact Nat.lt_of_le_of_lt (by clear Wb Wb'; omega) Wb'
    have hnb : ∀ y ∈ (stp x.ss pr.1).c ++ [(stp x.ss pr.1).r], y.natAbs < 2 ^ 134 := fun y hy => by
      rcases List.mem_append.mp hy with h | h
      · have h1 := hso.cs y h
        have h2 := hso.m1
        omega
      · have : y = (stp x.ss pr.1).r := by simpa using h
        rw [this]; exact hso.r1
    have hn1 : (sums x.d W x.ss (x.prs.take i)).length = x.d + 1 := sums_len
    have hn2 : ((stp x.ss pr.1).c ++ [(stp x.ss pr.1).r]).length = x.d + 1 := by simp [hcl]
    refine S.asgLc (U := none) (i := 5) (own := [("_law_total", 12), ("_law_number", 13)]) (P := NLs none H8 fun vs H' => vs.length = min ((sums x.d W x.ss (x.prs.take i)).map V.int).length (((stp x.ss pr.1).c ++ [(stp x.ss pr.1).r]).map V.int).length ∧ ∀ j y, vs[j]? = some y → y = V.int ((sums x.d W x.ss (x.prs.take i)).getD j 0 + pr.2 * (W / (stp x.ss pr.1).m) * ((stp x.ss pr.1).c ++ [(stp x.ss pr.1).r]).getD j 0)) rfl sc__law_is_bar.nd rfl rfl (sw_true rfl rfl rfl (by decide +kernel)) trivial (Src.zip2 (b1 := true) (b2 := false) (ys := ((stp x.ss pr.1).c ++ [(stp x.ss pr.1).r]).map V.int) (by rfl) B.zip (R.var (i := 5) rfl (.inl rfl) rfl) ((R.catT (xs := (stp x.ss pr.1).c.map V.int) (ys := [.int (stp x.ss pr.1).r]) (by rw [List.length_map, hcl]; show x.d + 1 ≤ 1000; omega) ((R.var (i := 9) rfl (.inl rfl) rfl).imp fun v H9 l9 e => ⟨pc1, e, l9.tup _ _ hpc8⟩) (R.tupI (RA.last (R.var (i := 10) rfl (.inl rfl) rfl)) (fun us H1 ⟨v, r, e, e1, e2⟩ => by cases e1; cases e2; exact e) (by show 1 ≤ 1000; decide))).imp fun v H9 l9 ⟨p9, e, h⟩ => ⟨p9, e, by rw [List.map_append]; exact h⟩) hL8 nmN) (blkOk_by (N := N__law_is_bar) (sc := defScope s__law_is_bar) (by decide +kernel))
      (fun J H9 l9 _ ⟨pq2, hp2, wk⟩ => LcK.map (fun j => Is (V.int ((sums x.d W x.ss (x.prs.take i)).getD j 0 + pr.2 * (W / (stp x.ss pr.1).m) * ((stp x.ss pr.1).c ++ [(stp x.ss pr.1).r]).getD j 0))) wk (by rw [List.length_map, hn1]; omega) l9 trivial (fun i H x H' => yZ2_le) (fun H' l' => ⟨(l9.trans l').keep _ _ (fun z => z) hL8, l'.tup _ _ hp2⟩) (fun j y Ha Hb hj l' j' yy => ?_)) ?_
    · obtain ⟨T3, y1, y2, rfl, hn, rfl, g1, g2⟩ := yy
      obtain ⟨rfl, hm1⟩ := getV g1
      obtain ⟨rfl, hm2⟩ := getV g2
      exact ⟨_, fun s Hb C cl fp => Tg.tup rfl upd_same (Tgs.cons (Tg.name sc__law_is_bar.nd (i := 12) rfl (.inl rfl)) (Tgs.cons (Tg.name sc__law_is_bar.nd (i := 13) rfl (.inl rfl)) Tgs.nil)), rfl, fun s Hb C cl fp => R.add (R.var (i := 12) rfl (.inl rfl) rfl) (R.mul (wide_mul (wide_lt hlb Wq) (hnb _ hm2) (by decide) (by decide) (by decide)) (R.mul (wide_mul hlb Wq (by decide) (by decide) (by decide)) (R.var (i := 7) rfl (.inr (.inl rfl)) rfl) (R.fdiv (wide_div hso.m0 hso.m1 (by decide) (by decide)) (R.var (i := 4) rfl (.inr (.inl rfl)) rfl) (R.var (i := 8) rfl (.inr (.inl rfl)) rfl))) (R.var (i := 13) rfl (.inl rfl) rfl))⟩
    rintro v H9 l9 _ ⟨Ln, vn, rfl, _, _, hLn, hnz, hnv⟩
    refine S.nil ⟨Ln, _, _, _, _, _, rfl, (l.trans l8).trans l9, ?_⟩
    rw [hLn, ints_of hnz hnv, List.length_map, List.length_map, hn1, hn2, Nat.min_self, zipw_range (fun a b => a + pr.2 * (W / (stp x.ss pr.1).m) * b) hn1 hn2, sums_step hcl, etk]
  · rintro σ' H' ⟨L, x6, x7, x8, x9, x10, rfl, l, hL⟩
    rw [hql, List.take_length] at hL
    exact ⟨L, _, _, _, _, _, rfl, l, hL⟩
  rintro σ' H7 ⟨L, x6, x7, x8, x9, x10, rfl, l7, hL⟩
  have hs0 : cutV ((sums x.d W x.ss x.prs).map V.int) none (some (x.d : Int)) = (((List.range x.d).map fun i => Lc W (psub x.ss x.prs) (pnum x.prs) (unit x.d i))).map V.int := by
    rw [cut_hi, ← List.map_take]
    congr 1
    unfold sums
    rw [List.take_left' (by simp)]
  have hdv : ∀ y ∈ (List.range x.d).map (fun i => Lc W (psub x.ss x.prs) (pnum x.prs) (unit x.d i)), y % W = 0 := fun y hy => by
    obtain ⟨i, hi, rfl⟩ := List.mem_map.mp hy
    exact Int.emod_eq_zero_of_dvd (hBW.2.1 _ unit_len)
  have hlast : (sums x.d W x.ss x.prs).getD x.d 0 = Lr W (psub x.ss x.prs) (pnum x.prs) := by
    unfold sums
    rw [List.getD_eq_getElem?_getD, List.getElem?_append_right (by simp)]
    simp
  refine S.ret (U := none) trivial (R.andB (p := true) (R.eqNone (U := none) (H0 := H7) un64 (R.lc (own := [("_law_total", 12)]) rfl sc__law_is_bar.nd (Src.newLst (Q := fun vs _ => vs = (((List.range x.d).map fun i => Lc W (psub x.ss x.prs) (pnum x.prs) (unit x.d i))).map V.int) ((R.slL (U := none) (H := H7) trivial hL (fun z => z) (R.var (i := 5) rfl (.inl rfl) rfl) RO.none (RO.some (R.var (i := 2) rfl (.inl rfl) rfl))).imp fun v H8 l8 ⟨L8, vs8, e, h1, h2, h3, h4⟩ => ⟨L8, vs8, e, h3, h2, h4.trans hs0⟩)) (blkOk_by (N := N__law_is_bar) (sc := defScope s__law_is_bar) (by decide +kernel))
    (fun J H8 l8 _ ⟨L8, vs8, hL8, nm8, e8, wk⟩ => LcK.no wk (by rw [e8]; simp; omega) l8 trivial (fun i H x H' => yAt_le) (fun H' l' => l'.keep _ _ nm8 hL8) (fun i y Ha Hb hi l' j' yy => ?_)))) (fun _ => R.one (R.ne rfl (R.mod W0 (R.int1I (by rfl) B.int (R.ixL hL (atI_nat (j := x.d) (by rw [List.getElem?_map, List.getElem?_eq_getElem (by rw [sums_len]; omega)]; rfl)) (fun z => z) (R.var (i := 5) rfl (.inl rfl) rfl) (R.var (i := 2) rfl (.inl rfl) rfl))) (R.var (i := 4) rfl (.inr (.inl rfl)) rfl)) R.int))) fun v H8 l8 _ e => k v H8 ((l56.trans l7).trans l8) trivial ?_
  · obtain ⟨rfl, hy⟩ := yy
    rw [e8] at hy
    obtain ⟨rfl, hm⟩ := getV hy
    refine ⟨_, fun s Hb C cl fp => Tg.name sc__law_is_bar.nd (i := 12) rfl (.inl rfl), rfl, fun s Hb C cl fp => RTs.one ((RT.ne rfl (R.mod W0 (R.int1I (by rfl) B.int (R.var (i := 12) rfl (.inl rfl) rfl)) (R.var (i := 4) rfl (.inr (.inl rfl)) rfl)) R.int).imp fun k e => ?_)⟩
    rw [e, ne_int]
    exact decide_eq_false fun z => z (hdv _ hm)
  · have hl : (sums x.d W x.ss x.prs)[x.d]'(by rw [sums_len]; omega) = Lr W (psub x.ss x.prs) (pnum x.prs) := by
      rw [← hlast, List.getD_eq_getElem?_getD, List.getElem?_eq_getElem (by rw [sums_len]; omega)]; rfl
    rw [e, hl, ne_int, decide_eq_true (show Lr W (psub x.ss x.prs) (pnum x.prs) % W ≠ 0 from fun z => hBW.2.2 (Int.dvd_of_emod_eq_zero z))]; rfl
end K62
end
section
set_option Elab.async false
set_option linter.all false
set_option maxRecDepth 100000
set_option maxHeartbeats 4000000
set_option exponentiation.threshold 100
namespace K62
open PySem PySem.Spec PyProof.Rows L2
variable {P : Program} {w : World} {K : PySem.W.Frag} {mg : Str → Option Value} {base : Heap}
abbrev sp_lispaper : Sp := FSp (α := StA × Ppr) nU (fun x vs H => ∃ v w, vs = [v, w] ∧ TupR StR x.1.ss v H ∧ PpR x.2 w H ∧ x.1.Ok ∧ PpOk x.1.d x.1.ss x.2) (fun _ => Is (.bl true))
theorem ok_lispaper (F : DefAt K mg "_law_is_paper" s__law_is_paper ps__law_is_paper) (B : Bln mg) (C1 : Callee P w K mg base 1 "_law_is_integer" ps__law_is_integer sp_lisint) (C2 : Callee P w K mg base 2 "_law_is_bar" ps__law_is_bar sp_lisbar) (C3 : Callee P w K mg base 1 "_law_dot" ps__law_dot sp_ldot) : Callee P w K mg base 3 "_law_is_paper" ps__law_is_paper sp_lispaper := by
  refine callee_of F sc__law_is_paper (fun vs H Q E h => ?_) fun f cdv A outer s H vs Q E hr h => ?_
  · obtain ⟨a, _, ⟨v, w, rfl, _⟩, _⟩ := h; rfl
  obtain ⟨⟨x, pp⟩, _, ⟨v, w', rfl, ⟨p, us, rfl, hp, hrep⟩, hpp, O, hok⟩, k⟩ := h
  have O : x.Ok := O
  have hok : PpOk x.d x.ss pp := hok
  have hp : H p = some (.tup us) := hp
  have hrep : Rep2 StR x.ss us H := hrep
  have un64 := hr.units
  have hul : us.length = x.ss.length := hrep.1
  have n1 := O.n1
  have n12 := O.n12
  have d3 := O.d3
  have hT : ∀ {H'}, Le none H H' → TupR StR x.ss (.ref p) H' := fun l => ⟨p, us, rfl, l.tup _ _ hp, hrep.tk l.tup⟩
  obtain ⟨T, z, v1, rfl, hTT, hz⟩ : ∃ T z v1, w' = .ref T ∧ H T = some (.tup [.str z, v1]) ∧ (z = "meet" ∨ z = "never") := by
    cases pp with
    | meet cell => obtain ⟨T, vc, e, h, _⟩ := hpp; exact ⟨T, _, _, e, h, .inl rfl⟩
    | never prs => obtain ⟨T, vc, e, h, _⟩ := hpp; exact ⟨T, _, _, e, h, .inr rfl⟩
  refine S.if (U := none) trivial (RW.pt (RW.orB (p := false) (q := false) (notT (P := Is .non) (R.isi (k := true) (fun H1 l => .base (.tup (l.tup _ _ hTT))) (kit_ty (by decide +kernel)) (by rfl) B.isinstance (R.var (i := 1) rfl (.inl rfl) rfl) (R.bltn (by rfl) B.tuple PyProof.Rows.boot_tuple rfl)))
    (fun _ => RW.orB (p := false) (q := false) (RT.ne rfl (R.lenT (by rfl) B.len hTT (R.var (i := 1) rfl (.inl rfl) rfl)) R.int) (fun _ => RW.or1 (RT.cmp op_notIn_seq (by rfl) (Pa := Is (.str z)) (Pb := NT [.str "meet", .str "never"]) (R.ixT (v := .str z) hTT rfl (R.var (i := 1) rfl (.inl rfl) rfl) R.int) (R.tupI (RA.cons R.str (RA.last R.str)) ?_ (by decide)) ?_))))) (fun e => Bool.noConfusion (e : true = false)) fun _ H1 l1 _ => S.nil ?_
  · rintro us' H2 ⟨v, r, rfl, rfl, v', r', rfl, rfl, rfl⟩; rfl
  · rintro a b H8 l8 j8 rfl ⟨q, rfl, hq⟩ Q' q'
    refine ⟨q, _, rfl, .inr (.inl (.inl hq)), rfl, rfl, q' _ H8 (Le.refl _) j8 ⟨_, rfl, ?_⟩⟩
    rcases hz with rfl | rfl <;> decide
  have hT1 := l1.tup _ _ hTT
  refine S.if (U := none) trivial (RT.eq rfl (R.ixT (v := .str z) hT1 rfl (R.var (i := 1) rfl (.inl rfl) rfl) R.int) R.str) (fun e H2 l2 _ => ?_) (fun e H2 l2 _ => S.nil ?_)
  · cases pp with
    | meet cell =>
      obtain ⟨T', vc, e', h, hc⟩ := hpp
      cases e'
      rw [hTT] at h
      cases h
      exact absurd (e : true = _) (by decide)
    | never prs =>
      obtain ⟨T', vc, e', h, hc⟩ := hpp
      cases e'
      rw [hTT] at h
      cases h
      have l12 := l1.trans l2
      refine S.ret (U := none) trivial (R.callP C2 hr (by decide) (by rfl) (RA.cons (R.var (i := 0) rfl (.inl rfl) rfl) (RA.last (R.ixT (v := v1) (l2.tup _ _ hT1) rfl (R.var (i := 1) rfl (.inl rfl) rfl) R.int))) ?_) fun v H4 l4 _ e => k v H4 (l12.trans l4) trivial e
      rintro vs H4 l4 _ ⟨v, r, rfl, rfl, v', r', rfl, rfl, rfl⟩
      exact ⟨⟨x.d, x.ss, prs⟩, ⟨_, _, rfl, hT (l12.trans l4), Fz.le (l12.trans l4) hc, ⟨d3, fun s hs => (O.vs s hs).st, hok.1, hok.2.1⟩, n1⟩, fun v H2 _ _ e => e⟩
  · cases pp with
    | never prs =>
      obtain ⟨T', vc, e', h, hc⟩ := hpp
      cases e'
      rw [hTT] at h
      cases h
      exact absurd (e : false = _) (by decide)
    | meet cell =>
      obtain ⟨T', vc, e', h, hc⟩ := hpp
      cases e'
      rw [hTT] at h
      cases h
      obtain ⟨pc, rfl, hpc⟩ := hc
      obtain ⟨hcl, hon, hcb⟩ := hok
      have l12 := l1.trans l2
      refine S.asgI (U := none) (v := .ref pc) sc__law_is_paper.nd (i := 2) rfl (.inr rfl) trivial (R.ixT (v := .ref pc) (l2.tup _ _ hT1) rfl (R.var (i := 1) rfl (.inl rfl) rfl) R.int) fun H3 l3 _ => ?_
      have l13 := l12.trans l3
      have hpc3 := l13.tup _ _ hpc
      obtain ⟨u0, hu0, p0, vc0, rfl, hp0, pc0, rfl, hpc0⟩ := (hrep.tk l13.tup).of (List.getElem?_eq_getElem (show 0 < x.ss.length by omega))
      have hl0 : (x.ss[0]'(by omega)).c.length = x.d := (O.vs _ (List.getElem_mem _)).len
      refine S.if (U := none) trivial (RW.pt (RW.orB (p := false) (q := false) (notT (P := Is .non) (R.isi (k := true) (fun H1 l => .base (.tup (l.tup _ _ hpc3))) (kit_ty (by decide +kernel)) (by rfl) B.isinstance (R.var (i := 2) rfl (.inr (.inl rfl)) rfl) (R.bltn (by rfl) B.tuple PyProof.Rows.boot_tuple rfl)))
        (fun _ => RW.orB (p := false) (q := false) ((RT.ne rfl (R.lenT (by rfl) B.len hpc3 (R.var (i := 2) rfl (.inr (.inl rfl)) rfl)) (R.lenT (by rfl) B.len hpc0 (R.ixT (v := .ref pc0) hp0 rfl (R.ixT (l13.tup _ _ hp) (atI_nat (j := 0) hu0) (R.var (i := 0) rfl (.inl rfl) rfl) R.int) R.int))).imp fun k e => ?_) (fun _ => RW.or1 (RT.neNone (U := none) (H0 := H3) un64 (R.lc (own := [("_law_x", 3)]) rfl sc__law_is_paper.nd (Src.tup (R.var (i := 2) rfl (.inr (.inl rfl)) rfl) hpc3) (blkOk_by (N := N__law_is_paper) (sc := defScope s__law_is_paper) (by decide +kernel))
          (fun J H4 l4 _ wk => LcK.no wk (by rw [List.length_map]; omega) l4 trivial (fun i H x H' => yAt_le) (fun H' l' => (l4.trans l').tup _ _ hpc3) (fun i y Ha Hb hi l' j' yy => ?_)))))))) (fun e => Bool.noConfusion (e : true = false)) fun _ H4 l4 _ => S.nil ?_
      · rw [e, ne_int, List.length_map, List.length_map, hl0, hcl]; simp
      · obtain ⟨rfl, hy⟩ := yy
        obtain ⟨rfl, _⟩ := getV hy
        refine ⟨_, fun s Hb C cl fp => Tg.name sc__law_is_paper.nd (i := 3) rfl (.inl rfl), rfl, fun s Hb C cl fp => RTs.one (notT (P := Is .non) (R.callP C1 hr (by decide) (by rfl) (RA.last (R.var (i := 3) rfl (.inl rfl) rfl)) ?_))⟩
        rintro vs H5 l5 _ ⟨v, r, rfl, rfl, rfl⟩
        exact ⟨_, rfl, fun v H2 _ _ e => e⟩
      have l14 := l13.trans l4
      have hp4 := l14.tup _ _ hp
      refine S.ret (U := none) trivial (R.eqNone (U := none) (H0 := H4) un64 (R.lc (own := [("_law_m", 4), ("_law_c", 5), ("_law_r", 6)]) rfl sc__law_is_paper.nd (Src.tup (R.var (i := 0) rfl (.inl rfl) rfl) hp4) (blkOk_by (N := N__law_is_paper) (sc := defScope s__law_is_paper) (by decide +kernel))
        (fun J H5 l5 _ wk => LcK.no wk (by omega) l5 trivial (fun i H x H' => yAt_le) (fun H' l' => (l5.trans l').tup _ _ hp4) (fun i y Ha Hb hi l' j' yy => ?_)))) fun v H6 l6 _ e => k v H6 (l14.trans l6) trivial e
      obtain ⟨rfl, hy⟩ := yy
      have l15 := (l14.trans l5).trans l'
      obtain ⟨t, ht, q1, vc, rfl, hq1, pc1, rfl, hpc1⟩ := (hrep.tk l15.tup).get hy
      have htm := List.mem_of_getElem? ht
      have hto := (O.vs t htm).st
      refine ⟨_, fun s Hb C cl fp => Tg.tup rfl hq1 (Tgs.cons (Tg.name sc__law_is_paper.nd (i := 4) rfl (.inl rfl)) (Tgs.cons (Tg.name sc__law_is_paper.nd (i := 5) rfl (.inl rfl)) (Tgs.cons (Tg.name sc__law_is_paper.nd (i := 6) rfl (.inl rfl)) Tgs.nil))), rfl, fun s Hb C cl fp => RTs.one ((RT.ne rfl (R.mod hto.m0 (R.int1I (by rfl) B.int (R.sub (R.callP (P := Is (.int (dot t.c cell))) C3 hr (by decide) (by rfl) (RA.cons (R.var (i := 5) rfl (.inl rfl) rfl) (RA.last (R.var (i := 2) rfl (.inr (.inl rfl)) rfl))) ?_) (R.var (i := 6) rfl (.inl rfl) rfl))) (R.var (i := 4) rfl (.inl rfl) rfl)) R.int).imp fun k e => ?_)⟩
      · rintro vs H6 l6 _ ⟨v, r, rfl, rfl, v', r', rfl, rfl, rfl⟩
        exact ⟨(t.c, cell), ⟨_, _, rfl, ⟨pc1, rfl, l6.tup _ _ hpc1⟩, ⟨pc, rfl, (l15.trans l6).tup _ _ hpc⟩, by show t.c.length ≤ 1000; have h5 : t.c.length = x.d := hto.len; omega, bd_cs hto, fun y hy => Nat.lt_of_le_of_lt (hcb y hy) (Nat.pow_lt_pow_right (by decide) (by decide))⟩, fun v H2 _ _ h => h⟩
      · rw [e, ne_int]
        exact decide_eq_false fun z => z (Int.emod_eq_zero_of_dvd (hon t htm))
end K62
end
section
set_option linter.all false
/-! Stripes cut in parts, moved, written otherwise. -/
namespace K62
theorem p10_per {x : Nat × Nat} (hx : x ∈ PQs) {p : Nat} (hp : p ∈ P10) {m : Int} (hm : Per x.1 x.2 m) (hd : (p : Int) ∣ m) : p = x.1 ∨ p = x.2 := by
  obtain ⟨h1, h2⟩ := PQ_P10 x hx
  obtain ⟨a, b, e⟩ := hm
  have p2 := P10_ge p hp
  refine Classical.byContradiction fun z => ?_
  have z1 : p ≠ x.1 := fun h => z (.inl h)
  have z2 : p ≠ x.2 := fun h => z (.inr h)
  have hn : p ∣ x.1 ^ a * x.2 ^ b := by rw [e] at hd; exact Int.natCast_dvd_natCast.mp hd
  have c1 : Nat.Coprime p (x.1 ^ a) := Nat.Coprime.pow_right a (P10_cop p hp _ h1 z1)
  have h3 := Nat.Coprime.dvd_of_dvd_mul_left c1 hn
  rcases h2 with e2 | h2
  · rw [e2, Nat.one_pow] at h3; have := Nat.dvd_one.mp h3; omega
  · have c2 : Nat.Coprime p (x.2 ^ b) := Nat.Coprime.pow_right b (P10_cop p hp _ h2 z2)
    have := Nat.Coprime.dvd_of_dvd_mul_left c2 (by rw [Nat.mul_one]; exact h3 : p ∣ x.2 ^ b * 1)
    have := Nat.dvd_one.mp this; omega
theorem per_up {x : Nat × Nat} (hx : x ∈ PQs) {p : Nat} (hp : p ∈ P10) {m : Int} (hm : Per x.1 x.2 m) (hd : (p : Int) ∣ m) : Per x.1 x.2 (m * p) := by
  have h := p10_per hx hp hm hd
  obtain ⟨a, b, rfl⟩ := hm
  rcases h with rfl | rfl
  · exact ⟨a + 1, b, by rw [← Int.natCast_mul, Nat.pow_succ, Nat.mul_right_comm]⟩
  · exact ⟨a, b + 1, by rw [← Int.natCast_mul, Nat.pow_succ, Nat.mul_assoc]⟩
/-- the part e of a stripe -/
def part (s : Stp) (p : Nat) (c : Row) (e : Nat) : Stp := ⟨s.m * p, c, s.r + e * s.m⟩
theorem addk_mem_dvd {q m : Int} (hq : q ∣ m) : ∀ {c ks : List Int}, c.length = ks.length → (∀ y ∈ addk c m ks, q ∣ y) → ∀ y ∈ c, q ∣ y
  | [], _, _, _ => fun y hy => nomatch hy
  | x :: c, [], h, _ => by simp at h
  | x :: c, k :: ks, h, ha => fun y hy => by
    rw [addk_cons] at ha
    rcases List.mem_cons.mp hy with rfl | hy
    · have h1 := ha _ (List.mem_cons_self ..)
      have h2 := Int.dvd_sub h1 (Int.dvd_mul_of_dvd_left hq (c := k))
      rwa [Int.add_sub_cancel] at h2
    · exact addk_mem_dvd hq (by simpa using h) (fun z hz => ha z (List.mem_cons_of_mem _ hz)) y hy
theorem addk_rng {m : Int} {p : Int} (hm : 0 < m) : ∀ {c ks : List Int}, (∀ y ∈ c, 0 ≤ y ∧ y < m) → (∀ k ∈ ks, 0 ≤ k ∧ k < p) → ∀ y ∈ addk c m ks, 0 ≤ y ∧ y < m * p
  | [], ks, _, _ => fun y hy => by simp [addk] at hy
  | x :: c, [], _, _ => fun y hy => by simp [addk] at hy
  | x :: c, k :: ks, h1, h2 => fun y hy => by
    rw [addk_cons] at hy
    rcases List.mem_cons.mp hy with rfl | hy
    · obtain ⟨a1, a2⟩ := h1 x (List.mem_cons_self ..)
      obtain ⟨b1, b2⟩ := h2 k (List.mem_cons_self ..)
      have h3 : 0 ≤ m * k := Int.mul_nonneg (by omega) b1
      have h4 : m * (k + 1) ≤ m * p := Int.mul_le_mul_of_nonneg_left (by omega) (by omega)
      rw [Int.mul_add, Int.mul_one] at h4
      omega
    · exact addk_rng hm (fun z hz => h1 z (List.mem_cons_of_mem _ hz)) (fun z hz => h2 z (List.mem_cons_of_mem _ hz)) y hy
theorem part_vs {x : Nat × Nat} (hx : x ∈ PQs) {d : Nat} {s : Stp} (V : VS x.1 x.2 d s) {p : Nat} (hp : p ∈ P10) (hd : (p : Int) ∣ s.m) {ks : List Int} (hk : ks.length = d) (hkr : ∀ k ∈ ks, 0 ≤ k ∧ k < (p : Int)) (hsm : (s.m * p).natAbs < 2 ^ 134) {e : Nat} (he : e < p) : VS x.1 x.2 d (part s p (addk s.c s.m ks) e) := by
  have hm := V.pos
  have p2 := P10_ge p hp
  have hper := per_up hx hp V.per hd
  have hl : s.c.length = ks.length := by rw [V.len, hk]
  refine ⟨hper, Int.mul_pos hm (by omega), hsm, by show (addk s.c s.m ks).length = d; rw [addk_len, V.len, hk, Nat.min_self], addk_rng hm V.cs hkr, prim_of hx hper fun q hq hqd hall => ?_, ?_, ?_⟩
  · have hqm : (q : Int) ∣ s.m := by
      rcases P10_pr q hq s.m.natAbs with h | h
      · exact Int.ofNat_dvd_left.mpr h
      · have h1 : q ∣ s.m.natAbs * p := by
          have h0 : q ∣ (s.m * (p : Int)).natAbs := Int.ofNat_dvd_left.mp hqd
          rwa [Int.natAbs_mul, Int.natAbs_natCast] at h0
        have h2 := Nat.Coprime.dvd_of_dvd_mul_left h h1
        exact Int.dvd_trans (Int.natCast_dvd_natCast.mpr h2) hd
    exact prim_no V.prim (P10_ge q hq).1 hqm (addk_mem_dvd hqm hl hall)
  · have h1 : 0 ≤ (e : Int) * s.m := Int.mul_nonneg (by omega) (by omega)
    have := V.r0
    show 0 ≤ s.r + e * s.m
    omega
  · have h1 : ((e : Int) + 1) * s.m ≤ (p : Int) * s.m := Int.mul_le_mul_of_nonneg_right (by omega) (by omega)
    have := V.r1
    show s.r + e * s.m < s.m * p
    rw [Int.add_mul, Int.one_mul, Int.mul_comm (p : Int)] at h1
    omega
theorem part_on {s : Stp} {p : Nat} (hp : 0 < p) {ks : List Int} (hm : 0 < s.m) (hl : s.c.length = ks.length) (y : Row) : On s y ↔ ∃ e, e < p ∧ On (part s p (addk s.c s.m ks) e) y := by
  have hdot : dot (addk s.c s.m ks) y = dot s.c y + s.m * dot ks y := dot_addk_l _ hl
  constructor
  · rintro ⟨t, ht⟩
    have h0 := Int.emod_nonneg (t + dot ks y) (show (p : Int) ≠ 0 by omega)
    have h1 := Int.emod_lt_of_pos (t + dot ks y) (show (0 : Int) < (p : Int) by omega)
    refine ⟨((t + dot ks y) % p).toNat, by omega, (t + dot ks y) / p, ?_⟩
    show dot (addk s.c s.m ks) y - (s.r + (((t + dot ks y) % p).toNat : Int) * s.m) = s.m * p * ((t + dot ks y) / p)
    rw [hdot, Int.toNat_of_nonneg h0]
    have h2 := Int.emod_add_mul_ediv (t + dot ks y) p
    grind
  · rintro ⟨e, he, z, hz⟩
    have hz : dot (addk s.c s.m ks) y - (s.r + (e : Int) * s.m) = s.m * p * z := hz
    exact ⟨p * z + e - dot ks y, by rw [hdot] at hz; grind⟩
/-- the stripes with the one at g in parts -/
def parts (ss : List Stp) (g : Nat) (s : Stp) (p : Nat) (c : Row) (e : Nat) : List Stp := ss.take g ++ [part s p c e] ++ ss.drop (g + 1)
theorem split_at {ss : List Stp} {g : Nat} {s : Stp} (h : ss[g]? = some s) : ss = ss.take g ++ [s] ++ ss.drop (g + 1) := by
  have h1 := List.take_append_drop (g + 1) ss
  rw [List.take_add_one, h] at h1
  exact h1.symm
theorem parts_meet {d : Nat} {ss : List Stp} {g : Nat} {s : Stp} (hg : ss[g]? = some s) {p : Nat} (hp : 0 < p) {ks : List Int} (hm : 0 < s.m) (hl : s.c.length = ks.length) : Meets d ss ↔ ∃ e, e < p ∧ Meets d (parts ss g s p (addk s.c s.m ks) e) := by
  have hsp := split_at hg
  constructor
  · rintro ⟨y, hy, ho⟩
    have hos : On s y := ho s (List.mem_of_getElem? hg)
    obtain ⟨e, he, hpe⟩ := (part_on hp hm hl y).mp hos
    refine ⟨e, he, y, hy, fun t ht => ?_⟩
    unfold parts at ht
    rcases List.mem_append.mp ht with ht | ht
    · rcases List.mem_append.mp ht with ht | ht
      · exact ho t (List.mem_of_mem_take ht)
      · have : t = part s p (addk s.c s.m ks) e := by simpa using ht
        subst this; exact hpe
    · exact ho t (List.mem_of_mem_drop ht)
  · rintro ⟨e, he, y, hy, ho⟩
    refine ⟨y, hy, fun t ht => ?_⟩
    rw [hsp] at ht
    unfold parts at ho
    rcases List.mem_append.mp ht with ht | ht
    · rcases List.mem_append.mp ht with ht | ht
      · exact ho t (List.mem_append_left _ (List.mem_append_left _ ht))
      · have : t = s := by simpa using ht
        subst this
        exact (part_on hp hm hl y).mpr ⟨e, he, ho _ (List.mem_append_left _ (List.mem_append_right _ (by simp)))⟩
    · exact ho t (List.mem_append_right _ ht)
theorem parts_len {ss : List Stp} {g : Nat} (hg : g < ss.length) {s : Stp} {p : Nat} {c : Row} {e : Nat} : (parts ss g s p c e).length = ss.length := by
  simp [parts]; omega
theorem ks_of {m : Int} (hm : 0 < m) {p : Int} : ∀ {l c : List Int}, l.length = c.length → (∀ i, i < c.length → ∃ k, 0 ≤ k ∧ k < p ∧ l.getD i 0 = c.getD i 0 + m * k) → ∃ ks : List Int, ks.length = c.length ∧ l = addk c m ks ∧ ∀ k ∈ ks, 0 ≤ k ∧ k < p
  | [], [], _, _ => ⟨[], rfl, rfl, fun k hk => nomatch hk⟩
  | y :: l, [], h, _ => by simp at h
  | [], x :: c, h, _ => by simp at h
  | y :: l, x :: c, h, hk => by
    obtain ⟨k, k0, k1, e⟩ := hk 0 (by simp)
    obtain ⟨ks, h1, h2, h3⟩ := ks_of hm (l := l) (c := c) (by simpa using h) fun i hi => by
      have := hk (i + 1) (by simpa using hi)
      simpa using this
    refine ⟨k :: ks, by simp [h1], by rw [addk_cons, ← h2]; congr 1; , fun j hj => ?_⟩
    rcases List.mem_cons.mp hj with rfl | hj
    · exact ⟨k0, k1⟩
    · exact h3 j hj
/-! moved -/
theorem movd_on {d : Nat} {step x : Row} {s : Stp} (hs : step.length = d) (hx : x.length = d) : On ⟨s.m, s.c, (s.r + dot s.c step) % s.m⟩ (addk x 1 step) ↔ On s x := by
  have e : dot s.c (addk x 1 step) = dot s.c x + dot s.c step := by rw [dot_addk _ _ _ _ (by rw [hs, hx]), Int.one_mul]
  have h2 := Int.emod_add_mul_ediv (s.r + dot s.c step) s.m
  unfold On
  show s.m ∣ dot s.c (addk x 1 step) - (s.r + dot s.c step) % s.m ↔ s.m ∣ dot s.c x - s.r
  rw [e]
  constructor
  · rintro ⟨z, hz⟩
    exact ⟨z - (s.r + dot s.c step) / s.m, by grind⟩
  · rintro ⟨z, hz⟩
    exact ⟨z + (s.r + dot s.c step) / s.m, by grind⟩
end K62
end
section
set_option Elab.async false
set_option linter.all false
set_option maxRecDepth 100000
set_option maxHeartbeats 4000000
set_option exponentiation.threshold 100
namespace K62
open PySem PySem.Spec PyProof.Rows L2
variable {P : Program} {w : World} {K : PySem.W.Frag} {mg : Str → Option Value} {base : Heap}
/-- [], [] -/
theorem RA.two {X : Cx} {U : UA} {σ : L2.St} {H : Hp} {q1 q2 : Pos} (hj : Jn U H) (h1 : starEach [(.List [] q1 : Expr), .List [] q2] X.env = (false, eval (.List [] q1) X.env) :: starEach [(.List [] q2 : Expr)] X.env := by rfl) (h2 : starEach [(.List [] q2 : Expr)] X.env = (false, eval (.List [] q2) X.env) :: starEach [] X.env := by rfl) :
    RA X U [.List [] q1, .List [] q2] σ H (fun vs H' => ∃ L1 L2, vs = [.ref L1, .ref L2] ∧ L1 ≠ L2 ∧ H L1 = none ∧ H L2 = none ∧ ¬ Mv U L1 ∧ ¬ Mv U L2 ∧ H' L1 = some (.lst []) ∧ H' L2 = some (.lst [])) :=
  RA.of (pa_cons (pe_lst pa_nil) (pa_cons (pe_lst pa_nil) pa_nil h2) h1) fun H1 l j Q k => by
    refine ⟨Nat.zero_le _, fun a1 e1 => ⟨Nat.zero_le _, fun a2 e2 => ?_⟩⟩
    have l1 := Le.new (o := .lst []) j e1
    have j1 := l1.jn j
    have l2 := Le.new (o := .lst []) j1 e2
    have n1 := Le.nmv j e1
    have n2 := Le.nmv j1 e2
    have ne : a1 ≠ a2 := fun z => by rw [← z, upd_same] at e2; cases e2
    exact k _ _ (l1.trans l2) (l2.jn j1) ⟨a1, a2, rfl, ne, l.fresh hj e1, (l.trans l1).fresh hj e2, n1, n2, l2.keep _ _ n1 upd_same, upd_same⟩
theorem Rep2.app {α : Type} {R : α → VP} {as bs : List α} {us vs : List V} {H : Hp} (h1 : Rep2 R as us H) (h2 : Rep2 R bs vs H) : Rep2 R (as ++ bs) (us ++ vs) H := by
  refine ⟨by rw [List.length_append, List.length_append, h1.1, h2.1], fun i a v e1 e2 => ?_⟩
  by_cases hi : i < as.length
  · rw [List.getElem?_append_left hi] at e1
    rw [List.getElem?_append_left (by rw [h1.1]; exact hi)] at e2
    exact h1.2 i a v e1 e2
  · rw [List.getElem?_append_right (by omega)] at e1
    rw [List.getElem?_append_right (by rw [h1.1]; omega), h1.1] at e2
    exact h2.2 _ a v e1 e2
theorem Rep2.take {α : Type} {R : α → VP} {as : List α} {us : List V} {H : Hp} (h : Rep2 R as us H) (n : Nat) : Rep2 R (as.take n) (us.take n) H := by
  refine ⟨by rw [List.length_take, List.length_take, h.1], fun i a v e1 e2 => ?_⟩
  rw [List.getElem?_take] at e1 e2
  split at e1
  · rename_i hi
    rw [if_pos hi] at e2
    exact h.2 i a v e1 e2
  · cases e1
theorem Rep2.drop {α : Type} {R : α → VP} {as : List α} {us : List V} {H : Hp} (h : Rep2 R as us H) (n : Nat) : Rep2 R (as.drop n) (us.drop n) H := by
  refine ⟨by rw [List.length_drop, List.length_drop, h.1], fun i a v e1 e2 => ?_⟩
  rw [List.getElem?_drop] at e1 e2
  exact h.2 _ a v e1 e2
/-- tuples of told things joined -/
theorem R.catR {α : Type} {R : α → VP} [∀ a, Fz (R a)] {as bs : List α} {X : Cx} {U : UA} {σ : L2.St} {H : Hp} {a b : Expr} {pos : Pos} (hz : as.length + bs.length ≤ 1000) (ha : K62.R X U a σ H (TupR R as)) (hb : K62.R X U b σ H (TupR R bs)) : K62.R X U (.BinOp a .Add b pos) σ H (TupR R (as ++ bs)) :=
  K62.R.op op_catA ha hb fun x y H1 l1 j1 ⟨p, us, e1, h1, r1⟩ ⟨q, vs, e2, h2, r2⟩ Q k => by
    subst e1; subst e2
    have r := r1.app r2
    refine ⟨p, q, us, vs, rfl, rfl, .inl (.inl h1), .inl (.inl h2), Nat.le_trans (by rw [r1.1, r2.1]; exact hz) (by decide : 1000 ≤ sizeLine), fun e => ?_, fun _ e => ?_, fun _ _ t ht => k _ _ (Le.new j1 ht) ((Le.new j1 ht).jn j1) ⟨t, _, rfl, upd_same, r.tk (Le.new (U := U) j1 ht).tup⟩⟩
    · subst e; exact k _ H1 (Le.refl _) j1 ⟨q, _, rfl, h2, r⟩
    · subst e; exact k _ H1 (Le.refl _) j1 ⟨p, _, rfl, h1, by rw [List.append_nil] at r; exact r⟩
/-- append, the value shown once -/
theorem S.app {X : Cx} {U : UA} {σ : L2.St} {H : Hp} {o e : Expr} {L : Addr} {xs : List V} {P : VP} {apos cpos pos : Pos} {rest : List Stmt} {D : Ends} (hj : Jn U H) (hL : H L = some (.lst xs)) (nm : ¬ Mv U L) (hz : xs.length < 100000) (ho : R X U o σ H (Is (.ref L))) (he : R X U e σ H P) (kk : ∀ v H1, Le U H H1 → Jn U H1 → P v H1 → H1 L = some (.lst xs) → S X rest σ (upd H1 L (.lst (xs ++ [v]))) D)
    (h1 : starEach [e] X.env = (false, eval e X.env) :: starEach [] X.env := by rfl) (hbase : attributeBase o "append" X.env (eval o X.env) = eval o X.env := by rfl)
    (hfew : ((backTo cpos (starEach (e :: []) X.env)).all (fun x => !x.1) && (backToKw cpos (keywordEach [] X.env)).all (fun x => x.1.isSome) && decide ((e :: []).length + ([] : List Keyword).length + (if ([] : List Keyword).isEmpty then 0 else 1) < 30)) = true := by rfl)
    (hline : (apos.endLine == cpos.line) = true := by rfl) (hplain : (backTo cpos (starEach [] X.env)).any (·.1) = false := by rfl) (hs : swapsWith (.Call (.Attribute o "append" apos) [e] [] cpos) none pos.line X.env = pure false := by rfl) : S X (.Expr (.Call (.Attribute o "append" apos) [e] [] cpos) pos :: rest) σ H D :=
  S.append hj hL nm hz ho he kk h1 (pe_bm PySem.F.plainAttrs_list PySem.F.slot_list_append PySem.F.type_list_append mt_append ho (RA.last he h1) hbase hfew hline h1 hplain) hs
structure LpA where
  u : Addr
  c : Addr
  x : Nat × Nat
  d : Nat
  ss : List Stp
  H0 : Hp
abbrev LpA.U (x : LpA) : UA := some (x.u, x.c)
/-- what _law_parts answers -/
def LpR (x : LpA) : VP := fun v H => ∃ L lv lss, v = .ref L ∧ x.H0 L = none ∧ H L = some (.lst lv) ∧ Rep2 (TupR StR) lss lv H ∧ lss.length ≤ 10 ∧ (∀ tt ∈ lss, Sts x.x x.d tt) ∧ (Meets x.d x.ss ↔ ∃ tt ∈ lss, Meets x.d tt)
abbrev sp_parts : Sp := FSp (α := LpA) LpA.U (fun x vs H => ∃ v, vs = [.ref x.u, v] ∧ H = x.H0 ∧ TupR StR x.ss v H ∧ Sts x.x x.d x.ss) LpR
theorem low_given {pws : List (Nat × Int)} {n : Nat} (hn : n = pws.length) : Evl.given n (fun i => decide ((pws.getD i (0, 0)).1 < 8)) (fun i => V.int (pws.getD i (0, 0)).1) = (pws.filter fun pq => decide (pq.1 < 8)).map fun pq => V.int pq.1 := by
  subst hn
  unfold Evl.given
  have e : pws = (List.range pws.length).map fun i => pws.getD i (0, 0) := by
    apply List.ext_getElem?
    intro i
    by_cases hi : i < pws.length
    · rw [List.getElem?_map, List.getElem?_range hi]; simp [hi]
    · rw [List.getElem?_eq_none (by omega), List.getElem?_eq_none (by simp; omega)]
  conv => rhs; rw [e, List.filter_map, List.map_map]
  rfl
theorem ok_parts (F : DefAt K mg "_law_parts" s__law_parts ps__law_parts) (B : Bln mg) (C1 : Callee P w K mg base 1 "_law_powers" ps__law_powers sp_powers) (C2 : Callee P w K mg base 2 "_law_pick" ps__law_pick sp_pick) (C3 : Callee P w K mg base 1 "_law_draw" ps__law_draw sp_draw) : Callee P w K mg base 3 "_law_parts" ps__law_parts sp_parts := by
  refine callee_of F sc__law_parts (fun vs H Q E h => ?_) fun f cdv A outer s H vs Q E hr h => ?_
  · obtain ⟨a, _, ⟨v, rfl, _⟩, _⟩ := h; rfl
  obtain ⟨⟨u, c, x, d, ss, H0⟩, jn, ⟨v, rfl, hH0, ⟨p, us, rfl, hp, hrep⟩, O⟩, k⟩ := h
  have hH0 : H = H0 := hH0
  subst hH0
  have jn : Jn (some (u, c)) H := jn
  have hrep : Rep2 StR ss us H := hrep
  have O : Sts x d ss := O
  have un64 := hr.units
  have hul : us.length = ss.length := hrep.1
  have n1 := O.n1
  have n12 := O.n12
  have d3 := O.d3
  refine S.par (U := some (u, c)) rfl sc__law_parts.nd (i := 2) (j := 3) rfl rfl (by decide) rfl rfl jn (RA.two jn) ?_
  rintro us' H1 l1 j1 ⟨Lf, Lg, rfl, hne, hF0, hG0, nmF, nmG, hF1, hG1⟩
  refine ⟨_, _, rfl, ?_⟩
  show S _ _ [some (.ref u), some (.ref p), some (.ref Lf), some (.ref Lg), none, none, none, none, none, none, none, none] _ _
  -- what powers brings, those below 8
  have lowR : ∀ {σ : L2.St} {H' : Hp} {m : Int} {e t : Expr}, 0 < m → Jn (some (u, c)) H' → True := fun _ _ => trivial
  let Ok : Nat → Prop := fun g => ∃ s q, ss[g]? = some s ∧ s.m < T39 ∧ q ∈ P10 ∧ q < 8 ∧ (q : Int) ∣ s.m
  refine S.cut (Mid := fun σ' H' => ∃ good x4 x5 x6 x7, σ' = [some (.ref u), some (.ref p), some (.ref Lf), some (.ref Lg), x4, x5, x6, x7, none, none, none, none] ∧ Le (some (u, c)) H H' ∧ Jn (some (u, c)) H' ∧ H' Lf = some (.lst []) ∧ H' Lg = some (.lst (nvs good)) ∧ good.length ≤ 12 ∧ ∀ g ∈ good, Ok g) (S1.for (U := some (u, c)) (Src.enum (b1 := false) (by rfl) B.enumerate (R.var (i := 1) rfl (.inl rfl) rfl) (l1.tup _ _ hp) (fun z => Bool.noConfusion z)) j1 PassesOwn.never rfl fun J H2 l2 j2 wk => ⟨_, _, _, wk,
    fun i σ' H' => ∃ good x4 x5 x6 x7, σ' = [some (.ref u), some (.ref p), some (.ref Lf), some (.ref Lg), x4, x5, x6, x7, none, none, none, none] ∧ Le (some (u, c)) H H' ∧ Jn (some (u, c)) H' ∧ H' Lf = some (.lst []) ∧ H' Lg = some (.lst (nvs good)) ∧ good.length ≤ i ∧ ∀ g ∈ good, Ok g, ⟨[], none, none, none, none, rfl, l1.trans l2, j2, l2.keep _ _ nmF hF1, l2.keep _ _ nmG hG1, Nat.le_refl _, fun g hg => nomatch hg⟩, fun i σ' H' _ ⟨_, _, _, _, _, _, l, _⟩ => l.tup _ _ hp, ?_, ?_⟩) ?_
  · rintro i v σ' H' H'' hi ⟨good, x4, x5, x6, x7, rfl, lH, jH, hF, hG, hgl, hgo⟩ ⟨Te, y, rfl, hTe, rfl, hy⟩
    have ln := Le.new (U := some (u, c)) (o := .tup [.int i, y]) jH hTe
    have jn2 := ln.jn jH
    have lH2 := lH.trans ln
    obtain ⟨t, ht, q1, vc, rfl, hq1, pc, rfl, hpc⟩ := (hrep.tk lH2.tup).get hy
    have htm := List.mem_of_getElem? ht
    have VT := O.vs t htm
    have m0 := VT.pos
    have hi12 : i < 12 := by omega
    refine ⟨_, Tg.tup rfl upd_same (Tgs.cons (Tg.name sc__law_parts.nd (i := 4) rfl (.inl rfl)) (Tgs.cons (Tg.tup rfl hq1 (Tgs.cons (Tg.name sc__law_parts.nd (i := 5) rfl (.inr rfl)) (Tgs.cons (Tg.name sc__law_parts.nd (i := 6) rfl (.inl rfl)) (Tgs.cons (Tg.name sc__law_parts.nd (i := 7) rfl (.inl rfl)) Tgs.nil)))) Tgs.nil)), ?_⟩
    have hF2 := ln.keep _ _ nmF hF
    have hG2 := ln.keep _ _ nmG hG
    generalize upd H' Te (.tup [.int i, .ref q1]) = H2' at *
    show S _ _ [some (.ref u), some (.ref p), some (.ref Lf), some (.ref Lg), some (.int i), some (.int t.m), some (.ref pc), some (.int t.r), none, none, none, none] _ _
    refine S.one (S1.if (U := some (u, c)) (φ := fun b => b = true → Ok i) jn2 (RW.pt (RW.and (φ := fun b => b = true → t.m < T39) (ψ := fun b => b = true → ∃ q ∈ P10, q < 8 ∧ (q : Int) ∣ t.m) ((RT.lt (R.var (i := 5) rfl (.inr (.inl rfl)) rfl) (R.pow ⟨by decide, by decide, by decide⟩ R.int R.int)).imp fun b e h => by rw [e] at h; exact of_decide_eq_true h) (fun _ => RW.and1 (RT.neNil (n := 0) (φ := fun vs => ∃ pws, Pws t.m pws ∧ vs = (pws.filter fun pq => decide (pq.1 < 8)).map fun pq => V.int pq.1) (by decide) un64 (Pa := NLs (some (u, c)) H2' fun vs _ => ∃ pws, Pws t.m pws ∧ vs = (pws.filter fun pq => decide (pq.1 < 8)).map fun pq => V.int pq.1) (fun v H1 H2 _ l ⟨L, vs, e, h1, h2, h3, h4⟩ => ⟨L, vs, e, h1, h2, l.keep _ _ h2 h3, h4⟩) (R.lc (own := [("_law_p", 8), ("_law_q", 10)]) rfl sc__law_parts.nd (newLst1 (H1 := H2') (Q := fun vs H => ∃ pws, Rep2 PrR pws vs H ∧ Pws t.m pws) (R.imp (R.callP (P := fun v H => ∃ Lp vs pws, v = .ref Lp ∧ H2' Lp = none ∧ H Lp = some (.lst vs) ∧ Rep2 PrR pws vs H ∧ Pws t.m pws) C1 hr (by decide) (by rfl) (RA.last (R.var (i := 5) rfl (.inr (.inl rfl)) rfl)) ?_) ?_)) (blkOk_by (N := N__law_parts) (sc := defScope s__law_parts) (by decide +kernel))
      (fun J H3 l3 j3 ⟨Lp, vs, hLp, nmp, _, ⟨pws, hrp, W⟩, wk⟩ => LcK.stand (LcK.sel (fun i => decide ((pws.getD i (0, 0)).1 < 8)) (fun i => V.int (pws.getD i (0, 0)).1) wk (by rw [hrp.1]; have := W.len; omega) l3 jn2 (fun i H x H' => yAt_le) (fun H' l' => l'.keep _ _ nmp hLp) (fun i y Ha Hb hi l' j' yy => ?_)) (fun vs' H' _ e => ⟨pws, W, e.trans (low_given hrp.1)⟩))) (fun v H1 l ⟨L, vs, e, h1, h2, h3, pws, W, h4⟩ => ⟨L, vs, e, h3, ⟨pws, W, h4⟩, fun y hy => by
        rw [h4] at hy
        obtain ⟨pq, _, rfl⟩ := List.mem_map.mp hy
        exact Dtm.int⟩) (fun vs ⟨pws, W, e⟩ hb => ?_))) (fun _ h => Bool.noConfusion h) (fun h1 b h2 hb => ?_))) (fun e H4 l4 j4 => ?_) (fun e H4 l4 j4 => S.nil ⟨good, _, _, _, _, rfl, lH2.trans l4, j4, l4.keep _ _ nmF hF2, l4.keep _ _ nmG hG2, by omega, hgo⟩))
    · rintro vs H3 l3 j3 ⟨v, r, rfl, rfl, rfl⟩
      exact ⟨(t.m, H3), ⟨rfl, m0, rfl⟩, fun v H2 _ _ ⟨Lp, vs, pws, e, h0, h⟩ => ⟨Lp, vs, pws, e, l3.fresh jn2 h0, h⟩⟩
    · rintro v H3 l3 ⟨Lp, vs, pws, e, h0, hLp, hrp, W⟩
      exact ⟨Lp, vs, e, hLp, Le.nmv jn2 h0, h0, pws, hrp, W⟩
    · obtain ⟨rfl, hy⟩ := yy
      obtain ⟨pq, hpq, T, rfl, hT⟩ := (hrp.tk l'.tup).get hy
      have e1 : pws.getD i (0, 0) = pq := by rw [List.getD_eq_getElem?_getD, hpq]; rfl
      refine ⟨_, fun s Hb C cl fp => Tg.tup rfl hT (Tgs.cons (Tg.name sc__law_parts.nd (i := 8) rfl (.inl rfl)) (Tgs.cons (Tg.name sc__law_parts.nd (i := 10) rfl (.inl rfl)) Tgs.nil)), rfl, fun s Hb C cl fp => RTs.one ((RT.lt (R.var (i := 8) rfl (.inl rfl) rfl) R.int).imp fun k e => ?_), fun _ s Hb C cl fp => R.cast (R.var (i := 8) rfl (.inl rfl) rfl) (by rw [e1])⟩
      rw [e, e1]
      exact decide_eq_decide.mpr ⟨fun h => by omega, fun h => by omega⟩
    · subst e
      have hne : (pws.filter fun pq => decide (pq.1 < 8)) ≠ [] := fun z => by rw [z] at hb; cases hb
      obtain ⟨pq, hpq⟩ := List.exists_mem_of_ne_nil _ hne
      obtain ⟨a1, a2⟩ := List.mem_filter.mp hpq
      exact ⟨pq.1, (W.mem _ a1).1, of_decide_eq_true a2, Int.dvd_trans (W.dvd a1).1 (W.dvd a1).2⟩
    · obtain ⟨q, q1, q2, q3⟩ := h2 hb
      exact ⟨t, q, ht, h1 rfl, q1, q2, q3⟩
    · have hG4 := l4.keep _ _ nmG hG2
      refine S.append (U := some (u, c)) (P := Is (.int i)) j4 hG4 nmG (by rw [List.length_map]; omega) (R.var (i := 3) rfl (.inl rfl) rfl) (R.var (i := 4) rfl (.inl rfl) rfl) ?_ rfl (pe_bm PySem.F.plainAttrs_list PySem.F.slot_list_append PySem.F.type_list_append mt_append (R.var (i := 3) rfl (.inl rfl) rfl) (RA.last (R.var (i := 4) rfl (.inl rfl) rfl)))
      rintro v H5 l5 j5 rfl hG5
      refine S.nil ⟨good ++ [i], _, _, _, _, rfl, ((lH2.trans l4).trans l5).mut jn hG0, upd_jn nmG j5, by rw [upd_ne hne]; exact (l4.trans l5).keep _ _ nmF hF2, by rw [upd_same]; simp [nvs], by simp; omega, fun g hg => ?_⟩
      rcases List.mem_append.mp hg with h | h
      · exact hgo g h
      · have : g = i := by simpa using h
        subst this; exact e rfl
  · rintro σ' H' ⟨good, x4, x5, x6, x7, rfl, lH, jH, hF, hG, hgl, hgo⟩
    exact ⟨good, _, _, _, _, rfl, lH, jH, hF, hG, by omega, hgo⟩
  rintro σ' H2 ⟨good, x4, x5, x6, x7, rfl, l2, j2, hF2, hG2, hgl, hgo⟩
  -- no good ones
  refine S.if (U := some (u, c)) (φ := (· = (nvs good).isEmpty)) j2 (RT.eqNil (n := 0) (φ := (· = nvs good)) (by decide) un64 (Pa := Is (.ref Lg)) (fun _ _ _ _ _ h => h) (R.var (i := 3) rfl (.inl rfl) rfl) (fun v H3 l3 e => ⟨Lg, _, e, l3.keep _ _ nmG hG2, rfl, fun y hy => by
      obtain ⟨g, _, rfl⟩ := List.mem_map.mp hy
      exact Dtm.int⟩) (fun vs e => by rw [e])) (fun e H3 l3 j3 => ?_) (fun e H3 l3 j3 => S.nil ?_)
  · refine S.ret (U := some (u, c)) (P := NLs (some (u, c)) H3 fun vs _ => vs = [.ref p]) j3 (R.lstI j3 (RA.last (R.var (i := 1) rfl (.inl rfl) rfl)) (fun us H1 ⟨v, r, e, e1, e2⟩ => by cases e1; cases e2; exact e) (by show 1 ≤ 1000; decide)) ?_
    rintro v H4 l4 j4 ⟨L, _, rfl, h0, nm, hL, rfl⟩
    have l04 := (l2.trans l3).trans l4
    refine k _ H4 l04 j4 ⟨L, _, [ss], rfl, (l2.trans l3).fresh jn h0, hL, ⟨rfl, fun i a v e1 e2 => ?_⟩, by show 1 ≤ 10; decide, fun tt ht => ?_, ?_⟩
    · cases i with
      | zero =>
        cases e1; cases e2
        exact ⟨p, us, rfl, l04.tup _ _ hp, hrep.tk l04.tup⟩
      | succ i => simp at e1
    · have : tt = ss := by simpa using ht
      subst this; exact O
    · constructor
      · exact fun h => ⟨ss, by simp, h⟩
      · rintro ⟨tt, ht, h⟩
        have : tt = ss := by simpa using ht
        subst this; exact h
  have hgne : 0 < (nvs good).length := by
    cases hg : nvs good with
    | nil => rw [hg] at e; cases e
    | cons a b => simp
  have l03 := l2.trans l3
  -- at
  refine S.asg (U := some (u, c)) (P := Vq (· ∈ nvs good)) sc__law_parts.nd (i := 4) rfl (.inl rfl) j3 (R.callU C2 hr (by decide) (by rfl) (RA.cons (R.var (i := 0) rfl (.inr (.inl rfl)) rfl) (RA.last (R.var (i := 3) rfl (.inl rfl) rfl))) ?_) ?_
  · rintro us' H4 l4 _ ⟨v, r, rfl, rfl, v', r', rfl, rfl, rfl⟩
    exact ⟨⟨u, c, Lg, true, nvs good⟩, rfl, ⟨rfl, (l3.trans l4).keep _ _ nmG hG2, fun _ => nmG, hgne, by show (nvs good).length ≤ 1000; rw [List.length_map]; omega⟩, fun v H2 _ _ h => h⟩
  rintro v H4 l4 j4 hv
  obtain ⟨g, hgm, rfl⟩ := List.mem_map.mp (show v ∈ nvs good from hv)
  obtain ⟨t, q, ht, t39, q10, q8, qd⟩ := hgo g hgm
  have htm := List.mem_of_getElem? ht
  have VT := O.vs t htm
  have m0 := VT.pos
  have hgl' : g < ss.length := (List.getElem?_eq_some_iff.mp ht).1
  have l04 := l03.trans l4
  obtain ⟨y1, hy1, q1, vc, rfl, hq1, pc, rfl, hpc⟩ := (hrep.tk l04.tup).of ht
  show S _ _ [some (.ref u), some (.ref p), some (.ref Lf), some (.ref Lg), some (.int g), x5, x6, x7, none, none, none, none] _ _
  refine S.asgT (U := some (u, c)) (P := Is (.ref q1)) j4 (R.ixT (l04.tup _ _ hp) (atI_nat hy1) (R.var (i := 1) rfl (.inl rfl) rfl) (R.var (i := 4) rfl (.inl rfl) rfl)) ?_
  rintro v H5 l5 j5 rfl
  refine ⟨_, Tg.tup rfl (l5.tup _ _ hq1) (Tgs.cons (Tg.name sc__law_parts.nd (i := 5) rfl (.inr rfl)) (Tgs.cons (Tg.name sc__law_parts.nd (i := 6) rfl (.inl rfl)) (Tgs.cons (Tg.name sc__law_parts.nd (i := 7) rfl (.inl rfl)) Tgs.nil))), ?_⟩
  show S _ _ [some (.ref u), some (.ref p), some (.ref Lf), some (.ref Lg), some (.int g), some (.int t.m), some (.ref pc), some (.int t.r), none, none, none, none] _ _
  have l05 := l04.trans l5
  have hpc5 := l5.tup _ _ hpc
  -- p
  refine S.asg (U := some (u, c)) (P := In fun i => ∃ n : Nat, i = n ∧ n ∈ P10 ∧ n < 8 ∧ (n : Int) ∣ t.m) sc__law_parts.nd (i := 8) rfl (.inr rfl) j5 (R.callU C2 hr (by decide) (by rfl) (RA.cons (R.var (i := 0) rfl (.inr (.inl rfl)) rfl) (RA.last (P := NLs (some (u, c)) H5 fun vs _ => ∃ pws, Pws t.m pws ∧ vs = (pws.filter fun pq => decide (pq.1 < 8)).map fun pq => V.int pq.1) (R.lc (own := [("_law_p", 8), ("_law_q", 10)]) rfl sc__law_parts.nd (newLst1 (H1 := H5) (Q := fun vs H => ∃ pws, Rep2 PrR pws vs H ∧ Pws t.m pws) (R.imp (R.callP (P := fun v H => ∃ Lp vs pws, v = .ref Lp ∧ H5 Lp = none ∧ H Lp = some (.lst vs) ∧ Rep2 PrR pws vs H ∧ Pws t.m pws) C1 hr (by decide) (by rfl) (RA.last (R.var (i := 5) rfl (.inr (.inl rfl)) rfl)) ?_) ?_)) (blkOk_by (N := N__law_parts) (sc := defScope s__law_parts) (by decide +kernel))
      (fun J H3 l3 j3 ⟨Lp, vs, hLp, nmp, _, ⟨pws, hrp, W⟩, wk⟩ => LcK.stand (LcK.sel (fun i => decide ((pws.getD i (0, 0)).1 < 8)) (fun i => V.int (pws.getD i (0, 0)).1) wk (by rw [hrp.1]; have := W.len; omega) l3 j5 (fun i H x H' => yAt_le) (fun H' l' => l'.keep _ _ nmp hLp) (fun i y Ha Hb hi l' j' yy => ?_)) (fun vs' H' _ e => ⟨pws, W, e.trans (low_given hrp.1)⟩))))) ?_) ?_
  · rintro vs H3 l3 j3 ⟨v, r, rfl, rfl, rfl⟩
    exact ⟨(t.m, H3), ⟨rfl, m0, rfl⟩, fun v H2 _ _ ⟨Lp, vs, pws, e, h0, h⟩ => ⟨Lp, vs, pws, e, l3.fresh j5 h0, h⟩⟩
  · rintro v H3 l3 ⟨Lp, vs, pws, e, h0, hLp, hrp, W⟩
    exact ⟨Lp, vs, e, hLp, Le.nmv j5 h0, h0, pws, hrp, W⟩
  · obtain ⟨rfl, hy⟩ := yy
    obtain ⟨pq, hpq, T, rfl, hT⟩ := (hrp.tk l'.tup).get hy
    have e1 : pws.getD i (0, 0) = pq := by rw [List.getD_eq_getElem?_getD, hpq]; rfl
    refine ⟨_, fun s Hb C cl fp => Tg.tup rfl hT (Tgs.cons (Tg.name sc__law_parts.nd (i := 8) rfl (.inl rfl)) (Tgs.cons (Tg.name sc__law_parts.nd (i := 10) rfl (.inl rfl)) Tgs.nil)), rfl, fun s Hb C cl fp => RTs.one ((RT.lt (R.var (i := 8) rfl (.inl rfl) rfl) R.int).imp fun k e => ?_), fun _ s Hb C cl fp => R.cast (R.var (i := 8) rfl (.inl rfl) rfl) (by rw [e1])⟩
    rw [e, e1]
    exact decide_eq_decide.mpr ⟨fun h => by omega, fun h => by omega⟩
  · rintro us' H6 l6 _ ⟨v, r, rfl, rfl, v', r', rfl, ⟨L, _, rfl, h0, nm, hL, pws, W, rfl⟩, rfl⟩
    obtain ⟨q', hq'⟩ := W.all q q10 qd
    have hmem : (q, q') ∈ pws.filter fun pq => decide (pq.1 < 8) := List.mem_filter.mpr ⟨hq', decide_eq_true q8⟩
    have hpos : 0 < ((pws.filter fun pq => decide (pq.1 < 8)).map fun pq => V.int pq.1).length := by rw [List.length_map]; exact List.length_pos_of_mem hmem
    have hple : ((pws.filter fun pq => decide (pq.1 < 8)).map fun pq => V.int pq.1).length ≤ 10 := by rw [List.length_map]; exact Nat.le_trans (List.length_filter_le ..) W.len
    refine ⟨⟨u, c, L, true, _⟩, rfl, ⟨rfl, hL, fun _ => nm, hpos, Nat.le_trans hple (by decide)⟩, fun v H2 _ _ hv => ?_⟩
    obtain ⟨pq, hpq, rfl⟩ := List.mem_map.mp (show v ∈ (pws.filter fun pq => decide (pq.1 < 8)).map fun pq => V.int pq.1 from hv)
    obtain ⟨a1, a2⟩ := List.mem_filter.mp hpq
    exact ⟨_, rfl, pq.1, rfl, (W.mem _ a1).1, of_decide_eq_true a2, Int.dvd_trans (W.dvd a1).1 (W.dvd a1).2⟩
  rintro v H6 l6 j6 ⟨_, rfl, pp, rfl, pp10, pp8, ppd⟩
  have l06 := l05.trans l6
  have hpc6 := l6.tup _ _ hpc5
  have pp2 := P10_ge pp pp10
  show S _ _ [some (.ref u), some (.ref p), some (.ref Lf), some (.ref Lg), some (.int g), some (.int t.m), some (.ref pc), some (.int t.r), some (.int pp), none, none, none] _ _
  have hcl : t.c.length = d := VT.len
  -- c
  refine S.asg (U := some (u, c)) (P := fun v H => ∃ ks : List Int, TpI (addk t.c t.m ks) v H ∧ ks.length = d ∧ ∀ k ∈ ks, 0 ≤ k ∧ k < (pp : Int)) sc__law_parts.nd (i := 6) rfl (.inl rfl) j6 ((R.tupleN (U := some (u, c)) (H0 := H6) (Qs := fun vs H' => vs.length = (t.c.map V.int).length ∧ ∀ (i : Nat) (y : V), vs[i]? = some y → In (fun z => ∃ k, 0 ≤ k ∧ k < (pp : Int) ∧ z = t.c.getD i 0 + t.m * k) y H') (fun vs H1 H2 tk h => tk_map (Qi := fun i => In (fun z => ∃ k, 0 ≤ k ∧ k < (pp : Int) ∧ z = t.c.getD i 0 + t.m * k)) vs H1 H2 tk h) (by rfl) B.tuple (R.lc (own := [("_law_number", 11)]) rfl sc__law_parts.nd (Src.tup (R.var (i := 6) rfl (.inl rfl) rfl) hpc6) (blkOk_by (N := N__law_parts) (sc := defScope s__law_parts) (by decide +kernel))
      (fun J H7 l7 j7 wk => LcK.map (fun i => In (fun z => ∃ k, 0 ≤ k ∧ k < (pp : Int) ∧ z = t.c.getD i 0 + t.m * k)) wk (by rw [List.length_map]; omega) l7 j6 (fun i H x H' => yAt_le) (fun H' l' => (l7.trans l').tup _ _ hpc6) (fun i y Ha Hb hi l' j' yy => ?_)))).imp ?_) ?_
  · obtain ⟨rfl, hy⟩ := yy
    obtain ⟨rfl, hm⟩ := getV hy
    refine ⟨_, fun s Hb C cl fp => Tg.name sc__law_parts.nd (i := 11) rfl (.inl rfl), rfl, fun s Hb C cl fp => R.imIn (R.opIn0 (φ := (· = t.c.getD i 0)) (ψ := fun z => ∃ k, 0 ≤ k ∧ k < (pp : Int) ∧ z = t.m * k) op_add (R.toIn (R.var (i := 11) rfl (.inl rfl) rfl)) (R.imIn (R.opIn (C := CMul) (φ := (· = t.m)) (ψ := fun k => 0 ≤ k ∧ k < (pp : Int)) op_mul (fun i j _ h => .inr (by omega)) (R.toIn (R.var (i := 5) rfl (.inr (.inl rfl)) rfl)) (R.callU C3 hr (by decide) (by rfl) (RA.cons (R.var (i := 0) rfl (.inr (.inl rfl)) rfl) (RA.last (R.var (i := 8) rfl (.inr (.inl rfl)) rfl))) ?_)) (fun i ⟨a, b, e1, e2, e3⟩ => ⟨b, e2.1, e2.2, by rw [e3, e1]⟩))) (fun i ⟨a, b, e1, ⟨k, k0, k1, e2⟩, e3⟩ => ⟨k, k0, k1, by rw [e3, e1, e2]⟩)⟩
    rintro vs H3 l3 _ ⟨v, r, rfl, rfl, v', r', rfl, rfl, rfl⟩
    exact ⟨(u, c, (pp : Int)), rfl, ⟨rfl, by show (0 : Int) < (pp : Int); omega, Nat.lt_of_lt_of_le (show ((pp : Nat) : Int).natAbs < 2 ^ 10 by rw [Int.natAbs_natCast]; omega) (Nat.pow_le_pow_right (by decide) (by decide))⟩, fun v H2 _ _ h => h⟩
  · rintro v H7 l7 ⟨T, vs, e, hT, hz, hv⟩
    obtain ⟨l, rfl, _⟩ := ins_ix (φ := fun _ => True) (vs := vs) (H := H7) fun i y hy => by
      obtain ⟨z, e, _⟩ := hv i y hy
      exact ⟨z, e, trivial⟩
    have hll : l.length = t.c.length := by simpa using hz
    obtain ⟨ks, k1, k2, k3⟩ := ks_of m0 (p := (pp : Int)) hll fun i hi => by
      obtain ⟨z, e, kk, k0, k1, e2⟩ := hv i (.int (l.getD i 0)) (by rw [List.getElem?_map, List.getD_eq_getElem?_getD, List.getElem?_eq_getElem (by omega)]; rfl)
      cases e
      exact ⟨kk, k0, k1, e2⟩
    exact ⟨ks, ⟨T, e, k2 ▸ hT⟩, k1.trans hcl, k3⟩
  rintro v H7 l7 j7 ⟨ks, ⟨pc', rfl, hpc'⟩, ksl, ksr⟩
  have l07 := l06.trans l7
  show S _ _ [some (.ref u), some (.ref p), some (.ref Lf), some (.ref Lg), some (.int g), some (.int t.m), some (.ref pc'), some (.int t.r), some (.int pp), none, none, none] _ _
  have hsm : (t.m * (pp : Int)).natAbs < 2 ^ 134 := by
    have h1 : t.m * (pp : Int) ≤ T39 * 7 := by
      have h2 : t.m * (pp : Int) ≤ t.m * 7 := Int.mul_le_mul_of_nonneg_left (by omega) (by omega)
      have h3 : t.m * 7 ≤ T39 * 7 := Int.mul_le_mul_of_nonneg_right (by omega) (by decide)
      omega
    have h0 : 0 ≤ t.m * (pp : Int) := Int.mul_nonneg (by omega) (by omega)
    exact Nat.lt_of_le_of_lt (show _ ≤ (T39 * 7).natAbs by omega) (by decide)
  have pvs : ∀ e, e < pp → VS x.1 x.2 d (part t pp (addk t.c t.m ks) e) := fun e he => part_vs O.pq VT pp10 ppd ksl ksr hsm he
  have psts : ∀ e, e < pp → Sts x d (parts ss g t pp (addk t.c t.m ks) e) := fun e he => ⟨O.pq, O.d1, O.d3, by rw [parts_len hgl']; exact n1, by rw [parts_len hgl']; exact n12, fun s hs => by
    unfold parts at hs
    rcases List.mem_append.mp hs with h | h
    · rcases List.mem_append.mp h with h | h
      · exact O.vs s (List.mem_of_mem_take h)
      · have : s = part t pp (addk t.c t.m ks) e := by simpa using h
        subst this; exact pvs e he
    · exact O.vs s (List.mem_of_mem_drop h)⟩
  have hF7 := (((((l3.trans l4).trans l5).trans l6).trans l7)).keep _ _ nmF hF2
  refine S.cut (Mid := fun σ' H' => ∃ lv x9, σ' = [some (.ref u), some (.ref p), some (.ref Lf), some (.ref Lg), some (.int g), some (.int t.m), some (.ref pc'), some (.int t.r), some (.int pp), x9, none, none] ∧ Le (some (u, c)) H H' ∧ Jn (some (u, c)) H' ∧ H' Lf = some (.lst lv) ∧ Rep2 (TupR StR) ((List.range pp).map (parts ss g t pp (addk t.c t.m ks))) lv H') (S1.for (U := some (u, c)) (Src.range1 (n := pp) (by rfl) B.range (by omega) (R.var (i := 8) rfl (.inr (.inl rfl)) rfl)) j7 PassesOwn.never rfl fun J H8 l8 j8 wk => ⟨_, _, _, wk,
    fun i σ' H' => ∃ lv x9, σ' = [some (.ref u), some (.ref p), some (.ref Lf), some (.ref Lg), some (.int g), some (.int t.m), some (.ref pc'), some (.int t.r), some (.int pp), x9, none, none] ∧ Le (some (u, c)) H H' ∧ Jn (some (u, c)) H' ∧ Tk H7 H' ∧ H' Lf = some (.lst lv) ∧ Rep2 (TupR StR) ((List.range i).map (parts ss g t pp (addk t.c t.m ks))) lv H',
    ⟨[], none, rfl, l07.trans l8, j8, l8.tup, l8.keep _ _ nmF hF7, ⟨rfl, fun i a v e => nomatch e⟩⟩, fun _ _ _ _ _ => trivial, ?_, ?_⟩) ?_
  · rintro i v σ' H' H'' hi ⟨lv, x9, rfl, lH, jH, tk, hF, hrl⟩ ⟨rfl, rfl⟩
    rw [Int.toNat_natCast] at hi
    have hlv : lv.length = i := by have := hrl.1; simpa using this
    refine ⟨_, Tg.name sc__law_parts.nd (i := 9) rfl (.inl rfl), ?_⟩
    show S _ _ [some (.ref u), some (.ref p), some (.ref Lf), some (.ref Lg), some (.int g), some (.int t.m), some (.ref pc'), some (.int t.r), some (.int pp), some (.int i), none, none] _ _
    have hpcn := tk _ _ hpc'
    refine S.app (U := some (u, c)) (P := TupR StR (parts ss g t pp (addk t.c t.m ks) i)) jH hF nmF (by omega) (R.var (i := 2) rfl (.inl rfl) rfl) (R.catR (by rw [List.length_append, List.length_take, List.length_drop]; show _ + 1 + _ ≤ 1000; omega) (R.catR (as := ss.take g) (bs := [part t pp (addk t.c t.m ks) i]) (by rw [List.length_take]; show _ + 1 ≤ 1000; omega) ((R.slT (lH.tup _ _ hp) (R.var (i := 1) rfl (.inl rfl) rfl) RO.none (RO.some (R.var (i := 4) rfl (.inl rfl) rfl))).imp ?_) (R.tup (RA.last (P := StR (part t pp (addk t.c t.m ks) i)) ((R.tupI (vs := [.int (t.m * (pp : Int)), .ref pc', .int (t.r + (i : Int) * t.m)]) (RA.cons (R.mulS (.inr (by omega)) (R.var (i := 5) rfl (.inr (.inl rfl)) rfl) (R.var (i := 8) rfl (.inr (.inl rfl)) rfl)) (RA.cons (R.var (i := 6) rfl (.inl rfl) rfl) (RA.last (R.add (R.var (i := 7) rfl (.inl rfl) rfl) (R.mulS (.inl (by omega)) (R.var (i := 9) rfl (.inl rfl) rfl) (R.var (i := 5) rfl (.inr (.inl rfl)) rfl)))))) ?_ (by show 3 ≤ 1000; decide)).imp ?_)) ?_ ?_)) ((R.slT (l := some ((g + 1 : Nat) : Int)) (lH.tup _ _ hp) (R.var (i := 1) rfl (.inl rfl) rfl) (RO.some (R.cast (R.add (R.var (i := 4) rfl (.inl rfl) rfl) R.int) (by rw [Int.natCast_add]; rfl))) RO.none).imp ?_)) ?_
    · rintro v H9 l9 ⟨p9, e9, h9⟩
      rw [cut_hi] at h9
      exact ⟨p9, _, e9, h9, (hrep.tk (lH.trans l9).tup).take g⟩
    · rintro us' H2 ⟨v, r, rfl, rfl, v, r, rfl, rfl, v', r', rfl, rfl, rfl⟩; rfl
    · rintro v H9 l9 ⟨T9, e9, h9⟩
      exact ⟨T9, .ref pc', e9, h9, pc', rfl, l9.tup _ _ hpcn⟩
    · rintro us' H9 ⟨v, r, rfl, _, rfl⟩; show 1 ≤ sizeLine; decide
    · rintro us' T9 H9 l9 j9 ⟨v, r, rfl, hv, rfl⟩ hn
      refine ⟨T9, _, rfl, upd_same, rfl, fun i' a w e1 e2 => ?_⟩
      cases i' with
      | zero => cases e1; cases e2; exact Fz.le (Le.new j9 hn) hv
      | succ i' => simp at e1
    · rintro v H9 l9 ⟨p9, e9, h9⟩
      rw [cut_lo] at h9
      exact ⟨p9, _, e9, h9, (hrep.tk (lH.trans l9).tup).drop (g + 1)⟩
    · rintro v H9 l9 j9 hv hF9
      have ltk : Tk H'' (upd H9 Lf (.lst (lv ++ [v]))) := l9.tup.trans (upd_tk hF9)
      refine S.nil ⟨lv ++ [v], _, rfl, (lH.trans l9).mut jn hF0, upd_jn nmF j9, tk.trans ltk, upd_same, ?_⟩
      rw [List.range_succ, List.map_append]
      refine (hrl.tk ltk).app ⟨rfl, fun i' a w e1 e2 => ?_⟩
      cases i' with
      | zero => cases e1; cases e2; exact Fz.mv _ _ _ (upd_tk hF9) hv
      | succ i' => simp at e1
  · rintro σ' H' ⟨lv, x9, rfl, lH, jH, tk, hF, hrl⟩
    rw [Int.toNat_natCast] at hrl
    exact ⟨lv, x9, rfl, lH, jH, hF, hrl⟩
  · rintro σ' H' ⟨lv, x9, rfl, lH, jH, hF, hrl⟩
    refine S.ret (U := some (u, c)) jH (R.var (i := 2) rfl (.inl rfl) rfl) fun v H9 l9 j9 e => k v H9 (lH.trans l9) j9 ⟨Lf, lv, _, e, hF0, l9.keep _ _ nmF hF, hrl.tk l9.tup, by simp; omega, fun tt ht => ?_, ?_⟩
    · obtain ⟨e', he', rfl⟩ := List.mem_map.mp ht
      exact psts e' (List.mem_range.mp he')
    · show Meets d ss ↔ _
      rw [parts_meet ht (show 0 < pp by omega) m0 (hcl.trans ksl.symm)]
      constructor
      · rintro ⟨e', he', h⟩
        exact ⟨_, List.mem_map.mpr ⟨e', List.mem_range.mpr he', rfl⟩, h⟩
      · rintro ⟨tt, htt, h⟩
        obtain ⟨e', he', rfl⟩ := List.mem_map.mp htt
        exact ⟨e', List.mem_range.mp he', h⟩
end K62
end
section
set_option Elab.async false
set_option linter.all false
set_option maxRecDepth 100000
set_option maxHeartbeats 4000000
namespace K62
open PySem PySem.Spec PyProof.Rows L2
section
variable {X : Cx} {U : UA} {σ : L2.St} {H : Hp} {e a b c : Expr} {es : List Expr} {P Pa Pb : VP} {pos q p2 : Pos} {rest : List Stmt} {D : Ends}
/-! ### repr of a truth value -/
def bTxt (k : Bool) : Str := if k then "True" else "False"
theorem bTxt_eq (j k : Bool) : (!decide (V.str (bTxt j) = V.str (bTxt k))) = (j != k) := by cases j <;> cases k <;> decide
theorem call_repr_bool : CallR X (.builtin "repr") (fun xs H Q => ∃ k, xs = [.bl k] ∧ Q (.str (bTxt k)) H) := by
  intro pins s σ H xs us Q I r h
  obtain ⟨k, rfl, q⟩ := h
  obtain ⟨u, rfl, r1⟩ := vals1 r
  cases r1
  refine PySem.P.repr_of_bool ?_
  cases k
  · exact ⟨.str (bTxt false), H, I.tok _, ⟨_, rfl⟩, q⟩
  · exact ⟨.str (bTxt true), H, I.tok _, ⟨_, rfl⟩, q⟩
theorem R.repr {ψ : Bool → Prop} (hg : Gl X "repr") (hm : X.mg "repr" = none) (ha : R X U a σ H (Vq fun v => ∃ b, v = .bl b ∧ ψ b)) (hb : bootBuiltins "repr" = some (.builtin "repr") := by decide +kernel) (h1 : starEach [a] X.env = (false, eval a X.env) :: starEach [] X.env := by rfl) (h2 : (backTo pos (starEach [] X.env)).any (·.1) = false := by rfl) :
    R X U (.Call (.Name "repr" q) [a] [] pos) σ H (Vq fun v => ∃ b, v = .str (bTxt b) ∧ ψ b) :=
  R.callB call_repr_bool hg hm hb (RA.last ha h1) (fun vs H1 l j ⟨v, r, e, ⟨k, e1, hk⟩, e2⟩ Q kk => by cases e2; subst e1; exact ⟨k, e, kk _ H1 (Le.refl _) j ⟨k, rfl, hk⟩⟩) (by decide) (by decide) h1 h2
theorem R.reprI {k : Bool} (hg : Gl X "repr") (hm : X.mg "repr" = none) (ha : R X U a σ H (Is (.bl k))) (hb : bootBuiltins "repr" = some (.builtin "repr") := by decide +kernel) (h1 : starEach [a] X.env = (false, eval a X.env) :: starEach [] X.env := by rfl) (h2 : (backTo pos (starEach [] X.env)).any (·.1) = false := by rfl) :
    R X U (.Call (.Name "repr" q) [a] [] pos) σ H (Is (.str (bTxt k))) :=
  (R.repr (ψ := (· = k)) hg hm (ha.imp fun v H1 _ e => ⟨k, e, rfl⟩) hb h1 h2).imp fun v H1 _ ⟨b, e, h⟩ => by rw [e, h]; rfl
/-- repr(..) != repr(..) -/
theorem RT.reprNe {ψ : Bool → Prop} {k : Bool} {φ : Bool → Prop} (ha : R X U a σ H (Vq fun v => ∃ b, v = .str (bTxt b) ∧ ψ b)) (hb : R X U b σ H (Is (.str (bTxt k)))) (w : ∀ j, ψ j → φ (j != k)) : RT X U (.Compare a [.NotEq] [b] pos) σ H φ :=
  RT.cmp op_ne (nomark _) ha hb fun x y H1 l jn ⟨j, e, hj⟩ hy Q q => by
    cases hy; subst e
    exact ⟨rfl, q _ H1 (Le.refl _) jn ⟨_, rfl, by rw [bTxt_eq]; exact w j hj⟩⟩
/-! ### is not True -/
theorem RT.notTrue {k : Bool} {p' : Pos} {kk} (ha : R X U a σ H (Is (.bl k))) : RT X U (.Compare a [.IsNot] [.Constant (.bool true) kk p'] pos) σ H (· = !k) :=
  RT.cmp op_notBl (nomark _) ha R.bl fun x y H1 l j hx hy Q q => by
    cases hx; cases hy
    exact ⟨k, true, rfl, rfl, q _ H1 (Le.refl _) j ⟨_, rfl, by cases k <;> rfl⟩⟩
/-! ### int('9' * 99) -/
theorem op_nines : OpR X (binaryOp .Mult) (fun x y H Q => x = .str "9" ∧ y = .int 99 ∧ Q (.str ⟨(List.replicate 99 (Str.ofString "9").cps).foldl (· ++ ·) #[]⟩) H) := by
  rintro pins s σ H x y v u Q I rx ry ⟨rfl, rfl, q⟩
  obtain ⟨t, rfl⟩ := rx
  obtain ⟨t', rfl⟩ := ry
  exact PySem.P.mul_str (by decide) (fun _ _ => by decide) (fun _ _ => by decide) ⟨by decide, ⟨.str _, H, I.tok _, ⟨_, rfl⟩, q⟩⟩
theorem R.nines {p1 p2 p3 : Pos} {k1 k2} (hg : Gl X "int") (hm : X.mg "int" = none) (h1 : starEach [(.BinOp (.Constant (.str "9") k1 p1) .Mult (.Constant (.int 99) k2 p2) p3 : Expr)] X.env = (false, eval (.BinOp (.Constant (.str "9") k1 p1) .Mult (.Constant (.int 99) k2 p2) p3) X.env) :: starEach [] X.env := by rfl) (h2 : (backTo pos (starEach [] X.env)).any (·.1) = false := by rfl) :
    R X U (.Call (.Name "int" q) [.BinOp (.Constant (.str "9") k1 p1) .Mult (.Constant (.int 99) k2 p2) p3] [] pos) σ H (In fun _ => True) :=
  R.callTy call_int_str hg hm PyProof.Rows.boot_int (RA.last (P := Is (.str ⟨(List.replicate 99 (Str.ofString "9").cps).foldl (· ++ ·) #[]⟩)) (R.op op_nines (Pa := Is (.str "9")) (Pb := Is (.int 99)) R.str R.int fun x y H1 l j e1 e2 Q k => by cases e1; cases e2; exact ⟨rfl, rfl, k _ H1 (Le.refl _) j rfl⟩) h1) (fun vs H1 l j ⟨v, r, e, e1, e2⟩ Q k => by
    cases e1; cases e2
    exact ⟨_, 10 ^ 99 - 1, e, by decide +kernel, by decide, k _ H1 (Le.refl _) j ⟨_, rfl, trivial⟩⟩) (by decide) (by decide) h1 h2
end
end K62
end
section
set_option Elab.async false
set_option linter.all false
set_option maxRecDepth 100000
set_option maxHeartbeats 4000000
/-! t[::-1] of a tuple -/
namespace HT
open PySem PySem.Spec PyProof.Rows
section
variable {prog : Program} {w : World} {A : Around} {E : Value → Shared → Prop} {s : Shared}
theorem k62_adjust (n : Nat) : Builtin.Slice.sliceAdjust none none (-1) (n : Int) = ((n : Int) - 1, -1) := by
  unfold Builtin.Slice.sliceAdjust
  simp
theorem k62_places (n : Nat) : Builtin.Slice.slicePlaces ((n : Int) - 1) (-1) (-1) = n := by
  unfold Builtin.Slice.slicePlaces
  have h1 : ¬ (-1 : Int) > 0 := by decide
  simp only [h1, if_false]
  have e : (- (-1 : Int)) = 1 := by decide
  rw [e]
  simp only [Int.ediv_one]
  split <;> omega
theorem k62_sliceApplied {sl : Addr} {vl vu vk : Value} {n : Nat} {Q : Int × Int × Nat → Shared → Prop} (hs : s.heap.IsSliceOf sl vl vu vk) (pl : IsPart vl none) (pu : IsPart vu none) (pk : IsPart vk (some (-1)))
    (h : Q ((n : Int) - 1, -1, n) s) : wpAny (model prog w) A (Builtin.Slice.sliceApplied (.ref sl) (pure (n : Int))) Q E s := by
  obtain ⟨os, hos, hcs, hds⟩ := id hs
  unfold Builtin.Slice.sliceApplied Builtin.Slice.sliceFields
  refine wpAny_bind (wpAny_bind (wpAny_field hos hds (x := vl) rfl (wpAny_bind (wpAny_field hos hds (x := vu) rfl (wpAny_bind (wpAny_field hos hds (x := vk) rfl (wpAny_pure ?_)))))))
  refine wpAny_bind (slicePart_ pk ?_)
  show wpAny _ _ (if ((-1 : Int) == 0) = true then _ else _) _ _ s
  rw [if_neg (by decide)]
  refine wpAny_bind (slicePart_ pl (wpAny_bind (slicePart_ pu (wpAny_bind (wpAny_pure ?_)))))
  show wpAny _ _ (match Builtin.Slice.sliceAdjust none none (-1) (n : Int) with | (lo, hi) => pure (lo, (-1 : Int), Builtin.Slice.slicePlaces lo hi (-1))) _ _ s
  rw [k62_adjust n]
  show wpAny _ _ (pure ((n : Int) - 1, (-1 : Int), Builtin.Slice.slicePlaces ((n : Int) - 1) (-1) (-1))) _ _ s
  rw [k62_places]
  exact wpAny_pure h
theorem k62_fm {α β : Type} {f : α → Option β} {g : α → β} : ∀ {l : List α}, (∀ m ∈ l, f m = some (g m)) → l.filterMap f = l.map g
  | [], _ => rfl
  | a :: l, h => by rw [List.filterMap_cons, h a (List.mem_cons_self ..), List.map_cons, k62_fm fun m hm => h m (List.mem_cons_of_mem _ hm)]
theorem k62_pick (xs : Array Value) : ((List.range xs.size).filterMap fun (m : Nat) => xs[((xs.size : Int) - 1 + (m : Int) * (-1)).toNat]?).toArray = xs.toList.reverse.toArray := by
  congr 1
  apply List.ext_getElem?
  intro i
  have e : (List.range xs.size).filterMap (fun (m : Nat) => xs[((xs.size : Int) - 1 + (m : Int) * (-1)).toNat]?) = (List.range xs.size).map fun m => xs.getD (xs.size - 1 - m) .none := by
    refine k62_fm fun m hm => ?_
    have hm := List.mem_range.mp hm
    have e1 : ((xs.size : Int) - 1 + (m : Int) * (-1)).toNat = xs.size - 1 - m := by omega
    have h2 : xs.size - 1 - m < xs.size := by omega
    rw [e1]
    simp [h2]
  rw [e]
  by_cases hi : i < xs.size
  · rw [List.getElem?_map, List.getElem?_range hi, List.getElem?_reverse (by simpa using hi)]
    have h2 : xs.size - 1 - i < xs.size := by omega
    simp [h2]
  · rw [List.getElem?_eq_none (by simp; omega), List.getElem?_eq_none (by simp; omega)]
theorem k62_getItem_rev {t sl : Addr} {items : Array Value} {vl vu vk : Value} {Q : Value → Shared → Prop} (ht : IsTup s.heap t items) (hs : s.heap.IsSliceOf sl vl vu vk) (pl : IsPart vl none) (pu : IsPart vu none) (pk : IsPart vk (some (-1)))
    (h : Q (.ref s.heap.objs.size) { s with heap := s.heap.push { cls := .type "tuple", data := .seq items.toList.reverse.toArray } })
    (hsz : items.size ≤ sizeLine) : wpAny (model prog w) A (getItem (.ref t) (.ref sl)) Q E s := by
  have htake : sizeOk (.seq items.toList.reverse.toArray) := by
    show items.toList.reverse.toArray.size ≤ sizeLine
    rw [List.size_toArray, List.length_reverse, Array.length_toList]
    exact hsz
  obtain ⟨os, hos, hcs, hds⟩ := id hs
  have hTs : s.TypeIs (.ref sl) "slice" := ⟨os, hos, hcs⟩
  unfold getItem
  try with_reducible refine wpAny_holding ?_
  first | refine wpAny_bind (wpAny_pure ?_) | skip
  refine wpAny_bind (wpAny_sequenceKey ht.typeIs (by decide) ?_)
  refine wpAny_bind (wpAny_callSpecial?_slot (name := Str.ofString "__getitem__") ht.typeIs PyProof.Rows.slot_tuple_getitem
    (wpAny_call_entry PyProof.Rows.slot_tuple_getitem ht.typeIs entry_tuple_getitem ?_ (args_tuple_getitem _ _)))
  show wpAny _ _ (Builtin.Tuple.tupleItemsOf (.ref t) >>= _) _ _ s
  refine wpAny_bind (tupleItemsOf_ ht ?_)
  refine wpAny_bind (wpAny_typeOf hTs ?_)
  rw [if_pos (by decide)]
  refine wpAny_bind (k62_sliceApplied hs pl pu pk ?_)
  have hno : ¬ ((((items.size : Int) - 1) == 0 && (-1 : Int) == 1 && items.size == items.size) = true) := by
    intro q
    rw [Bool.and_eq_true, Bool.and_eq_true] at q
    exact absurd q.1.2 (by decide)
  show wpAny _ _ (if (((items.size : Int) - 1) == 0 && (-1 : Int) == 1 && items.size == items.size) = true then _ else _) _ _ s
  rw [if_neg hno, k62_pick]
  first
    | exact wpAny_bind (m := Builtin.Tuple.tupleExact _) (wpAny_newObj_type (wpAny_pure ⟨_, rfl, wpAny_pure h⟩) htake)
    | exact wpAny_bind (m := Builtin.Tuple.tupleExact _) (wpAny_newObj_type (wpAny_bind (wpAny_pure (wpAny_pure ⟨_, rfl, wpAny_pure h⟩))) htake)
    | exact wpAny_bind (wpAny_bind (m := Builtin.Tuple.tupleExact _) (wpAny_newObj_type (wpAny_pure (wpAny_pure ⟨_, rfl, wpAny_pure h⟩)) htake))
    | exact wpAny_bind (wpAny_bind (m := Builtin.Tuple.tupleExact _) (wpAny_newObj_type (wpAny_pure ⟨_, rfl, wpAny_pure h⟩) htake))
end
end HT
namespace L2
open PySem PySem.Spec PyProof.Rows
def tRevT62 (K : PySem.W.Frag) (te : TE) : TE := fun σ H Q => te σ H fun x H1 => ∃ a xs, x = .ref a ∧ SqT K H1 a xs ∧ ∀ p, H1 p = none → Q (.ref p) (upd H1 p (.tup xs.reverse))
theorem pe_revT62 {X : Cx} {te : TE} {e : Expr} {k : Nat} {p1 p2 p3 pos : Pos} (he : PE X e te) : PE X (.Subscript e (.Slice none none (some (.UnaryOp .USub (.Constant (.int 1) k p1) p2)) p3) pos) (tRevT62 X.K te) := by
  refine ⟨fun pins s σ H Q I h => ?_⟩
  refine Subscript_ (thn (he.run pins s σ H _ I h) fun v s1 ⟨x, H1, I1, r1, q1⟩ => ?_)
  obtain ⟨a, xs, ex, hx, q⟩ := q1
  subst ex
  cases r1
  have hst : PO X (some (.UnaryOp .USub (.Constant (.int 1) k p1) p2)) (tPart (tUn (rU fun i => .int (-i)) (tC (.int 1)))) := po_some (pe_un un_neg pe_int)
  refine wpAny_Slice (thn (po_none.run pins s1 σ H1 (fun o H2 => o = none ∧ H2 = H1) I1 ⟨rfl, rfl⟩) fun vl s2 ⟨l, H2, I2, pl, el, e2⟩ => ?_)
  subst el e2
  refine thn (po_none.run pins s2 σ H2 (fun o H3 => o = none ∧ H3 = H2) I2 ⟨rfl, rfl⟩) fun vu s3 ⟨u, H3, I3, pu, eu, e3⟩ => ?_
  subst eu e3
  refine thn (hst.run pins s3 σ H3 (fun o H4 => o = some (-1) ∧ H4 = H3) I3 ⟨1, rfl, -1, rfl, rfl, rfl⟩) fun vs s4 ⟨o, H4, I4, ps, eo, e4⟩ => ?_
  subst eo e4
  have I5 : Inv X pins σ H4 { s4 with heap := s4.heap.push { cls := .type "slice", data := .fields #[vl, vu, vs] } } := I4.kept (t' := s4.toks) fun b ob q => Heap.get?_push_of_some _ q
  obtain ⟨its, r, ht, hz⟩ := I5.tuple hx
  have hlen := r.length
  show wpAny (model X.prog X.w) X.A (subscriptTail e (.Slice none none (some (.UnaryOp .USub (.Constant (.int 1) k p1) p2)) p3) (.ref a) (.ref s4.heap.objs.size)) (EP X pins σ Q) X.xe { s4 with heap := s4.heap.push { cls := .type "slice", data := .fields #[vl, vu, vs] } }
  refine tail_any (ops := [.ref a, .ref s4.heap.objs.size]) ht.typeIs PyProof.Rows.slot_tuple_getitem.lookup ?_ (by with_unfolding_all rfl)
  refine HT.k62_getItem_rev ht (Heap.IsSliceOf.new _ vl vu vs) pl pu ps ?_ (by rw [List.size_toArray]; omega)
  refine ⟨.ref _, _, I5.laid (t' := s4.toks) (o := .tup xs.reverse) (fun b ob q => Heap.get?_push_of_some _ q) (Nat.le_refl _) ?_, rfl, q _ (I5.hok.fresh (Nat.le_refl _))⟩
  exact ⟨by rw [List.length_reverse]; exact hz, _, r.reverse, IsTup.new _ _⟩
end L2
namespace K62
open PySem PySem.Spec PyProof.Rows L2
theorem R.revT {X : Cx} {U : UA} {σ : L2.St} {H : Hp} {a : Expr} {k : Nat} {p1 p2 p3 pos : Pos} {p : Addr} {xs : List V} (ht : H p = some (.tup xs)) (ha : R X U a σ H (Is (.ref p))) : R X U (.Subscript a (.Slice none none (some (.UnaryOp .USub (.Constant (.int 1) k p1) p2)) p3) pos) σ H (NT xs.reverse) :=
  R.of (pe_revT62 ha) fun H1 l j Q q => ⟨rfl, l, j, fun v H2 l2 j2 e => ⟨p, xs, e, .inl (.inl ((l.trans l2).tup _ _ ht)), fun p' hp' => q _ _ (l2.trans (Le.new j2 hp')) ((Le.new j2 hp').jn j2) ⟨p', rfl, upd_same⟩⟩⟩
/-! ### a call with one keyword alone -/
structure KwAlone (K : PySem.W.Frag) (fd : FuncData) (m : Str) : Prop where
  to : ∀ (s : Shared) (u : Value), K.In s.heap → BindsTo s fd ⟨[], [(m, u)]⟩ [(m, u)]
theorem R.callKw {X : Cx} {U : UA} {σ : L2.St} {H : Hp} {e : Expr} {P P1 : VP} {pos p kp : Pos} {CX : CXT} {k j : Nat} {f : Addr} {fd : FuncData} {x m : Str} {sp : Sp} (F : FnOk X.prog X.w X.K X.mg X.base CX0 k f fd [m] sp) (hm : X.mg x = some (.ref f)) (hk : PySem.W.keepIn X.K (.ref f) = true) (hb : KwAlone X.K fd m) (hr : Room k X.A) (hg : Gl X x)
    (ha : R X U e σ H P1) (w : ∀ v H1, Le U H H1 → Jn U H1 → P1 v H1 → K1 U P H1 (fun Q => sp [v] H1 Q E0)) (hdb : (x == ("__debug__" : Str)) = false := by decide) : R X U (.Call (.Name x p) [] [⟨some m, e, kp⟩] pos) σ H P := by
  refine R.of (t := fun σ' H1 Q => tR U σ H P1 σ' H1 fun v H2 => sp [v] H2 Q E0) ⟨fun pins s σ' H' Q I h => ?_⟩ fun H1 l j Q q => ⟨rfl, l, j, fun v H2 l2 j2 pv => w v H2 (l.trans l2) j2 pv Q fun v' H3 l3 j3 pv' => q v' H3 (l2.trans l3) j3 pv'⟩
  refine wpAny_Call_Name_kw (ld_glob I hg hm ?_ hdb)
  refine PySem.W.callWith_KW0 (h₀ := X.base) I.ok.mod.kin hk rfl ?_
  refine thn ((pk_cons ha pk_nil).run pos pins s σ' H' (fun zs H2 => ∃ v, zs = [v] ∧ sp [v] H2 Q E0) I (by
    obtain ⟨e1, l, jn, q⟩ := h
    exact ⟨e1, l, jn, fun v H2 l2 j2 p => ⟨v, rfl, q v H2 l2 j2 p⟩⟩)) fun ws s2 ⟨zs, H2, I2, rz, v, ez, q2⟩ => ⟨I2.kIn, ?_⟩
  subst ez
  cases rz with
  | cons r rr =>
    cases rr
    refine wpAny_call (codeAny_mono (F.run X.A X.stack s2 H2 ⟨[], [(m, _)]⟩ [_] [v] Q E0 hr I2.env0 (hb.to s2 _ I2.kIn) (.cons r .nil) q2) fun r s' hq => ?_)
    cases r with
    | error e => exact pass0 pins σ' H2 s2 e s' I2 hq
    | ok fl =>
      cases fl with
      | ret u => exact I2.after hq
      | next => exact False.elim hq
      | brk => exact False.elim hq
      | cont => exact False.elim hq
end K62
end
section
set_option Elab.async false
set_option linter.all false
set_option maxRecDepth 100000
set_option maxHeartbeats 4000000
set_option exponentiation.threshold 100
namespace K62
open PySem PySem.Spec PyProof.Rows L2
variable {P : Program} {w : World} {K : PySem.W.Frag} {mg : Str → Option Value} {base : Heap}
theorem SqL.le {U : UA} {H H' : Hp} {a : Addr} {xs : List V} (h : SqL K H a xs) (nm : ¬ Mv U a) (l : Le U H H') : SqL K H' a xs := by
  rcases h with (h | ⟨o, h⟩) | h
  · exact .inl (.inl (l.keep _ _ nm h))
  · exact .inl (.inr ⟨o, l.keep _ _ nm h⟩)
  · exact .inr h
theorem R.slK {X : Cx} {U : UA} {σ : L2.St} {H : Hp} {a : Expr} {pos p2 : Pos} {lo hi : Option Expr} {l h : Option Int} {p : Addr} {xs : List V} (hj : Jn U H) (ht : SqL X.K H p xs) (nm : ¬ Mv U p) (ha : R X U a σ H (Is (.ref p))) (hl : RO X U lo σ H l) (hh : RO X U hi σ H h) : R X U (.Subscript a (.Slice lo hi .none p2) pos) σ H (NLs U H fun vs _ => vs = cutV xs l h) :=
  R.of (pe_slice sl_list ha hl hh) fun H1 l1 j1 Q k => ⟨rfl, l1, j1, fun v H2 l2 j2 e => ⟨rfl, l1.trans l2, j2, fun H3 l3 j3 => ⟨rfl, (l1.trans l2).trans l3, j3, fun H4 l4 j4 => by
    cases e
    have l04 := ((l1.trans l2).trans l3).trans l4
    exact ⟨p, xs, rfl, SqL.le ht nm l04, fun p' hp' => k _ _ (((l2.trans l3).trans l4).trans (Le.new j4 hp')) ((Le.new j4 hp').jn j4) ⟨p', _, rfl, l04.fresh hj hp', Le.nmv j4 hp', upd_same, rfl⟩⟩⟩⟩⟩
/-- the urn as it is made -/
theorem R.urnD {X : Cx} {σ : L2.St} {H : Hp} {a b : Expr} {L : Addr} {ns : List Int} {m : Int} {k1 k2 k3 k4 k5 : Nat} {p1 p2 p3 p4 p5 p6 p7 p8 pos : Pos} (hL : H L = some (.lst (ns.map V.int))) (hz : ns.length ≤ 63) (m0 : 0 ≤ m) (m1 : m < 2147483563) (ha : R X none a σ H (Is (.ref L))) (hb : R X none b σ H (Is (.int m))) :
    R X none (.Dict [some (.Constant (.str "cells") k1 p1), some (.Constant (.str "mixed") k2 p2), some (.Constant (.str "turn") k3 p3)] [.Subscript a (.Slice none none (some (.UnaryOp .USub (.Constant (.int 1) k4 p4) p5)) p6) p7, b, .Constant (.int 0) k5 p8] pos) σ H (fun v H => ∃ u c, v = .ref u ∧ Urn u c H) :=
  R.of (pe_disp (pps_cons (R.str (U := none) (σ := σ) (H := H)) (pe_revL ha) (pps_cons (R.str (U := none) (σ := σ) (H := H)) hb (pps_cons (R.str (U := none) (σ := σ) (H := H)) (R.int (U := none) (σ := σ) (H := H)) pps_nil))) rfl rfl (fun z => nomatch z) (by show 3 ≤ 15; decide)) fun H1 l1 _ Q q p hp => by
    have l2 := Le.new (U := none) (H := H1) (o := .dK []) trivial hp
    refine ⟨rfl, l1.trans l2, trivial, fun v H3 l3 _ e3 => ⟨rfl, (l1.trans l2).trans l3, trivial, fun v4 H4 l4 _ e4 => ?_⟩⟩
    subst e3; subst e4
    have l14 := ((l1.trans l2).trans l3).trans l4
    refine ⟨L, ns.map V.int, rfl, .inl (.inl (l14.keep _ _ (fun z => z) hL)), fun c hc => ?_⟩
    have l5 := Le.new (U := none) (H := H4) (o := .lst (ns.map V.int).reverse) trivial hc
    refine ⟨rfl, l14.trans l5, trivial, fun v6 H6 l6 _ e6 => ⟨rfl, (l14.trans l5).trans l6, trivial, fun v7 H7 l7 _ e7 => ⟨rfl, ((l14.trans l5).trans l6).trans l7, trivial, fun v8 H8 l8 _ e8 => ⟨rfl, (((l14.trans l5).trans l6).trans l7).trans l8, trivial, fun v9 H9 l9 _ e9 => ?_⟩⟩⟩⟩
    subst e6; subst e7; subst e8; subst e9
    have l59 := ((l6.trans l7).trans l8).trans l9
    have l29 := ((l3.trans l4).trans l5).trans l59
    have hp9 : H9 p = some (.dK []) := l29.keep _ _ (fun z => z) upd_same
    have hc9 : H9 c = some (.lst (ns.map V.int).reverse) := l59.keep _ _ (fun z => z) upd_same
    have hne : c ≠ p := fun z => by rw [z, hp9] at hc9; cases hc9
    refine ⟨hp9, [(Sum.inr "cells", .ref c), (Sum.inr "mixed", .int m), (Sum.inr "turn", .int 0)], rfl, by show 3 ≤ 15; decide, q _ _ ((l2.trans l29).mut trivial hp) trivial ⟨p, c, rfl, ns.reverse, m, 0, ?_, ?_, by rw [List.length_reverse]; exact hz, m0, m1⟩⟩
    · rw [upd_same]; rfl
    · rw [upd_ne hne, hc9, List.map_reverse]
abbrev sp_urn (K : PySem.W.Frag) : Sp := FSp (α := List Int) nU (fun ns vs H => ∃ p, vs = [.ref p] ∧ SqL K H p (ns.map V.int)) (fun _ v H => ∃ u c, v = .ref u ∧ Urn u c H)
theorem ok_urn (F : DefAt K mg "_law_urn" s__law_urn ps__law_urn) (B : Bln mg) : Callee P w K mg base 1 "_law_urn" ps__law_urn (sp_urn K) := by
  refine callee_of F sc__law_urn (fun vs H Q E h => ?_) fun f cdv A outer s H vs Q E hr h => ?_
  · obtain ⟨a, _, ⟨p, rfl, _⟩, _⟩ := h; rfl
  obtain ⟨ns, _, ⟨p, rfl, hp⟩, k⟩ := h
  have hcut : cutV (ns.map V.int) none (some 63) = (ns.take 63).map V.int := by
    rw [show (63 : Int) = ((63 : Nat) : Int) from rfl, cut_hi, List.map_take]
  -- cells, mixed
  refine S.par (U := none) (Ps := A2 (NLs none H fun vs _ => vs = (ns.take 63).map V.int) (A2 (Is (.int 10895623)) A0)) rfl sc__law_urn.nd (i := 1) (j := 2) rfl rfl (by decide) rfl rfl trivial (RA.consS (fun v H1 H2 l ⟨L, vs, e, h1, h2, h3, h4⟩ => ⟨L, vs, e, h1, h2, l.keep _ _ h2 h3, h4⟩) ((R.lc (U := none) (P := NLs none H fun vs _ => vs.length = ((ns.take 63).map V.int).length ∧ ∀ i y, vs[i]? = some y → y = V.int ((ns.take 63).getD i 0)) (own := [("_law_cell", 3)]) rfl sc__law_urn.nd (Src.newLst (Q := fun vs _ => vs = (ns.take 63).map V.int) ((R.slK (H := H) (U := none) trivial hp (fun z => z) (R.var (i := 0) rfl (.inl rfl) rfl) RO.none (RO.some R.int)).imp fun v H1 l1 ⟨L1, vs1, e, h1, h2, h3, h4⟩ => ⟨L1, vs1, e, h3, h2, h4.trans hcut⟩)) (blkOk_by (N := N__law_urn) (sc := defScope s__law_urn) (by decide +kernel))
    (fun J H1 l1 j1 ⟨L1, vs1, hL1, nm1, e1, wk⟩ => LcK.map (n := ((ns.take 63).map V.int).length) (G := fun H => H L1 = some (.lst vs1)) (Y := YAt vs1) (fun i => Is (V.int ((ns.take 63).getD i 0))) (by rw [e1] at wk ⊢; exact wk) (by simp; omega) l1 trivial (fun i H x H' => yAt_le) (fun H' l' => l'.keep _ _ nm1 hL1) (fun i y H' H'' hi l' j' yy => ?_))).imp ?_) (RA.last R.int)) ?_
  · obtain ⟨rfl, hy⟩ := yy
    rw [e1] at hy
    obtain ⟨rfl, _⟩ := getV hy
    exact ⟨_, fun s Hb C cl fp => Tg.name sc__law_urn.nd (i := 3) rfl (.inl rfl), rfl, fun s Hb C cl fp => R.int1I (by rfl) B.int (R.var (i := 3) rfl (.inl rfl) rfl)⟩
  · rintro v H1 l1 ⟨L, vs, e, h1, h2, h3, h4, h5⟩
    refine ⟨L, vs, e, h1, h2, h3, ?_⟩
    rw [ints_of h4 h5, List.length_map, range_getD]
  rintro vs H1 l1 _ ⟨v, r, rfl, ⟨L, _, rfl, hL0, _, hL, rfl⟩, v', r', rfl, rfl, rfl⟩
  refine ⟨_, _, rfl, ?_⟩
  show S _ _ [some (.ref p), some (.ref L), some (.int 10895623), none] _ _
  refine S.cut (Mid := fun σ' H' => ∃ m x3, σ' = [some (.ref p), some (.ref L), some (.int m), x3] ∧ Le none H1 H' ∧ 0 ≤ m ∧ m < 2147483563) (S1.for (U := none) (Src.lst (R.var (i := 1) rfl (.inl rfl) rfl) hL (fun z => z)) trivial PassesOwn.never rfl fun J H2 l2 _ wk => ⟨_, _, _, wk,
    fun i σ' H' => ∃ m x3, σ' = [some (.ref p), some (.ref L), some (.int m), x3] ∧ Le none H1 H' ∧ 0 ≤ m ∧ m < 2147483563, ⟨10895623, none, rfl, l2, by decide, by decide⟩, fun i σ' H' _ ⟨_, _, _, l, _⟩ => l.keep _ _ (fun z => z) hL, ?_, fun σ' H' h => h⟩) ?_
  · rintro i v σ' H' H'' hi ⟨m, x3, rfl, l, m0, m1⟩ ⟨rfl, hv⟩
    obtain ⟨rfl, _⟩ := getV hv
    refine ⟨_, Tg.name sc__law_urn.nd (i := 3) rfl (.inl rfl), ?_⟩
    refine S.asgI (U := none) sc__law_urn.nd (i := 2) rfl (.inl rfl) trivial (R.mod (by decide) (R.int1I (by rfl) B.int (R.add (R.add (R.mulS (.inr (by decide)) (R.var (i := 2) rfl (.inl rfl) rfl) R.int) (R.mod (by decide) (R.int1I (by rfl) B.int (R.var (i := 3) rfl (.inl rfl) rfl)) R.int)) R.int)) R.int) fun H3 l3 _ => S.nil ⟨_, _, rfl, l.trans l3, Int.emod_nonneg _ (by decide), Int.emod_lt_of_pos _ (by decide)⟩
  rintro σ' H2 ⟨m, x3, rfl, l2, m0, m1⟩
  have hL2 := l2.keep _ _ (fun z => z) hL
  exact S.ret (U := none) trivial (R.urnD hL2 (by simp; omega) m0 m1 (R.var (i := 1) rfl (.inl rfl) rfl) (R.var (i := 2) rfl (.inl rfl) rfl)) fun v H3 l3 _ h => k v H3 ((l1.trans l2).trans l3) trivial h
end K62
end
section
set_option linter.all false
namespace K62
abbrev mvd (step : Row) (s : Stp) : Stp := ⟨s.m, s.c, (s.r + dot s.c step) % s.m⟩
theorem addk_undo {a b : Row} (h : a.length = b.length) : addk (addk a (-1) b) 1 b = a := by
  rw [addk_add]
  exact addk_zero a b h
theorem mvd_meets {d : Nat} {ss : List Stp} {step : Row} (hs : step.length = d) : Meets d (ss.map (mvd step)) ↔ Meets d ss := by
  constructor
  · rintro ⟨y, hy, ho⟩
    have hl : (addk y (-1) step).length = d := by rw [addk_len, hy, hs, Nat.min_self]
    refine ⟨addk y (-1) step, hl, fun s hm => (movd_on hs hl).mp ?_⟩
    rw [addk_undo (by rw [hy, hs])]
    exact ho _ (List.mem_map.mpr ⟨s, hm, rfl⟩)
  · rintro ⟨y, hy, ho⟩
    refine ⟨addk y 1 step, by rw [addk_len, hy, hs, Nat.min_self], fun t ht => ?_⟩
    obtain ⟨s, hm, rfl⟩ := List.mem_map.mp ht
    exact (movd_on hs hy).mpr (ho s hm)
theorem mvd_vs {p q d : Nat} {s : Stp} {step : Row} (h : VS p q d s) : VS p q d (mvd step s) :=
  ⟨h.per, h.pos, h.small, h.len, h.cs, h.prim, Int.emod_nonneg _ (by have := h.pos; show s.m ≠ 0; omega), Int.emod_lt_of_pos _ h.pos⟩
theorem stp_map {f : Stp → Stp} {ss : List Stp} {i : Nat} (hi : i < ss.length) : stp (ss.map f) i = f (stp ss i) := by
  rw [stp_get (s := f ss[i]) (by rw [List.getElem?_map, List.getElem?_eq_getElem hi]; rfl), stp_get (List.getElem?_eq_getElem hi)]
theorem Lc_mvd {P : Int} {step y : Row} : ∀ {ss : List Stp} {l : List Int}, Lc P (ss.map (mvd step)) l y = Lc P ss l y
  | [], l => rfl
  | s :: ss, [] => rfl
  | s :: ss, k :: l => by
    have ih := Lc_mvd (P := P) (step := step) (y := y) (ss := ss) (l := l)
    unfold Lc at ih ⊢
    rw [List.map_cons, List.zipWith_cons_cons, List.zipWith_cons_cons, List.sum_cons, List.sum_cons, ih]
theorem Lr_mvd {P : Int} {step : Row} : ∀ {ss : List Stp} {l : List Int}, (∀ s ∈ ss, s.m ≠ 0 ∧ s.m ∣ P) → P ∣ Lr P (ss.map (mvd step)) l - Lr P ss l - Lc P ss l step
  | [], l, _ => by simp [Lr, Lc]
  | s :: ss, [], _ => by simp [Lr, Lc]
  | s :: ss, k :: l, h => by
    obtain ⟨z, hz⟩ := Lr_mvd (P := P) (step := step) (ss := ss) (l := l) fun s hs => h s (List.mem_cons_of_mem _ hs)
    obtain ⟨h0, n, hn⟩ := h s (List.mem_cons_self ..)
    have hq : P / s.m = n := by rw [hn, Int.mul_ediv_cancel_left _ h0]
    unfold Lr Lc at hz ⊢
    rw [List.map_cons, List.zipWith_cons_cons, List.zipWith_cons_cons, List.zipWith_cons_cons, List.sum_cons, List.sum_cons, List.sum_cons]
    have he := Int.emod_add_mul_ediv (s.r + dot s.c step) s.m
    refine ⟨z - k * ((s.r + dot s.c step) / s.m), ?_⟩
    show k * (P / s.m) * ((s.r + dot s.c step) % s.m) + _ - (k * (P / s.m) * s.r + _) - (k * (P / s.m) * dot s.c step + _) = _
    rw [hq]
    rw [hn] at hz ⊢
    grind
theorem bar_mvd {d : Nat} {ss : List Stp} {prs : List (Nat × Int)} {step : Row} (hs : step.length = d) (h0 : ∀ s ∈ ss, s.m ≠ 0) (h : Bar d ss prs) : Bar d (ss.map (mvd step)) prs := by
  have hsub : psub (ss.map (mvd step)) prs = (psub ss prs).map (mvd step) := by
    unfold psub
    rw [List.map_map]
    exact List.map_congr_left fun p hp => stp_map (h.ok p hp).1
  refine ⟨h.inc, fun p hp => by rw [List.length_map]; exact h.ok p hp, fun P hP hd => ?_⟩
  have hd' : ∀ p ∈ prs, (stp ss p.1).m ∣ P := fun p hp => by
    have := hd p hp
    rwa [stp_map (h.ok p hp).1] at this
  obtain ⟨b1, b2, b3⟩ := h.bars P hP hd'
  have hm : ∀ s ∈ psub ss prs, s.m ≠ 0 ∧ s.m ∣ P := fun s hsm => by
    obtain ⟨p, hp, rfl⟩ := List.mem_map.mp hsm
    refine ⟨h0 _ ?_, hd' p hp⟩
    rw [stp_get (List.getElem?_eq_getElem (h.ok p hp).1)]
    exact List.getElem_mem _
  rw [hsub]
  refine ⟨b1.trans (List.length_map ..).symm, fun y hy => by rw [Lc_mvd]; exact b2 y hy, fun z => b3 ?_⟩
  have h1 := Lr_mvd (step := step) (l := pnum prs) hm
  have h2 := b2 step hs
  obtain ⟨a, ha⟩ := h1
  obtain ⟨b, hb⟩ := h2
  obtain ⟨c, hc⟩ := z
  exact ⟨c - a - b, by grind⟩
/-! written otherwise -/
abbrev wrt (u : Int) (s : Stp) : Stp := ⟨s.m, s.c.map fun y => u * y % s.m, u * s.r % s.m⟩
theorem dot_modmap {u m : Int} : ∀ {c x : List Int}, m ∣ dot (c.map fun y => u * y % m) x - u * dot c x
  | [], x => by simp [dot]
  | a :: c, [] => by simp [dot]
  | a :: c, y :: x => by
    obtain ⟨z, hz⟩ := dot_modmap (u := u) (m := m) (c := c) (x := x)
    rw [List.map_cons, dot_cons, dot_cons]
    have he := Int.emod_add_mul_ediv (u * a) m
    exact ⟨z - (u * a / m) * y, by grind⟩
theorem wrt_on {u : Int} {s : Stp} (hu : Nat.gcd u.natAbs s.m.natAbs = 1) (x : Row) : On (wrt u s) x ↔ On s x := by
  unfold On
  show s.m ∣ dot (s.c.map fun y => u * y % s.m) x - u * s.r % s.m ↔ _
  obtain ⟨z, hz⟩ := dot_modmap (u := u) (m := s.m) (c := s.c) (x := x)
  have he := Int.emod_add_mul_ediv (u * s.r) s.m
  obtain ⟨a, b, hab⟩ := bezI hu
  have hm : ((s.m.natAbs : Nat) : Int) = s.m ∨ ((s.m.natAbs : Nat) : Int) = -s.m := by omega
  constructor
  · rintro ⟨k, hk⟩
    have h1 : u * (dot s.c x - s.r) = s.m * (k - z - u * s.r / s.m) := by grind
    rcases hm with hm | hm
    · rw [hm] at hab
      exact ⟨a * (k - z - u * s.r / s.m) + b * (dot s.c x - s.r), by grind⟩
    · rw [hm] at hab
      exact ⟨a * (k - z - u * s.r / s.m) - b * (dot s.c x - s.r), by grind⟩
  · rintro ⟨k, hk⟩
    exact ⟨z + u * k + u * s.r / s.m, by grind⟩
theorem wrt_vs {x : Nat × Nat} (hx : x ∈ PQs) {d : Nat} {s : Stp} (V : VS x.1 x.2 d s) {u : Int} (hu : Nat.gcd u.natAbs s.m.natAbs = 1) : VS x.1 x.2 d (wrt u s) := by
  have hm := V.pos
  refine ⟨V.per, hm, V.small, by show (s.c.map _).length = d; rw [List.length_map]; exact V.len, fun y hy => ?_, prim_of hx V.per fun p hp hd hall => ?_, Int.emod_nonneg _ (by show s.m ≠ 0; omega), Int.emod_lt_of_pos _ hm⟩
  · obtain ⟨z, _, rfl⟩ := List.mem_map.mp hy
    exact ⟨Int.emod_nonneg _ (by omega), Int.emod_lt_of_pos _ hm⟩
  · have p2 := P10_ge p hp
    refine prim_no V.prim p2.1 hd fun y hy => ?_
    have h1 := hall _ (List.mem_map.mpr ⟨y, hy, rfl⟩)
    have h2 : (p : Int) ∣ u * y := by
      rw [← Int.emod_add_mul_ediv (u * y) s.m]
      exact Int.dvd_add h1 (Int.dvd_mul_of_dvd_left hd)
    obtain ⟨a, b, hab⟩ := bezI hu
    obtain ⟨k, hk⟩ := h2
    obtain ⟨n, hn⟩ := Int.ofNat_dvd_left.mp hd
    have hn' : ((s.m.natAbs : Nat) : Int) = (p : Int) * n := by rw [hn, Int.natCast_mul]
    rw [hn'] at hab
    exact ⟨a * k + n * b * y, by grind⟩
theorem wrt_gcd {u m : Int} (h : gcdl m.natAbs [u] = 1) : Nat.gcd u.natAbs m.natAbs = 1 := by
  rw [Nat.gcd_comm]; exact h
theorem bar_no {d : Nat} {ss : List Stp} {prs : List (Nat × Int)} (h : Bar d ss prs) (h0 : ∀ s ∈ ss, 0 < s.m) : ¬ Meets d (psub ss prs) := by
  have hp : ∀ s ∈ psub ss prs, 0 < s.m := fun s hs => by
    obtain ⟨p, hp, rfl⟩ := List.mem_map.mp hs
    rw [stp_get (List.getElem?_eq_getElem (h.ok p hp).1)]
    exact h0 _ (List.getElem_mem _)
  exact bars_no (h.bars (prodm (psub ss prs)) (prodm_pos hp) fun p hp => prodm_dvd (List.mem_map.mpr ⟨p, hp, rfl⟩)) fun s hs => prodm_dvd hs
end K62
end
section
set_option Elab.async false
set_option linter.all false
set_option maxRecDepth 100000
set_option maxHeartbeats 4000000
set_option exponentiation.threshold 100
namespace K62
open PySem PySem.Spec PyProof.Rows L2
variable {P : Program} {w : World} {K : PySem.W.Frag} {mg : Str → Option Value} {base : Heap}
abbrev sp_common_cells : Sp := FSp (α := StA) nU (fun x vs H => ∃ v, vs = [v] ∧ TupR StR x.ss v H ∧ x.Ok) (fun x => Vq fun v => (v = .non ∧ ¬ Meets x.d x.ss) ∨ ∃ T, v = .ref T ∧ Meets x.d x.ss)
abbrev sp_law (K : PySem.W.Frag) : Sp := fun vs H Q _ => ∃ (p : Addr) (ns : List Int), vs = [.ref p] ∧ SqL K H p (ns.map V.int) ∧ ∀ H', Q (.bl true) H'
/-- t != () -/
theorem RT.neNilT {X : Cx} {U : UA} {σ : L2.St} {H : Hp} {a : Expr} {Pa : VP} [Fz Pa] {φ : List V → Prop} {ψ : Bool → Prop} {n : Nat} {q pos : Pos} {kt : Nat} (hn : n < 64) (hu : X.A.units + 64 < cLine) (ha : R X U a σ H Pa) (hp : ∀ v H1, Le U H H1 → Pa v H1 → ∃ p vs, v = .ref p ∧ H1 p = some (.tup vs) ∧ φ vs ∧ ∀ u ∈ vs, Dtm n H1 u) (w : ∀ vs, φ vs → ψ (!vs.isEmpty)) : RT X U (.Compare a [.NotEq] [.Tuple [] kt q] pos) σ H ψ :=
  RT.cmp (op_neD hu) (nomark _) ha (Pb := NT []) (R.tupI RA.nil (fun us H1 e => e) (by show 0 ≤ 1000; decide)) fun x y H1 l j px ⟨p', e', h'⟩ Q k => by
    obtain ⟨p, vs, rfl, h, hφ, hd⟩ := hp x H1 l px
    subst e'
    obtain ⟨ds, d1, d2, d3⟩ := Dtm.all hd X.K
    refine ⟨.tuple ds, .tuple [], .tup (.inl (.inl h)) d1, .tup (.inl (.inl h')) .nil, okd_shaped (okd_tup d2) (by omega), okd_shaped (n := 1) (okd_tup (n := 0) fun d hd => nomatch hd) (by decide), ?_⟩
    rw [eqv_nilT]
    have e : (!ds.isEmpty) = !vs.isEmpty := by cases ds <;> cases vs <;> simp_all
    rw [e]
    exact k _ H1 (Le.refl _) j ⟨_, rfl, w vs hφ⟩
theorem bne_iff {j k : Bool} (h : j = true ↔ k = true) : (j != k) = false := by cases j <;> cases k <;> simp_all
def dA : Ppr → Bool
  | .meet _ => true
  | .never _ => false
theorem dA_meets {d : Nat} {ss : List Stp} {pp : Ppr} (h : PpOk d ss pp) : dA pp = true ↔ Meets d ss := by
  cases pp with
  | meet cell => exact ⟨fun _ => ⟨cell, h.1, h.2.1⟩, fun _ => rfl⟩
  | never prs => exact ⟨fun z => Bool.noConfusion z, fun z => absurd z h.2.2⟩
theorem PpR.hd {pp : Ppr} {v : V} {H : Hp} (h : PpR pp v H) : ∃ T z v1, v = .ref T ∧ H T = some (.tup [.str z, v1]) ∧ decide (V.str z = V.str "meet") = dA pp := by
  cases pp with
  | meet cell => obtain ⟨T, vc, e, h, _⟩ := h; exact ⟨T, _, _, e, h, by show decide (V.str "meet" = V.str "meet") = true; decide⟩
  | never prs => obtain ⟨T, vc, e, h, _⟩ := h; exact ⟨T, _, _, e, h, by show decide (V.str "never" = V.str "meet") = false; decide⟩
theorem PpOk.pre {d : Nat} {ss : List Stp} {pp : Ppr} (h : PpOk d ss pp) : HoPre d ss pp ∧ holdsB ss pp = true := by
  cases pp with
  | meet cell => exact ⟨⟨h.1, fun y hy => Nat.lt_of_le_of_lt (h.2.2 y hy) (Nat.pow_lt_pow_right (by decide) (by decide))⟩, by
      show ss.all _ = true
      rw [List.all_eq_true]
      exact fun s hs => onB_iff.mpr (h.2.1 s hs)⟩
  | never prs => exact ⟨⟨h.1, h.2.1⟩, rfl⟩
def thg (step : Row) : Ppr → Ppr
  | .meet cell => .meet (addk cell 1 step)
  | .never prs => .never prs
theorem thg_ok {d : Nat} {ss : List Stp} {pp : Ppr} {step : Row} (h : PpOk d ss pp) (hs : step.length = d) (hb : ∀ y ∈ step, y.natAbs < 2 ^ 100) (h0 : ∀ s ∈ ss, s.m ≠ 0) : HoPre d (ss.map (mvd step)) (thg step pp) ∧ holdsB (ss.map (mvd step)) (thg step pp) = true := by
  cases pp with
  | meet cell =>
    obtain ⟨h1, h2, h3⟩ := h
    refine ⟨⟨by show (addk cell 1 step).length = d; rw [addk_len, h1, hs, Nat.min_self], fun y hy => ?_⟩, ?_⟩
    · have := addk_ent (A := 2 ^ 7000) (B := 2 ^ 7000) h3 (fun z hz => Nat.le_of_lt (Nat.lt_of_lt_of_le (hb z hz) (Nat.pow_le_pow_right (by decide) (by decide)))) y hy
      refine Nat.lt_of_le_of_lt this ?_
      have e : 2 ^ 7000 + (1 : Int).natAbs * 2 ^ 7000 = 2 ^ 7001 := by
        rw [show (1 : Int).natAbs = 1 from rfl, Nat.one_mul, Nat.pow_succ 2 7000]; omega
      rw [e]
      exact Nat.pow_lt_pow_right (by decide) (by decide)
    · show (ss.map (mvd step)).all _ = true
      rw [List.all_eq_true]
      intro t ht
      obtain ⟨s, hsm, rfl⟩ := List.mem_map.mp ht
      exact onB_iff.mpr ((movd_on hs h1).mpr (h2 s hsm))
  | never prs => exact ⟨⟨bar_mvd hs h0 h.1, h.2.1⟩, rfl⟩
theorem Sts.of {x : Nat × Nat} {d : Nat} {ss tt : List Stp} (O : Sts x d ss) (h1 : 1 ≤ tt.length) (h2 : tt.length ≤ 12) (h : ∀ t ∈ tt, VS x.1 x.2 d t) : Sts x d tt := ⟨O.pq, O.d1, O.d3, h1, h2, h⟩
/-- judge_meeting called by its keyword -/
structure JudgeKw (P : Program) (w : World) (K : PySem.W.Frag) (mg : Str → Option Value) (base : Heap) : Prop where
  ex : ∃ f fd, FnOk P w K mg base CX0 8 f fd ["stripes"] sp_judge_meeting ∧ mg "judge_meeting" = some (.ref f) ∧ PySem.W.keepIn K (.ref f) = true ∧ KwAlone K fd "stripes"
abbrev LS (a0 a1 a2 a3 a4 a5 a6 a7 a8 a9 b0 b1 b2 b3 b4 b5 b6 b7 : Option V) : L2.St := [a0, a1, a2, a3, a4, a5, a6, a7, a8, a9, b0, b1, b2, b3, b4, b5, b6, b7, none, none, none, none, none, none, none, none]
structure Lw (P : Program) (w : World) (K : PySem.W.Frag) (mg : Str → Option Value) (base : Heap) : Prop where
  urn : Callee P w K mg base 1 "_law_urn" ps__law_urn (sp_urn K)
  draw : Callee P w K mg base 1 "_law_draw" ps__law_draw sp_draw
  great : Callee P w K mg base 2 "_law_great" ps__law_great sp_great
  fixed : Callee P w K mg base 2 "_law_fixed" ps__law_fixed sp_fixed
  stripes : Callee P w K mg base 4 "_law_stripes" ps__law_stripes sp_stripes
  moved : Callee P w K mg base 2 "_law_moved" ps__law_moved sp_moved
  paper : Callee P w K mg base 3 "_law_is_paper" ps__law_is_paper sp_lispaper
  parts : Callee P w K mg base 3 "_law_parts" ps__law_parts sp_parts
  judge : Callee P w K mg base 8 "judge_meeting" ps_judge_meeting sp_judge_meeting
  judgeK : JudgeKw P w K mg base
  holds : Callee P w K mg base 8 "meeting_holds" ps_meeting_holds sp_meeting_holds
  meet : Callee P w K mg base 8 "do_meet" ps_do_meet sp_do_meet
  cells : Callee P w K mg base 50 "common_cells" ps_common_cells sp_common_cells
theorem fn_law {f : Addr} {fd : FuncData} (F : Fun K "law" "law" s_law f fd) (B : Bln mg) (L : Lw P w K mg base) : FnOk P w K mg base CX0 51 f fd ps_law (sp_law K) := by
  refine fnok_of F sc_law (fun vs H Q E h => ?_) fun f cdv A outer s H vs Q E hr h => ?_
  · obtain ⟨p, ns, rfl, _⟩ := h; rfl
  obtain ⟨p, ns, rfl, hp, k⟩ := h
  have un64 := hr.units
  refine S.asg (U := none) (P := fun v H => ∃ u c, v = .ref u ∧ Urn u c H) sc_law.nd (i := 1) rfl (.inr rfl) trivial (R.callP L.urn hr (by decide) (by rfl) (RA.last (R.var (i := 0) rfl (.inl rfl) rfl)) ?_) ?_
  · rintro vs H1 l _ ⟨v, r, rfl, rfl, rfl⟩
    exact ⟨ns, ⟨p, rfl, SqL.le (U := none) hp (fun z => z) l⟩, fun v H2 _ _ h => h⟩
  rintro v H1 l1 _ ⟨u, c, rfl, hurn⟩
  have j1 : Jn (some (u, c)) H1 := hurn
  show S _ _ (LS (some (.ref p)) (some (.ref u)) none none none none none none none none none none none none none none none none) _ _
  refine S.cut (Mid := fun σ' H' => Jn (some (u, c)) H' ∧ ∃ x2 x3 x4 x5 x6 x7 x8 x9 y0 y1 y2 y3 y4 y5 y6 y7, σ' = LS (some (.ref p)) (some (.ref u)) x2 x3 x4 x5 x6 x7 x8 x9 y0 y1 y2 y3 y4 y5 y6 y7) (S1.for (U := some (u, c)) (Src.range1 (n := 2) (by rfl) B.range (by decide) R.int) j1 PassesOwn.never rfl fun J H2 l2 j2 wk => ⟨_, _, _, wk,
    fun i σ' H' => Jn (some (u, c)) H' ∧ ∃ x2 x3 x4 x5 x6 x7 x8 x9 y0 y1 y2 y3 y4 y5 y6 y7, σ' = LS (some (.ref p)) (some (.ref u)) x2 x3 x4 x5 x6 x7 x8 x9 y0 y1 y2 y3 y4 y5 y6 y7, ⟨j2, _, _, _, _, _, _, _, _, _, _, _, _, _, _, _, _, rfl⟩, fun _ _ _ _ _ => trivial, ?_, fun σ' H' h => h⟩) ?_
  · rintro i v σ' H3 H'' hi ⟨j3, x2, x3, x4, x5, x6, x7, x8, x9, y0, y1, y2, y3, y4, y5, y6, y7, rfl⟩ ⟨rfl, rfl⟩
    refine ⟨_, Tg.name sc_law.nd (i := 2) rfl (.inl rfl), ?_⟩
    show S _ _ (LS (some (.ref p)) (some (.ref u)) (some (.int i)) x3 x4 x5 x6 x7 x8 x9 y0 y1 y2 y3 y4 y5 y6 y7) _ _
    -- d
    refine S.asg (U := some (u, c)) (P := In fun i => 1 ≤ i ∧ i ≤ 3) sc_law.nd (i := 3) rfl (.inl rfl) j3 (R.imIn (R.opIn0 (φ := (· = 1)) (ψ := fun i => 0 ≤ i ∧ i < 3) op_add (R.toIn R.int) (R.callU L.draw hr (by decide) (by rfl) (RA.cons (R.var (i := 1) rfl (.inr (.inl rfl)) rfl) (RA.last R.int)) ?_)) (fun i ⟨a, b, e1, e2, e3⟩ => by omega)) ?_
    · rintro vs H3 l3 _ ⟨v, r, rfl, rfl, v', r', rfl, rfl, rfl⟩
      exact ⟨(u, c, 3), rfl, ⟨rfl, by show (0 : Int) < 3; decide, Nat.lt_of_lt_of_le (show (3 : Int).natAbs < 2 ^ 10 by decide) (Nat.pow_le_pow_right (by decide) (by decide))⟩, fun v H2 _ _ h => h⟩
    rintro v H4 l4 j4 ⟨dI, rfl, d1, d3⟩
    obtain ⟨d, rfl⟩ := Int.eq_ofNat_of_zero_le (show 0 ≤ dI by omega)
    show S _ _ (LS (some (.ref p)) (some (.ref u)) (some (.int i)) (some (.int d)) x4 x5 x6 x7 x8 x9 y0 y1 y2 y3 y4 y5 y6 y7) _ _
    -- stripes
    refine S.asgT (U := some (u, c)) (P := LsR d) j4 (R.callU L.stripes hr (by decide) (by rfl) (RA.cons (R.var (i := 1) rfl (.inr (.inl rfl)) rfl) (RA.last (R.var (i := 3) rfl (.inl rfl) rfl))) ?_) ?_
    · rintro vs H3 l3 _ ⟨v, r, rfl, rfl, v', r', rfl, rfl, rfl⟩
      exact ⟨⟨u, c, d⟩, rfl, ⟨rfl, by show 1 ≤ d; omega, by show d ≤ 3; omega⟩, fun v H2 _ _ h => h⟩
    rintro v H5 l5 j5 ⟨T5, vc, vs, thr, x, cell, ss, rfl, hT5, hcell, hcl, hcb, ⟨ps, us, rfl, hps, hrep⟩, O, hthr⟩
    refine ⟨_, Tg.tup rfl hT5 (Tgs.cons (Tg.name sc_law.nd (i := 4) rfl (.inl rfl)) (Tgs.cons (Tg.name sc_law.nd (i := 5) rfl (.inr rfl)) (Tgs.cons (Tg.name sc_law.nd (i := 6) rfl (.inl rfl)) Tgs.nil))), ?_⟩
    show S _ _ (LS (some (.ref p)) (some (.ref u)) (some (.int i)) (some (.int d)) (some vc) (some (.ref ps)) (some (.bl thr)) x7 x8 x9 y0 y1 y2 y3 y4 y5 y6 y7) _ _
    have hS : ∀ {H'}, Le (some (u, c)) H5 H' → TupR StR ss (.ref ps) H' := fun l => ⟨ps, us, rfl, l.tup _ _ hps, hrep.tk l.tup⟩
    have hul : us.length = ss.length := hrep.1
    have n1 := O.n1
    have n12 := O.n12
    -- paper
    refine S.asg (U := some (u, c)) (P := fun v H => ∃ pp, PpR pp v H ∧ PpOk d ss pp) sc_law.nd (i := 7) rfl (.inl rfl) j5 (R.ifE (φ := fun _ => True) ((RT.gt (R.var (i := 2) rfl (.inl rfl) rfl) R.int).imp fun _ _ => trivial) (fun _ => R.callP L.judge hr (by decide) (by rfl) (RA.last (R.var (i := 5) rfl (.inr (.inl rfl)) rfl)) ?_) (fun _ => ?_)) ?_
    · rintro vs H6 l6 _ ⟨v, r, rfl, rfl, rfl⟩
      exact ⟨⟨x, d, ss⟩, ⟨_, rfl, hS l6, O⟩, fun v H2 _ _ h => h⟩
    · obtain ⟨fj, fdj, Fj, hm, hk, hkw⟩ := L.judgeK.ex
      refine R.callKw (P1 := Is (.ref ps)) (CX := CX0) (j := 8) Fj hm hk hkw (hr.mono (by decide)) (by rfl) (R.var (i := 5) rfl (.inr (.inl rfl)) rfl) fun v H6 l6 j6 e Q q => ?_
      cases e
      exact ⟨⟨x, d, ss⟩, trivial, ⟨_, rfl, hS l6, O⟩, fun v H7 l7 _ h => q v H7 (Le.of l7) ((Le.of l7).jn j6) h⟩
    rintro v7 H6 l6 j6 ⟨pp, hpp, hok⟩
    have hM := dA_meets hok
    have hpre := hok.pre
    have L6 := l6
    show S _ _ (LS (some (.ref p)) (some (.ref u)) (some (.int i)) (some (.int d)) (some vc) (some (.ref ps)) (some (.bl thr)) (some v7) x8 x9 y0 y1 y2 y3 y4 y5 y6 y7) _ _
    -- is a paper, and holds
    refine S.if (U := some (u, c)) j6 (RW.pt (RW.orB (p := false) (q := false) (notT (P := Is .non) (R.callP L.paper hr (by decide) (by rfl) (RA.cons (R.var (i := 5) rfl (.inr (.inl rfl)) rfl) (RA.last (R.var (i := 7) rfl (.inl rfl) rfl))) ?_)) (fun _ => RW.or1 (RT.notTrue (k := true) (R.callP L.holds hr (by decide) (by rfl) (RA.cons (R.var (i := 5) rfl (.inr (.inl rfl)) rfl) (RA.last (R.var (i := 7) rfl (.inl rfl) rfl))) ?_))))) (fun e => Bool.noConfusion (e : true = false)) fun _ H7 l7 j7 => S.nil ?_
    · rintro vs H7 l7 _ ⟨v, r, rfl, rfl, v', r', rfl, rfl, rfl⟩
      exact ⟨(⟨x, d, ss⟩, pp), ⟨_, _, rfl, hS (L6.trans l7), Fz.le l7 hpp, O, hok⟩, fun v H2 _ _ h => h⟩
    · rintro vs H7 l7 _ ⟨v, r, rfl, rfl, v', r', rfl, rfl, rfl⟩
      exact ⟨(⟨x, d, ss⟩, pp), ⟨_, _, rfl, hS (L6.trans l7), Fz.le l7 hpp, O, hpre.1⟩, fun v H2 _ _ h => by
        have h : v = .bl (holdsB ss pp) := h
        rw [hpre.2] at h; exact h⟩
    have hpp7 := Fz.le l7 hpp
    have L7 := L6.trans l7
    obtain ⟨Tp, zp, vp, rfl, hTp, hdA⟩ := hpp7.hd
    -- do_all
    refine S.asgI (U := some (u, c)) (v := .bl (dA pp)) sc_law.nd (i := 8) rfl (.inl rfl) j7 (R.cast (R.eq rfl (R.ixT (v := .str zp) hTp rfl (R.var (i := 7) rfl (.inl rfl) rfl) R.int) R.str) (by rw [hdA])) fun H8 l8 j8 => ?_
    show S _ _ (LS (some (.ref p)) (some (.ref u)) (some (.int i)) (some (.int d)) (some vc) (some (.ref ps)) (some (.bl thr)) (some (.ref Tp)) (some (.bl (dA pp))) x9 y0 y1 y2 y3 y4 y5 y6 y7) _ _
    have L8 := L7.trans l8
    have neF : ∀ {tt : List Stp}, (Meets d tt ↔ Meets d ss) → ∀ j : Bool, (j = true ↔ Meets d tt) → (j != dA pp) = false := fun h j hj => bne_iff (hj.trans (h.trans hM.symm))
    have thrM : (thr && !dA pp) = false := by
      cases ht : thr with
      | false => rfl
      | true => rw [hM.mpr ⟨cell, hcl, hthr.mp ht⟩]; rfl
    -- do_meet
    refine S.if (U := some (u, c)) j8 (RW.pt (RW.orB (p := thr && !dA pp) (q := false) (RW.pt (RW.andB (p := thr) (q := !dA pp) (RT.is (R.var (i := 6) rfl (.inl rfl) rfl)) (fun _ => RW.and1 ((RT.not (φ := (· = dA pp)) (RT.is (R.var (i := 8) rfl (.inl rfl) rfl))).imp fun k e => by rw [← e, Bool.not_not])))) (fun _ => RW.or1 (RT.reprNe (R.repr (ψ := fun j => j = true ↔ Meets d ss) (by rfl) B.repr (R.callP L.meet hr (by decide) (by rfl) (RA.last (R.var (i := 5) rfl (.inr (.inl rfl)) rfl)) ?_)) (R.reprI (by rfl) B.repr (R.var (i := 8) rfl (.inl rfl) rfl)) (neF Iff.rfl))))) (fun e => ?_) fun _ H9 l9 j9 => S.nil ?_
    · rintro vs H9 l9 _ ⟨v, r, rfl, rfl, rfl⟩
      exact ⟨⟨x, d, ss⟩, ⟨_, rfl, hS (L8.trans l9), O⟩, fun v H2 _ _ h => h⟩
    · rw [thrM] at e; exact Bool.noConfusion (e : true = false)
    have L9 := L8.trans l9
    have hcell9 : TpI cell vc H9 := Fz.le L9 hcell
    -- the cell holds where the stripes go through it
    refine S.if (U := some (u, c)) j9 (RT.reprNe (φ := (· = false)) (R.repr (ψ := (· = thr)) (by rfl) B.repr (R.callP L.holds hr (by decide) (by rfl) (RA.cons (R.var (i := 5) rfl (.inr (.inl rfl)) rfl) (RA.last (P := PpR (.meet cell)) (R.tup (RA.cons (P := Is (.str "meet")) R.str (RA.last (R.var (i := 4) rfl (.inl rfl) rfl))) ?_ ?_))) ?_)) (R.reprI (by rfl) B.repr (R.var (i := 6) rfl (.inl rfl) rfl)) (fun j e => by rw [e]; exact bne_iff Iff.rfl)) (fun e => Bool.noConfusion (e : true = false)) fun _ Ha la ja => S.nil ?_
    · rintro us' H2 ⟨v, r, rfl, _, v', r', rfl, _, rfl⟩; show 2 ≤ sizeLine; decide
    · rintro us' p' H2 l2 jj ⟨v, r, rfl, rfl, v', r', rfl, rfl, rfl⟩ hn
      exact ⟨p', _, rfl, upd_same, Fz.le (l2.trans (Le.new (U := some (u, c)) jj hn)) hcell9⟩
    · rintro vs H2 l2 _ ⟨v, r, rfl, rfl, v', r', rfl, hv, rfl⟩
      refine ⟨(⟨x, d, ss⟩, .meet cell), ⟨_, _, rfl, hS (L9.trans l2), hv, O, hcl, fun y hy => Nat.lt_of_lt_of_le (hcb y hy) (Nat.pow_le_pow_right (by decide) (by decide))⟩, fun v H2 _ _ h => ⟨_, h, ?_⟩⟩
      show (ss.all fun s => onB s cell) = thr
      rw [Bool.eq_iff_iff, List.all_eq_true, hthr]
      exact ⟨fun h s hs => onB_iff.mp (h s hs), fun h s hs => onB_iff.mpr (h s hs)⟩
    have La := L9.trans la
    -- common_cells
    refine S.if (U := some (u, c)) (φ := (· = false)) ja (RT.cmp op_eq (nomark _) (Pa := Vq fun v => ∃ b, v = .bl b ∧ (b = true ↔ ¬ Meets d ss)) (Pb := Is (.bl (dA pp))) (R.cmpv op_isN (nomark _) (Pa := Vq fun v => (v = .non ∧ ¬ Meets d ss) ∨ ∃ T, v = .ref T ∧ Meets d ss) (Pb := Is .non) (R.callP L.cells hr (by decide) (by rfl) (RA.last (R.var (i := 5) rfl (.inr (.inl rfl)) rfl)) ?_) R.non ?_) (R.var (i := 8) rfl (.inl rfl) rfl) ?_) (fun e => Bool.noConfusion (e : true = false)) fun _ Hb lb jb => S.nil ?_
    · rintro vs H2 l2 _ ⟨v, r, rfl, rfl, rfl⟩
      exact ⟨⟨x, d, ss⟩, ⟨_, rfl, hS (La.trans l2), O⟩, fun v H2 _ _ h => h⟩
    · rintro a b H5 l5 jx hx rfl Q q
      rcases hx with ⟨rfl, h⟩ | ⟨T, rfl, h⟩
      · exact ⟨rfl, q _ H5 (Le.refl _) jx ⟨true, rfl, by simpa using h⟩⟩
      · exact ⟨rfl, q _ H5 (Le.refl _) jx ⟨false, rfl, by simpa using h⟩⟩
    · rintro a b H5 l5 jx ⟨b1, rfl, hb1⟩ rfl Q q
      refine ⟨rfl, q _ H5 (Le.refl _) jx ⟨_, rfl, decide_eq_false fun z => ?_⟩⟩
      have z : b1 = dA pp := by cases z; rfl
      rw [z, hM] at hb1
      by_cases hq : Meets d ss
      · exact hb1.mp hq hq
      · exact hq (hb1.mpr hq)
    have Lb := La.trans lb
    -- step
    refine S.asg (U := some (u, c)) (P := TpN d fun y => y.natAbs < 2 ^ 100) sc_law.nd (i := 9) rfl (.inl rfl) jb (R.tupleIn (H0 := Hb) (by rfl) B.tuple (R.lc (own := [("_law_place", 18)]) rfl sc_law.nd (Src.range1 (n := d) (by rfl) B.range (by omega) (R.var (i := 3) rfl (.inl rfl) rfl)) (blkOk_by (N := N_law) (sc := defScope s_law) (by decide +kernel))
      (fun J H2 l2 j wk => LcK.map (n := d) (G := fun _ => True) (Y := YFn fun i => .int (i : Int)) (fun i => In fun y => y.natAbs < 2 ^ 100) (by rw [Int.toNat_natCast] at wk; exact wk) (by omega) l2 jb (fun i H x H' => yFn_le) (fun _ _ => trivial) (fun i y H' H'' hi l' j' yy => ?_)))) ?_
    · obtain ⟨rfl, rfl⟩ := yy
      refine ⟨_, fun s Hb C cl fp => Tg.name sc_law.nd (i := 18) rfl (.inl rfl), rfl, fun s Hb C cl fp => R.imIn (R.opIn0 (φ := fun i => 0 ≤ i ∧ i < 2 * 10 ^ (12 : Int).toNat) (ψ := (· = 10 ^ (12 : Int).toNat)) op_sub (R.callU L.great hr (by decide) (by rfl) (RA.cons (R.var (i := 1) rfl (.inr (.inl rfl)) rfl) (RA.last (R.mulS (.inl (by decide)) R.int (R.pow ⟨by decide, by decide, by decide⟩ R.int R.int)))) ?_) (R.toIn (R.pow ⟨by decide, by decide, by decide⟩ R.int R.int))) ?_⟩
      · rintro vs H3 l3 _ ⟨v, r, rfl, rfl, v', r', rfl, rfl, rfl⟩
        exact ⟨(u, c, 2 * 10 ^ (12 : Int).toNat), rfl, ⟨rfl, by show (0 : Int) < 2 * 10 ^ (12 : Int).toNat; decide⟩, fun v H2 _ _ h => h⟩
      · rintro i ⟨a, b, ⟨h1, h2⟩, rfl, rfl⟩
        have e : (10 : Int) ^ (12 : Int).toNat = 1000000000000 := by decide
        rw [e] at h2 ⊢
        exact Nat.lt_of_lt_of_le (show _ < 2 ^ 60 by omega) (Nat.pow_le_pow_right (by decide) (by decide))
    rintro v9 Hc lc jc ⟨step, ⟨pst, rfl, hpst⟩, hstl, hstb⟩
    have Lc' := Lb.trans lc
    show S _ _ (LS (some (.ref p)) (some (.ref u)) (some (.int i)) (some (.int d)) (some vc) (some (.ref ps)) (some (.bl thr)) (some (.ref Tp)) (some (.bl (dA pp))) (some (.ref pst)) y0 y1 y2 y3 y4 y5 y6 y7) _ _
    have hm0 : ∀ s ∈ ss, s.m ≠ 0 := fun s hs => by have := (O.vs s hs).pos; omega
    have hstB : Bd 400000 step := fun y hy => Nat.lt_of_lt_of_le (hstb y hy) (Nat.pow_le_pow_right (by decide) (by decide))
    have hthg := thg_ok hok hstl hstb hm0
    have Om : Sts x d (ss.map (mvd step)) := O.of (by rw [List.length_map]; exact n1) (by rw [List.length_map]; exact n12) fun t ht => by
      obtain ⟨s, hs, rfl⟩ := List.mem_map.mp ht
      exact mvd_vs (O.vs s hs)
    have hppc := Fz.le (((l8.trans l9).trans la).trans (lb.trans lc)) hpp7
    -- thing
    refine S.asg (U := some (u, c)) (P := PpR (thg step pp)) sc_law.nd (i := 10) rfl (.inl rfl) jc (R.ifE (RT.is (k := dA pp) (R.var (i := 8) rfl (.inl rfl) rfl)) (fun e => ?_) (fun e => ?_)) ?_
    · cases pp with
      | never prs => cases e
      | meet cl =>
        obtain ⟨T', vcl, e', hT', pcl, rfl, hpcl⟩ := hppc
        cases e'
        have hll : cl.length = d := hok.1
        refine R.tup (RA.cons (P := Is (.str "meet")) R.str (RA.last (P := TpI (addk cl 1 step)) (R.tupleI (H0 := Hc) (f := fun i => cl.getD i 0 + step.getD i 0) (n := min (cl.map V.int).length (step.map V.int).length) ?_ (by rfl) B.tuple (R.lc (own := [("_law_x", 19), ("_law_y", 20)]) rfl sc_law.nd (Src.zipT (by rfl) B.zip (R.ixT (v := .ref pcl) hT' rfl (R.var (i := 7) rfl (.inl rfl) rfl) R.int) (R.var (i := 9) rfl (.inl rfl) rfl) hpcl hpst) (blkOk_by (N := N_law) (sc := defScope s_law) (by decide +kernel))
          (fun J H1 l j wk => LcK.zip (j1 := 19) (j2 := 20) (fun i => Is (.int (cl.getD i 0 + step.getD i 0))) wk (by rw [List.length_map]; omega) l jc (fun H' l' => ⟨l'.tup _ _ (l.tup _ _ hpcl), l'.tup _ _ (l.tup _ _ hpst)⟩)
            (fun T x y H'' hT s Hb C cl fp => Tg.tup rfl hT (Tgs.cons (Tg.name sc_law.nd (i := 19) rfl (.inl rfl)) (Tgs.cons (Tg.name sc_law.nd (i := 20) rfl (.inl rfl)) Tgs.nil)))
            (fun i x y H'' hi l' j' hx hy s Hb C cl fp => ?_)))))) ?_ ?_
        · rw [List.length_map, List.length_map, hll, hstl, Nat.min_self, zipw_range (fun a b => a + b) hll hstl]
          unfold addk
          congr 1
          funext a b
          rw [Int.one_mul]
        · obtain ⟨rfl, _⟩ := getV hx
          obtain ⟨rfl, _⟩ := getV hy
          exact R.add (R.var (i := 19) rfl (.inl rfl) rfl) (R.var (i := 20) rfl (.inl rfl) rfl)
        · rintro us' H2 ⟨v, r, rfl, _, v', r', rfl, _, rfl⟩; show 2 ≤ sizeLine; decide
        · rintro us' p' H2 l2 jj ⟨v, r, rfl, rfl, v', r', rfl, hv, rfl⟩ hn
          exact ⟨p', v', rfl, upd_same, Fz.le (Le.new (U := some (u, c)) jj hn) hv⟩
    · cases pp with
      | meet cl => cases e
      | never prs => exact (R.var (i := 7) rfl (.inl rfl) rfl).imp fun v H2 l2 e => by cases e; exact Fz.le l2 hppc
    rintro v10 Hd ld jd hth
    show S _ _ (LS (some (.ref p)) (some (.ref u)) (some (.int i)) (some (.int d)) (some vc) (some (.ref ps)) (some (.bl thr)) (some (.ref Tp)) (some (.bl (dA pp))) (some (.ref pst)) (some v10) y1 y2 y3 y4 y5 y6 y7) _ _
    have Ld := Lc'.trans ld
    -- moved
    refine S.asg (U := some (u, c)) (P := TupR StR (ss.map (mvd step))) sc_law.nd (i := 11) rfl (.inl rfl) jd (R.callP L.moved hr (by decide) (by rfl) (RA.cons (R.var (i := 5) rfl (.inr (.inl rfl)) rfl) (RA.last (R.var (i := 9) rfl (.inl rfl) rfl))) ?_) ?_
    · rintro vs H2 l2 _ ⟨v, r, rfl, rfl, v', r', rfl, rfl, rfl⟩
      exact ⟨(d, ss, step), ⟨_, _, rfl, hS (Ld.trans l2), ⟨pst, rfl, (ld.trans l2).tup _ _ hpst⟩, by show d ≤ 3; omega, n12, fun s hs => (O.vs s hs).st, hstB⟩, fun v H2 _ _ h => h⟩
    rintro v11 He le je ⟨pm, um, rfl, hpm, hrm⟩
    show S _ _ (LS (some (.ref p)) (some (.ref u)) (some (.int i)) (some (.int d)) (some vc) (some (.ref ps)) (some (.bl thr)) (some (.ref Tp)) (some (.bl (dA pp))) (some (.ref pst)) (some v10) (some (.ref pm)) y2 y3 y4 y5 y6 y7) _ _
    have Le' := Ld.trans le
    have hth' := Fz.le le hth
    -- the thing holds, moved
    refine S.cut (Mid := fun σ' H' => σ' = LS (some (.ref p)) (some (.ref u)) (some (.int i)) (some (.int d)) (some vc) (some (.ref ps)) (some (.bl thr)) (some (.ref Tp)) (some (.bl (dA pp))) (some (.ref pst)) (some v10) (some (.ref pm)) y2 y3 y4 y5 y6 y7 ∧ Le (some (u, c)) He H' ∧ Jn (some (u, c)) H') (S1.if (U := some (u, c)) (φ := fun _ => True) je (RW.pt (RW.or (φ := (· = !dA pp)) (ψ := fun _ => True) ((RT.not (φ := (· = dA pp)) (RT.is (R.var (i := 8) rfl (.inl rfl) rfl))).imp fun k e => by rw [← e, Bool.not_not]) (fun e => RW.or1 ?_) (fun _ => trivial) (fun _ _ _ => trivial))) (fun _ Hf lf jf => ?_) (fun _ Hf lf jf => S.nil ⟨rfl, lf, jf⟩)) ?_
    · cases pp with
      | never prs => cases e
      | meet cl =>
        obtain ⟨T', vcl, rfl, hT', pcl, rfl, hpcl⟩ := hth'
        refine RT.eqNil (n := 0) (φ := fun vs => ∃ l : List Int, vs = l.map V.int) (by decide) un64 (Pa := NLs (some (u, c)) He fun vs _ => ∃ l : List Int, vs = l.map V.int) (fun v H1 H2 _ l ⟨L, vs, e, h1, h2, h3, h4⟩ => ⟨L, vs, e, h1, h2, l.keep _ _ h2 h3, h4⟩) (R.lc (own := [("_law_x", 19)]) rfl sc_law.nd (Src.tup (R.ixT (v := .ref pcl) hT' rfl (R.var (i := 10) rfl (.inl rfl) rfl) R.int) hpcl) (blkOk_by (N := N_law) (sc := defScope s_law) (by decide +kernel)) (fun J H2 l2 j2 wk => ?_)) (fun v H1 l ⟨L, vs, e, h1, h2, h3, l', h4⟩ => ⟨L, vs, e, h3, ⟨l', h4⟩, h4 ▸ Dtm.ints⟩) (fun _ _ => trivial)
        intro L hL
        refine ⟨_, _, _, wk, by rw [List.length_map]; have := hthg.1.1; have : (addk cl 1 step).length = d := this; omega, fun i H x H' => yAt_le, fun i vs H' => (∃ l : List Int, vs = l.map V.int) ∧ H' pcl = some (.tup ((addk cl 1 step).map V.int)), ⟨⟨[], rfl⟩, (Le.new (U := some (u, c)) j2 hL).tup _ _ (l2.tup _ _ hpcl)⟩, fun i vs H' _ _ h => h.2, fun i vs x H' H'' hi l jn jn2 hv ⟨⟨l', e'⟩, hp'⟩ yy => ?_, fun vs H' l _ hv _ h => ⟨L, vs, rfl, l2.fresh je hL, Le.nmv j2 hL, hv, h.1⟩⟩
        obtain ⟨rfl, hy⟩ := yy
        obtain ⟨rfl, _⟩ := getV hy
        refine ⟨_, fun s Hb C cl fp => Tg.name sc_law.nd (i := 19) rfl (.inl rfl), rfl, fun _ => True, fun s Hb C cl fp => RTs.one (RT.cmp op_gt (nomark _) (Pa := In fun _ => True) (Pb := In fun _ => True) (R.imIn (R.toIn (R.abs (by rfl) B.abs (R.var (i := 19) rfl (.inl rfl) rfl))) (fun _ _ => trivial)) (R.nines (by rfl) B.int) fun a b H5 l5 jx ⟨x, e1, _⟩ ⟨y, e2, _⟩ Q q => ⟨x, y, e1, e2, q _ H5 (Le.refl _) jx ⟨_, rfl, trivial⟩⟩), fun _ H3 l3 j3 => ⟨⟨l', e'⟩, l3.tup _ _ hp'⟩, fun _ => ⟨_, fun s Hb C cl fp => R.var (i := 19) rfl (.inl rfl) rfl, fun y H3 l3 j3 ey hL3 => ⟨⟨l' ++ [(addk cl 1 step).getD i 0], by rw [List.map_append, ← e', show y = V.int ((addk cl 1 step).getD i 0) from ey]; rfl⟩, (upd_tk hL3) _ _ (l3.tup _ _ hp')⟩⟩⟩
    · refine S.if (U := some (u, c)) jf (RT.notTrue (k := true) (R.callP L.holds hr (by decide) (by rfl) (RA.cons (R.var (i := 11) rfl (.inl rfl) rfl) (RA.last (R.var (i := 10) rfl (.inl rfl) rfl))) ?_)) (fun e => Bool.noConfusion (e : true = false)) fun _ Hg lg jg => S.nil (S.nil ⟨rfl, lf.trans lg, jg⟩)
      rintro vs H2 l2 _ ⟨v, r, rfl, rfl, v', r', rfl, rfl, rfl⟩
      have l2' := lf.trans l2
      exact ⟨(⟨x, d, ss.map (mvd step)⟩, thg step pp), ⟨_, _, rfl, ⟨pm, um, rfl, l2'.tup _ _ hpm, hrm.tk l2'.tup⟩, Fz.le l2' hth', Om, hthg.1⟩, fun v H2 _ _ h => by
        have h : v = .bl (holdsB (ss.map (mvd step)) (thg step pp)) := h
        rw [hthg.2] at h; exact h⟩
    rintro σ' Hf ⟨rfl, lf, jf⟩
    have Lf := Le'.trans lf
    have rep_rev : ∀ {as : List Stp} {vs : List V} {H : Hp}, Rep2 StR as vs H → Rep2 StR as.reverse vs.reverse H := fun {as vs H} h => ⟨by rw [List.length_reverse, List.length_reverse, h.1], fun i a v e1 e2 => by
      have hi : i < as.length := by have := (List.getElem?_eq_some_iff.mp e1).1; simpa using this
      rw [List.getElem?_reverse hi] at e1
      rw [List.getElem?_reverse (by rw [h.1]; exact hi), h.1] at e2
      exact h.2 _ a v e1 e2⟩
    have mrev : Meets d (ss.map (mvd step)).reverse ↔ Meets d ss := by
      refine Iff.trans ?_ (mvd_meets hstl)
      exact ⟨fun h => h.sub fun s hs => List.mem_reverse.mpr hs, fun h => h.sub fun s hs => List.mem_reverse.mp hs⟩
    -- moved, turned round
    refine S.if (U := some (u, c)) jf (RT.reprNe (φ := (· = false)) (R.repr (ψ := fun j => j = true ↔ Meets d (ss.map (mvd step)).reverse) (by rfl) B.repr (R.callP L.meet hr (by decide) (by rfl) (RA.last (R.revT (lf.tup _ _ hpm) (R.var (i := 11) rfl (.inl rfl) rfl))) ?_)) (R.reprI (by rfl) B.repr (R.var (i := 8) rfl (.inl rfl) rfl)) (neF mrev)) (fun e => Bool.noConfusion (e : true = false)) fun _ Hg lg jg => S.nil ?_
    · rintro vs H2 l2 _ ⟨v, r, rfl, ⟨pr, rfl, hpr⟩, rfl⟩
      exact ⟨⟨x, d, (ss.map (mvd step)).reverse⟩, ⟨_, rfl, ⟨pr, _, rfl, hpr, rep_rev (hrm.tk (lf.trans l2).tup)⟩, Om.of (by rw [List.length_reverse]; exact Om.n1) (by rw [List.length_reverse]; exact Om.n12) fun t ht => Om.vs t (List.mem_reverse.mp ht)⟩, fun v H2 _ _ h => h⟩
    have Lg := Lf.trans lg
    -- written otherwise
    refine S.asg (U := some (u, c)) (P := NLs (some (u, c)) Hg fun vs _ => vs = []) sc_law.nd (i := 12) rfl (.inl rfl) jg (R.lstI jg RA.nil (fun us H1 e => e) (by show 0 ≤ 1000; decide)) ?_
    rintro v12 Hh lh jh ⟨Lw', _, rfl, hW0, nmW, hW, rfl⟩
    have Lh := Lg.trans lh
    show S _ _ (LS (some (.ref p)) (some (.ref u)) (some (.int i)) (some (.int d)) (some vc) (some (.ref ps)) (some (.bl thr)) (some (.ref Tp)) (some (.bl (dA pp))) (some (.ref pst)) (some v10) (some (.ref pm)) (some (.ref Lw')) y3 y4 y5 y6 y7) _ _
    refine S.cut (Mid := fun σ' H' => ∃ z3 z4 z5 z6 ws tt, σ' = LS (some (.ref p)) (some (.ref u)) (some (.int i)) (some (.int d)) (some vc) (some (.ref ps)) (some (.bl thr)) (some (.ref Tp)) (some (.bl (dA pp))) (some (.ref pst)) (some v10) (some (.ref pm)) (some (.ref Lw')) z3 z4 z5 z6 y7 ∧ Le (some (u, c)) Hg H' ∧ Jn (some (u, c)) H' ∧ H' Lw' = some (.lst ws) ∧ Rep2 StR tt ws H' ∧ tt.length = ss.length ∧ (∀ t ∈ tt, VS x.1 x.2 d t) ∧ ∀ y : Row, (∀ t ∈ tt, On t y) ↔ ∀ s ∈ ss, On s y) (S1.for (U := some (u, c)) (Src.tup (R.var (i := 5) rfl (.inr (.inl rfl)) rfl) (Lh.tup _ _ hps)) jh PassesOwn.never rfl fun J Hi li ji wk => ⟨_, _, _, wk,
      fun k σ' H' => ∃ z3 z4 z5 z6 ws tt, σ' = LS (some (.ref p)) (some (.ref u)) (some (.int i)) (some (.int d)) (some vc) (some (.ref ps)) (some (.bl thr)) (some (.ref Tp)) (some (.bl (dA pp))) (some (.ref pst)) (some v10) (some (.ref pm)) (some (.ref Lw')) z3 z4 z5 z6 y7 ∧ Le (some (u, c)) Hg H' ∧ Jn (some (u, c)) H' ∧ H' Lw' = some (.lst ws) ∧ Rep2 StR tt ws H' ∧ tt.length = k ∧ (∀ t ∈ tt, VS x.1 x.2 d t) ∧ ∀ y : Row, (∀ t ∈ tt, On t y) ↔ ∀ s ∈ ss.take k, On s y, ⟨_, _, _, _, [], [], rfl, lh.trans li, ji, li.keep _ _ nmW hW, ⟨rfl, fun i a v e => nomatch e⟩, rfl, (fun t h => nomatch h), fun y => by simp⟩, fun k σ' H' _ ⟨_, _, _, _, _, _, _, l, _⟩ => (Lg.trans l).tup _ _ hps, ?_, ?_⟩) ?_
    · rintro k v σ' H' H'' hk ⟨z3, z4, z5, z6, ws, tt, rfl, lg', jg', hWs, hrw, htl, hVt, hOn⟩ ⟨rfl, hv⟩
      have l5' := Lg.trans lg'
      obtain ⟨t, ht, q1, vc1, rfl, hq1, pc1, rfl, hpc1⟩ := (hrep.tk l5'.tup).get hv
      have htm := List.mem_of_getElem? ht
      have VT := O.vs t htm
      have m0 := VT.pos
      have hwl : ws.length = k := hrw.1.trans htl
      have etk : ss.take (k + 1) = ss.take k ++ [t] := by rw [List.take_add_one, ht]; rfl
      refine ⟨_, Tg.tup rfl hq1 (Tgs.cons (Tg.name sc_law.nd (i := 13) rfl (.inr rfl)) (Tgs.cons (Tg.name sc_law.nd (i := 14) rfl (.inl rfl)) (Tgs.cons (Tg.name sc_law.nd (i := 15) rfl (.inl rfl)) Tgs.nil))), ?_⟩
      show S _ _ (LS (some (.ref p)) (some (.ref u)) (some (.int i)) (some (.int d)) (some vc) (some (.ref ps)) (some (.bl thr)) (some (.ref Tp)) (some (.bl (dA pp))) (some (.ref pst)) (some v10) (some (.ref pm)) (some (.ref Lw')) (some (.int t.m)) (some (.ref pc1)) (some (.int t.r)) z6 y7) _ _
      -- u
      refine S.asg (U := some (u, c)) (P := In fun z => 0 ≤ z ∧ z < t.m ∧ Nat.gcd z.natAbs t.m.natAbs = 1) sc_law.nd (i := 16) rfl (.inr rfl) jg' (R.ix (Pa := PrimR t.m 1) (Pi := Is (.int 0)) (fun _ _ => rfl) (R.callU L.fixed hr (by decide) (by rfl) (RA.cons (R.var (i := 1) rfl (.inr (.inl rfl)) rfl) (RA.cons (R.var (i := 13) rfl (.inr (.inl rfl)) rfl) (RA.last (P := fun v H => ∃ z : Int, NT [.int z] v H) (R.tup (RA.last (P := In fun z => 0 ≤ z ∧ z < t.m) (R.callU L.great hr (by decide) (by rfl) (RA.cons (R.var (i := 1) rfl (.inr (.inl rfl)) rfl) (RA.last (R.var (i := 13) rfl (.inr (.inl rfl)) rfl))) ?_)) ?_ ?_)))) ?_) R.int ix_tup ?_) ?_
      · rintro vs H2 l2 _ ⟨v, r, rfl, rfl, v', r', rfl, rfl, rfl⟩
        exact ⟨(u, c, t.m), rfl, ⟨rfl, m0⟩, fun v H2 _ _ h => h⟩
      · rintro us' H2 ⟨v, r, rfl, _, rfl⟩; show 1 ≤ sizeLine; decide
      · rintro us' p' H2 _ _ ⟨v, r, rfl, ⟨z, rfl, _⟩, rfl⟩ hn; exact ⟨z, p', rfl, upd_same⟩
      · rintro vs H2 l2 _ ⟨v, r, rfl, rfl, v', r', rfl, rfl, v'', r'', rfl, ⟨z, p', rfl, hp'⟩, rfl⟩
        exact ⟨⟨u, c, x, t.m, p', false, [z]⟩, rfl, ⟨rfl, hp', (fun z => Bool.noConfusion z), O.pq, VT.per, m0, by show 1 ≤ 1; decide, by show 1 ≤ 3; decide, VT.small⟩, fun v H2 _ _ h => h⟩
      · rintro a b H2 l2 jj ⟨cu, ⟨pu, rfl, hpu⟩, hcul, hcur, hcup⟩ rfl Q q
        obtain ⟨z, rfl⟩ : ∃ z, cu = [z] := by
          match cu, hcul with
          | [z], _ => exact ⟨z, rfl⟩
        have hz := hcur z (by simp)
        exact ⟨pu, _, 0, .int z, rfl, rfl, .inl (.inl hpu), rfl, q _ H2 (Le.refl _) jj ⟨z, rfl, hz.1, hz.2, wrt_gcd hcup⟩⟩
      rintro v16 Hj lj jj ⟨uu, rfl, u0, u1, ugcd⟩
      show S _ _ (LS (some (.ref p)) (some (.ref u)) (some (.int i)) (some (.int d)) (some vc) (some (.ref ps)) (some (.bl thr)) (some (.ref Tp)) (some (.bl (dA pp))) (some (.ref pst)) (some v10) (some (.ref pm)) (some (.ref Lw')) (some (.int t.m)) (some (.ref pc1)) (some (.int t.r)) (some (.int uu)) y7) _ _
      have ub : uu.natAbs < 2 ^ 134 := Nat.lt_trans (show uu.natAbs < t.m.natAbs by have := VT.small; clear this; omega) VT.small
      have cb : ∀ y ∈ t.c, y.natAbs < 2 ^ 134 := fun y hy => by
        have h1 := VT.cs y hy
        have h2 := VT.small
        omega
      have hpcj := lj.tup _ _ hpc1
      refine S.app (U := some (u, c)) (P := StR (wrt uu t)) jj (lj.keep _ _ nmW hWs) nmW (by omega) (R.var (i := 12) rfl (.inl rfl) rfl) (R.tup (RA.cons (P := Is (.int t.m)) (R.var (i := 13) rfl (.inr (.inl rfl)) rfl) (RA.cons (P := TpI (t.c.map fun y => uu * y % t.m)) (R.tupleI (H0 := Hj) (n := (t.c.map V.int).length) (f := fun i => uu * t.c.getD i 0 % t.m) (range_map_of (by rw [List.length_map]) fun i a e => by rw [List.getD_eq_getElem?_getD, e]; rfl) (by rfl) B.tuple (R.lc (own := [("_law_number", 21)]) rfl sc_law.nd (Src.tup (R.var (i := 14) rfl (.inl rfl) rfl) hpcj) (blkOk_by (N := N_law) (sc := defScope s_law) (by decide +kernel))
        (fun J H8 l8 j wk => LcK.map (fun i => Is (V.int (uu * t.c.getD i 0 % t.m))) wk (by rw [List.length_map, VT.len]; omega) l8 jj (fun i H x H' => yAt_le) (fun H' l' => (l8.trans l').tup _ _ hpcj) (fun i y H' H'' hi l' j' yy => ?_)))) (RA.last (P := Is (.int (uu * t.r % t.m))) (R.mod m0 (R.int1I (by rfl) B.int (R.mul (wide_mul ub VT.st.r1 (by decide) (by decide) (by decide)) (R.var (i := 16) rfl (.inr (.inl rfl)) rfl) (R.var (i := 15) rfl (.inl rfl) rfl))) (R.var (i := 13) rfl (.inr (.inl rfl)) rfl))))) ?_ ?_) ?_
      · obtain ⟨rfl, hy⟩ := yy
        obtain ⟨rfl, hm⟩ := getV hy
        exact ⟨_, fun s Hb C cl fp => Tg.name sc_law.nd (i := 21) rfl (.inl rfl), rfl, fun s Hb C cl fp => R.mod m0 (R.int1I (by rfl) B.int (R.mul (wide_mul ub (cb _ hm) (by decide) (by decide) (by decide)) (R.var (i := 16) rfl (.inr (.inl rfl)) rfl) (R.var (i := 21) rfl (.inl rfl) rfl))) (R.var (i := 13) rfl (.inr (.inl rfl)) rfl)⟩
      · rintro us' H2 ⟨v, r, rfl, _, v, r, rfl, _, v', r', rfl, _, rfl⟩; show 3 ≤ sizeLine; decide
      · rintro us' p' H2 l2 jq ⟨v, r, rfl, rfl, v1, r1, rfl, hv1, v', r', rfl, rfl, rfl⟩ hn
        exact ⟨p', v1, rfl, upd_same, Fz.le (Le.new (U := some (u, c)) jq hn) hv1⟩
      · rintro v Hk lk jk hv hWk
        have ltk : Tk H'' (upd Hk Lw' (.lst (ws ++ [v]))) := (lj.trans lk).tup.trans (upd_tk hWk)
        refine S.nil ⟨_, _, _, _, ws ++ [v], tt ++ [wrt uu t], rfl, ((lg'.trans lj).trans lk).mut jg hW0, upd_jn nmW jk, upd_same, (hrw.tk ltk).app ⟨rfl, fun i' a w e1 e2 => ?_⟩, by rw [List.length_append, htl]; rfl, fun s hs => ?_, fun y => ?_⟩
        · cases i' with
          | zero => cases e1; cases e2; exact Fz.mv _ _ _ (upd_tk hWk) hv
          | succ i' => simp at e1
        · rcases List.mem_append.mp hs with h | h
          · exact hVt s h
          · have : s = wrt uu t := by simpa using h
            subst this
            exact wrt_vs O.pq VT ugcd
        · rw [etk]
          constructor
          · intro h s hs
            rcases List.mem_append.mp hs with hs | hs
            · exact (hOn y).mp (fun t' ht' => h t' (List.mem_append_left _ ht')) s hs
            · have : s = t := by simpa using hs
              subst this
              exact (wrt_on ugcd y).mp (h _ (List.mem_append_right _ (by simp)))
          · intro h s hs
            rcases List.mem_append.mp hs with hs | hs
            · exact (hOn y).mpr (fun t' ht' => h t' (List.mem_append_left _ ht')) s hs
            · have : s = wrt uu t := by simpa using hs
              subst this
              exact (wrt_on ugcd y).mpr (h _ (List.mem_append_right _ (by simp)))
    · rintro σ' H' ⟨z3, z4, z5, z6, ws, tt, rfl, lg', jg', hWs, hrw, htl, hVt, hOn⟩
      rw [hul] at htl hOn
      rw [List.take_length] at hOn
      exact ⟨z3, z4, z5, z6, ws, tt, rfl, lg', jg', hWs, hrw, htl, hVt, hOn⟩
    rintro σ' Hi ⟨z3, z4, z5, z6, ws, tt, rfl, li, ji, hWs, hrw, htl, hVt, hOn⟩
    have Li := Lg.trans li
    have mw : Meets d tt ↔ Meets d ss := ⟨fun ⟨y, hy, h⟩ => ⟨y, hy, (hOn y).mp h⟩, fun ⟨y, hy, h⟩ => ⟨y, hy, (hOn y).mpr h⟩⟩
    have Ow : Sts x d tt := O.of (by omega) (by omega) hVt
    refine S.if (U := some (u, c)) ji (RT.reprNe (φ := (· = false)) (R.repr (ψ := fun j => j = true ↔ Meets d tt) (by rfl) B.repr (R.callP L.meet hr (by decide) (by rfl) (RA.last (P := TupR StR tt) (R.callTy call_tuple_of (by rfl) B.tuple PyProof.Rows.boot_tuple (RA.last (R.var (i := 12) rfl (.inl rfl) rfl)) ?_)) ?_)) (R.reprI (by rfl) B.repr (R.var (i := 8) rfl (.inl rfl) rfl)) (neF mw)) (fun e => Bool.noConfusion (e : true = false)) fun _ Hj lj jj => S.nil ?_
    · rintro us' H1 l j ⟨v, r, rfl, rfl, rfl⟩ Q' q'
      exact ⟨Lw', _, rfl, .inl ⟨.inl (.inl (l.keep _ _ nmW hWs)), fun p' hp' => q' _ _ (Le.new j hp') ((Le.new j hp').jn j) ⟨p', ws, rfl, upd_same, hrw.tk (l.trans (Le.new (U := some (u, c)) j hp')).tup⟩⟩⟩
    · rintro vs H2 l2 _ ⟨v, r, rfl, hv, rfl⟩
      exact ⟨⟨x, d, tt⟩, ⟨_, rfl, hv, Ow⟩, fun v H2 _ _ h => h⟩
    have Lj := Li.trans lj
    have hpsj := Lj.tup _ _ hps
    -- some
    refine S.asg (U := some (u, c)) (P := fun v H => ∃ tt, TupR StR tt v H ∧ (∀ t ∈ tt, t ∈ ss) ∧ tt.length ≤ 12) sc_law.nd (i := 17) rfl (.inl rfl) jj (R.ifE (φ := fun _ => True) ((RT.is (R.var (i := 8) rfl (.inl rfl) rfl)).imp fun _ _ => trivial) (fun _ => (R.tupleN (U := some (u, c)) (H0 := Hj) (Qs := fun vs H' => ∃ tt, Rep2 StR tt vs H' ∧ (∀ t ∈ tt, t ∈ ss) ∧ tt.length ≤ 12) (fun vs H1 H2 tk ⟨tt, h1, h2⟩ => ⟨tt, h1.tk tk, h2⟩) (by rfl) B.tuple (R.lc (own := [("_law_stripe", 22)]) rfl sc_law.nd (Src.tup (R.var (i := 5) rfl (.inr (.inl rfl)) rfl) hpsj) (blkOk_by (N := N_law) (sc := defScope s_law) (by decide +kernel)) (fun J H2 l2 j2 wk => ?_))).imp fun v H1 l ⟨p', vs, e, h1, tt, h2, h3⟩ => ⟨tt, ⟨p', vs, e, h1, h2⟩, h3⟩) (fun _ => (R.tupI (vs := []) RA.nil (fun us H1 e => e) (by show 0 ≤ 1000; decide)).imp fun v H1 l ⟨p', e, h⟩ => ⟨[], ⟨p', _, e, h, rfl, fun i a v e => nomatch e⟩, (fun t h => nomatch h), by show 0 ≤ 12; decide⟩)) ?_
    · intro L0 hL
      refine ⟨_, _, _, wk, by omega, fun i H x H' => yAt_le, fun i vs H' => (∃ tt, Rep2 StR tt vs H' ∧ (∀ t ∈ tt, t ∈ ss) ∧ tt.length ≤ i) ∧ H' ps = some (.tup us) ∧ Rep2 StR ss us H', ⟨⟨[], ⟨rfl, fun i a v e => nomatch e⟩, (fun t h => nomatch h), Nat.le_refl _⟩, (Le.new (U := some (u, c)) j2 hL).tup _ _ (l2.tup _ _ hpsj), hrep.tk (Lj.trans (l2.trans (Le.new (U := some (u, c)) j2 hL))).tup⟩, fun i vs H' _ _ h => h.2.1, fun i vs x H' H'' hi l jn jn2 hv ⟨⟨tt, h1, h2, h3⟩, hp', hr'⟩ yy => ?_, fun vs H' l _ hv _ h => ⟨L0, vs, rfl, l2.fresh jj hL, Le.nmv j2 hL, hv, by
        obtain ⟨⟨tt, h1, h2, h3⟩, _⟩ := h
        exact ⟨tt, h1, h2, by omega⟩⟩⟩
      obtain ⟨rfl, hy⟩ := yy
      obtain ⟨t, ht, hs⟩ := hr'.get hy
      refine ⟨_, fun s Hb C cl fp => Tg.name sc_law.nd (i := 22) rfl (.inl rfl), rfl, fun _ => True, fun s Hb C cl fp => RTs.one (RT.cmp op_eq (nomark _) (Pa := In fun i => 0 ≤ i ∧ i < 2) (Pb := Is (.int 0)) (R.callU L.draw hr (by decide) (by rfl) (RA.cons (R.var (i := 1) rfl (.inr (.inl rfl)) rfl) (RA.last R.int)) ?_) R.int fun a b H5 l5 jx ⟨x, e1, _⟩ e2 Q q => by cases e1; cases e2; exact ⟨rfl, q _ H5 (Le.refl _) jx ⟨_, rfl, trivial⟩⟩), fun _ H3 l3 j3 => ⟨⟨tt, h1.tk l3.tup, h2, by omega⟩, l3.tup _ _ hp', hr'.tk l3.tup⟩, fun _ => ⟨_, fun s Hb C cl fp => R.var (i := 22) rfl (.inl rfl) rfl, fun y H3 l3 j3 ey hL3 => ?_⟩⟩
      · rintro vs H3 l3 _ ⟨v, r, rfl, rfl, v', r', rfl, rfl, rfl⟩
        exact ⟨(u, c, 2), rfl, ⟨rfl, by show (0 : Int) < 2; decide, Nat.lt_of_lt_of_le (show (2 : Int).natAbs < 2 ^ 10 by decide) (Nat.pow_le_pow_right (by decide) (by decide))⟩, fun v H2 _ _ h => h⟩
      · have tk := l3.tup.trans (upd_tk (o := .lst (vs ++ [y])) hL3)
        cases ey
        refine ⟨⟨tt ++ [t], (h1.tk tk).app ⟨rfl, fun i' a w e1 e2 => ?_⟩, fun s hs' => ?_, by rw [List.length_append]; show tt.length + 1 ≤ _; omega⟩, tk _ _ hp', hr'.tk tk⟩
        · cases i' with
          | zero => cases e1; cases e2; exact Fz.mv _ _ _ tk hs
          | succ i' => simp at e1
        · rcases List.mem_append.mp hs' with h | h
          · exact h2 s h
          · have : s = t := by simpa using h
            subst this; exact List.mem_of_getElem? ht
    rintro v17 Hk lk jk ⟨tt1, htt1, htm1, htl1⟩
    have Lk := Lj.trans lk
    show S _ _ (LS (some (.ref p)) (some (.ref u)) (some (.int i)) (some (.int d)) (some vc) (some (.ref ps)) (some (.bl thr)) (some (.ref Tp)) (some (.bl (dA pp))) (some (.ref pst)) (some v10) (some (.ref pm)) (some (.ref Lw')) z3 z4 z5 z6 (some v17)) _ _
    refine S.cut (Mid := fun σ' H' => ∃ v17 tt, σ' = LS (some (.ref p)) (some (.ref u)) (some (.int i)) (some (.int d)) (some vc) (some (.ref ps)) (some (.bl thr)) (some (.ref Tp)) (some (.bl (dA pp))) (some (.ref pst)) (some v10) (some (.ref pm)) (some (.ref Lw')) z3 z4 z5 z6 (some v17) ∧ Le (some (u, c)) Hj H' ∧ Jn (some (u, c)) H' ∧ TupR StR tt v17 H' ∧ (∀ t ∈ tt, t ∈ ss) ∧ tt.length ≤ 12 ∧ (Meets d tt ↔ Meets d ss)) (S1.if (U := some (u, c)) (φ := (· = !dA pp)) jk ((RT.not (φ := (· = dA pp)) (RT.is (R.var (i := 8) rfl (.inl rfl) rfl))).imp fun k e => by rw [← e, Bool.not_not]) (fun e Hl ll jl => ?_) (fun e Hl ll jl => S.nil ?_)) ?_
    · cases pp with
      | meet cl => cases e
      | never prs =>
        have hppl := Fz.le ((((l8.trans l9).trans la).trans (lb.trans lc)).trans ((((((ld.trans le).trans lf).trans lg).trans li).trans lj).trans (lk.trans ll))) hpp7
        obtain ⟨T', vb, e', hT', pb, bs, rfl, hpb, hrb⟩ := hppl
        cases e'
        have hbar := hok.1
        have Ll := Lk.trans ll
        refine S.asg (U := some (u, c)) (P := TupR StR (psub ss prs)) sc_law.nd (i := 17) rfl (.inl rfl) jl (R.tupleR (H0 := Hl) (by rfl) B.tuple (R.lc (own := [("_law_at", 23), ("_law_l", 24)]) rfl sc_law.nd (Src.tup (R.ixT (v := .ref pb) hT' rfl (R.var (i := 7) rfl (.inl rfl) rfl) R.int) hpb) (blkOk_by (N := N_law) (sc := defScope s_law) (by decide +kernel))
          (fun J H2 l2 j2 wk => LcK.rep wk (by rw [List.length_map]; exact hrb.1) (by rw [hrb.1]; have := hok.2.1; omega) l2 jl (fun i H x H' => yAt_le) (fun H' l' => (l2.trans l').tup _ _ hpb) (fun i y H' H'' a ha l' j' yy => ?_)))) ?_
        · obtain ⟨rfl, hy⟩ := yy
          obtain ⟨pr, hpr, q1, rfl, hq1⟩ := (hrb.tk (l2.trans l').tup).get hy
          rw [List.getElem?_map, hpr] at ha
          cases ha
          have hlt := (hbar.ok pr (List.mem_of_getElem? hpr)).1
          obtain ⟨w1, hw1, hs1⟩ := (hrep.tk ((Ll.trans l2).trans l').tup).of (List.getElem?_eq_getElem hlt)
          refine ⟨_, fun s Hb C cl fp => Tg.tup rfl hq1 (Tgs.cons (Tg.name sc_law.nd (i := 23) rfl (.inl rfl)) (Tgs.cons (Tg.name sc_law.nd (i := 24) rfl (.inl rfl)) Tgs.nil)), rfl, fun s Hb C cl fp => (R.ixT (((Ll.trans l2).trans l').tup _ _ hps) (atI_nat hw1) (R.var (i := 5) rfl (.inr (.inl rfl)) rfl) (R.var (i := 23) rfl (.inl rfl) rfl)).imp fun v H3 l3 e => ?_⟩
          cases e
          show StR (stp ss pr.1) _ _
          rw [stp_get (List.getElem?_eq_getElem hlt)]
          exact Fz.le l3 hs1
        · rintro vN Hm lm jm hvN
          refine S.nil ⟨vN, psub ss prs, rfl, (lk.trans ll).trans lm, jm, hvN, fun t ht => ?_, by have := hok.2.1; simp [psub]; omega, ⟨fun h => absurd h (bar_no hbar fun s hs => (O.vs s hs).pos), fun h => absurd h hok.2.2⟩⟩
          obtain ⟨pr, hpr, rfl⟩ := List.mem_map.mp ht
          rw [stp_get (List.getElem?_eq_getElem (hbar.ok pr hpr).1)]
          exact List.getElem_mem _
    · have hm : Meets d ss := hM.mp (by cases hd : dA pp with
        | true => rfl
        | false => rw [hd] at e; cases e)
      exact ⟨v17, tt1, rfl, lk.trans ll, jl, Fz.le ll htt1, htm1, htl1, ⟨fun _ => hm, fun h => h.sub htm1⟩⟩
    rintro σ' Hl ⟨v17, tt2, rfl, ll, jl, htt2, htm2, htl2, mt2⟩
    have Ll := Lj.trans ll
    -- some meet as all do
    refine S.if (U := some (u, c)) (φ := (· = false)) jl (RW.pt (RW.and (φ := fun b => b = true → 1 ≤ tt2.length) (ψ := (· = false)) (RT.neNilT (n := 2) (φ := fun vs => vs.length = tt2.length) (Pa := TupR StR tt2) (by decide) un64 ((R.var (i := 17) rfl (.inl rfl) rfl).imp fun v H2 l2 e => by cases e; exact Fz.le l2 htt2) (fun v H2 l2 ⟨p', vs, e, h1, h2⟩ => ⟨p', vs, e, h1, h2.1, fun y hy => by
        obtain ⟨i, hi⟩ := List.mem_iff_getElem?.mp hy
        obtain ⟨s, _, hs⟩ := h2.get hi
        exact Dtm.str3 hs⟩) (fun vs e hb => by cases vs with
          | nil => cases hb
          | cons a b => rw [← e]; exact Nat.succ_pos _)) (fun hb => RW.and1 (RT.reprNe (φ := (· = false)) (R.repr (ψ := fun j => j = true ↔ Meets d tt2) (by rfl) B.repr (R.callP L.meet hr (by decide) (by rfl) (RA.last (R.var (i := 17) rfl (.inl rfl) rfl)) ?_)) (R.reprI (by rfl) B.repr (R.var (i := 8) rfl (.inl rfl) rfl)) (neF mt2))) (fun _ => rfl) (fun _ k h => h))) (fun e => Bool.noConfusion (e : true = false)) fun _ Hm lm jm => S.nil ?_
    · rintro vs H2 l2 _ ⟨v, r, rfl, rfl, rfl⟩
      exact ⟨⟨x, d, tt2⟩, ⟨_, rfl, Fz.le l2 htt2, O.of (hb rfl) htl2 fun t ht => O.vs t (htm2 t ht)⟩, fun v H2 _ _ h => h⟩
    have Lm := Ll.trans lm
    -- the parts
    refine S.if (U := some (u, c)) (φ := (· = false)) jm (RT.cmp op_ne (nomark _) (Pa := Is (.bl (dA pp))) (Pb := Vq fun v => ∃ b, v = .bl b ∧ (b = true ↔ Meets d ss)) (R.var (i := 8) rfl (.inl rfl) rfl) (R.neNil (n := 0) (φ := fun vs => (0 < vs.length ↔ Meets d ss) ∧ ∀ y ∈ vs, y = V.int 1) (ψ := fun b => b = true ↔ Meets d ss) (by decide) un64 (Pa := NLs (some (u, c)) Hm fun vs _ => (0 < vs.length ↔ Meets d ss) ∧ ∀ y ∈ vs, y = V.int 1) (fun v H1 H2 _ l ⟨L, vs, e, h1, h2, h3, h4⟩ => ⟨L, vs, e, h1, h2, l.keep _ _ h2 h3, h4⟩) (R.lc (own := [("_law_one", 25)]) rfl sc_law.nd (Src.newLst (Q := fun lv H => ∃ lss, Rep2 (TupR StR) lss lv H ∧ lss.length ≤ 10 ∧ (∀ tt ∈ lss, Sts x d tt) ∧ (Meets d ss ↔ ∃ tt ∈ lss, Meets d tt)) (R.callU L.parts hr (by decide) (by rfl) (RA.cons (R.var (i := 1) rfl (.inr (.inl rfl)) rfl) (RA.last (R.var (i := 5) rfl (.inr (.inl rfl)) rfl))) ?_)) (blkOk_by (N := N_law) (sc := defScope s_law) (by decide +kernel))
        (fun J H2 l2 j2 ⟨Lp, lv, hLp, nmp, ⟨lss, h1, h2, h3, h4⟩, wk⟩ => LcK.stand (LcK.sel (fun i => @decide (Meets d (lss.getD i [])) (Classical.propDecidable _)) (fun _ => .int 1) wk (by rw [h1.1]; omega) l2 jm (fun i H x H' => yAt_le) (fun H' l' => l'.keep _ _ nmp hLp) (fun i y H' H'' hi l' j' yy => ?_)) (fun vs H' _ e => ?_))) (fun v H1 l ⟨L, vs, e, h1, h2, h3, h4⟩ => ⟨L, vs, e, h3, h4, fun y hy => by rw [h4.2 y hy]; exact Dtm.int⟩) (fun vs h => ?_)) ?_) (fun e => Bool.noConfusion (e : true = false)) fun _ Hn ln jn => S.nil (S.nil ⟨jn, _, _, _, _, _, _, _, _, _, _, _, _, _, _, _, _, rfl⟩)
    · rintro vs H2 l2 j2 ⟨v, r, rfl, rfl, v', r', rfl, rfl, rfl⟩
      exact ⟨⟨u, c, x, d, ss, H2⟩, rfl, ⟨_, rfl, rfl, hS (Lm.trans l2), O⟩, fun v H3 l3 _ ⟨L, lv, lss, e, h0, h1, h2⟩ => ⟨L, lv, e, h1, Le.nmv j2 h0, lss, h2⟩⟩
    · obtain ⟨rfl, hy⟩ := yy
      obtain ⟨tt, htt, hvt⟩ := (h1.tk l'.tup).get hy
      have e1 : lss.getD i [] = tt := by rw [List.getD_eq_getElem?_getD, htt]; rfl
      refine ⟨_, fun s Hb C cl fp => Tg.name sc_law.nd (i := 25) rfl (.inl rfl), rfl, fun s Hb C cl fp => RTs.one (RT.val ((R.callP (P := Vq fun v => ∃ b, v = .bl b ∧ (b = true ↔ Meets d tt)) L.meet hr (by decide) (by rfl) (RA.last (R.var (i := 25) rfl (.inl rfl) rfl)) ?_).imp fun v H3 l3 ⟨b, e, hb⟩ => ⟨b, e, ?_⟩)), fun _ s Hb C cl fp => R.int⟩
      · rintro vs H2 l2 _ ⟨v, r, rfl, rfl, rfl⟩
        exact ⟨⟨x, d, tt⟩, ⟨_, rfl, Fz.le l2 hvt, h3 tt (List.mem_of_getElem? htt)⟩, fun v H2 _ _ h => h⟩
      · rw [e1, Bool.eq_iff_iff, hb]
        exact (@decide_eq_true_iff _ (Classical.propDecidable _)).symm
    · refine ⟨?_, fun y hy => ?_⟩
      · rw [e, h4]
        unfold Evl.given
        rw [List.length_map]
        constructor
        · intro h
          obtain ⟨i, hi⟩ := List.exists_mem_of_length_pos h
          obtain ⟨i1, i2⟩ := List.mem_filter.mp hi
          have i1 := List.mem_range.mp i1
          rw [h1.1] at i1
          refine ⟨lss[i], List.getElem_mem i1, ?_⟩
          have := (@decide_eq_true_iff _ (Classical.propDecidable _)).mp i2
          rwa [List.getD_eq_getElem?_getD, List.getElem?_eq_getElem i1] at this
        · rintro ⟨tt, ht, hm⟩
          obtain ⟨i, hi, rfl⟩ := List.mem_iff_getElem.mp ht
          refine List.length_pos_of_mem (List.mem_filter.mpr ⟨List.mem_range.mpr (by rw [h1.1]; exact hi), (@decide_eq_true_iff _ (Classical.propDecidable _)).mpr ?_⟩)
          rw [List.getD_eq_getElem?_getD, List.getElem?_eq_getElem hi]
          exact hm
      · rw [e] at hy
        unfold Evl.given at hy
        obtain ⟨i, _, rfl⟩ := List.mem_map.mp hy
        rfl
    · cases vs with
      | nil => simpa using h.1
      | cons a b => simpa using h.1
    · rintro a b H5 l5 jx rfl ⟨b1, rfl, hb1⟩ Q q
      refine ⟨rfl, q _ H5 (Le.refl _) jx ⟨_, rfl, ?_⟩⟩
      have : b1 = dA pp := by
        rw [Bool.eq_iff_iff, hb1, hM]
      rw [this]
      simp
  · rintro σ' H2 ⟨j2, x2, x3, x4, x5, x6, x7, x8, x9, y0, y1, y2, y3, y4, y5, y6, y7, rfl⟩
    exact S.ret (U := some (u, c)) j2 R.bl fun v H3 _ _ e => by cases e; exact k H3
end K62
end
section
set_option Elab.async false
set_option linter.all false
set_option maxRecDepth 100000
set_option maxHeartbeats 4000000
namespace K62
open PySem PySem.Spec PyProof.Rows L2
/-! `//` by any divisor that is not zero, however great -/
structure Seer (X : Cx) : Prop where
  base : X.base.NoSeer
  tree : X.prog.given.tree = none
  stk : ∃ l, X.stack = X.env :: l
  gen : X.env.scope.isGenerator = false
  co : X.env.scope.isCoroutine = false
  dep : X.A.depth + 100 < recursionLimit
theorem Seer.room {X : Cx} (z : Seer X) {pins : List (Addr × Obj)} {σ : L2.St} {H : Hp} {s : Shared} (I : Inv X pins σ H s) : PylongRoom (model X.prog X.w) X.A s := by
  obtain ⟨l, e⟩ := z.stk
  exact PylongRoom.of I.nolimit z.dep (SeerAt.of (z.base.keeps I.bk) z.tree (I.ok.frames.trans (congrArg some e)) z.gen z.co I.ok.blt I.ok.glob)
theorem op_fdivZ {X : Cx} (z : Seer X) : OpR X (binaryOp .FloorDiv) (rI (fun _ j => j ≠ 0) fun i j => .int (i.fdiv j)) := by
  intro pins s σ H x y v u Q I rx ry h
  obtain ⟨i, j, rfl, rfl, hc, q⟩ := h
  obtain ⟨t, rfl⟩ := rx
  obtain ⟨t', rfl⟩ := ry
  exact floordiv_int hc ⟨.int (i.fdiv j), H, I.tok _, ⟨_, rfl⟩, q⟩ (.inr (z.room I))
theorem R.fdivZ {X : Cx} {U : UA} {σ : L2.St} {H : Hp} {a b : Expr} {pos : Pos} {i j : Int} (z : Seer X) (hc : j ≠ 0) (ha : R X U a σ H (Is (.int i))) (hb : R X U b σ H (Is (.int j))) : R X U (.BinOp a .FloorDiv b pos) σ H (Is (.int (i.fdiv j))) :=
  R.op (op_fdivZ z) ha hb fun x y H1 l jn hx hy Q q => ⟨i, j, hx, hy, hc, q _ H1 (Le.refl _) jn rfl⟩
end K62
end
section
set_option Elab.async false
set_option linter.all false
set_option maxRecDepth 100000
set_option maxHeartbeats 4000000
set_option exponentiation.threshold 100
namespace K62
open PySem PySem.Spec PyProof.Rows L2
variable {P : Program} {w : World} {K : PySem.W.Frag} {mg : Str → Option Value} {base : Heap}
theorem fdiv_abs {a b : Int} (hb : b ≠ 0) : (a.fdiv b).natAbs ≤ a.natAbs := by
  rcases Int.lt_trichotomy b 0 with h | h | h
  · have e : a.fdiv b = (-a) / (-b) := by
      rw [← Int.fdiv_eq_ediv_of_nonneg (-a) (by omega), Int.neg_fdiv_neg]
    rw [e]
    rcases Int.le_total 0 (-a) with h1 | h1
    · have h2 := Int.ediv_nonneg h1 (show 0 ≤ -b by omega)
      have h3 : -a / -b ≤ -a := Int.ediv_le_self _ h1
      omega
    · have h2 : -a / -b ≤ 0 := Int.ediv_nonpos_of_nonpos_of_neg h1 (by omega)
      have h3 : -a ≤ -a / -b := by
        have := Int.ediv_le_ediv (a := -a) (b := -a) (show 0 < -b by omega) (Int.le_refl _)
        refine (Int.le_ediv_iff_mul_le (by omega)).mpr ?_
        have : (-a) * (-b) ≤ (-a) * 1 := Int.mul_le_mul_of_nonpos_left h1 (by omega)
        omega
      omega
  · exact absurd h hb
  · rw [Int.fdiv_eq_ediv_of_nonneg a (by omega)]
    rcases Int.le_total 0 a with h1 | h1
    · have h2 := Int.ediv_nonneg h1 (show 0 ≤ b by omega)
      have h3 : a / b ≤ a := Int.ediv_le_self _ h1
      omega
    · have h2 : a / b ≤ 0 := Int.ediv_nonpos_of_nonpos_of_neg h1 h
      have h3 : a ≤ a / b := by
        refine (Int.le_ediv_iff_mul_le h).mpr ?_
        have : a * b ≤ a * 1 := Int.mul_le_mul_of_nonpos_left h1 (by omega)
        omega
      omega
theorem bd_addk {a b c n : Nat} {r s : Row} {k : Int} (hr : Bd a r) (hk : k.natAbs < 2 ^ b) (hs : Bd c s) (h1 : a ≤ b + c) (hn : b + c + 1 ≤ n) : Bd n (addk r k s) := by
  intro x hx
  have h := addk_ent (A := 2 ^ a - 1) (B := 2 ^ c - 1) (a := r) (b := s) (k := k) (fun y hy => by have := hr y hy; omega) (fun y hy => by have := hs y hy; omega) x hx
  have h2 : k.natAbs * (2 ^ c - 1) ≤ 2 ^ b * 2 ^ c := Nat.mul_le_mul (Nat.le_of_lt hk) (Nat.sub_le _ _)
  rw [← Nat.pow_add] at h2
  have h3 : 2 ^ a ≤ 2 ^ (b + c) := Nat.pow_le_pow_right (by decide) h1
  have h4 : 2 ^ (b + c + 1) ≤ 2 ^ n := Nat.pow_le_pow_right (by decide) hn
  have h5 := Nat.pow_succ 2 (b + c)
  have h6 : 0 < 2 ^ a := Nat.pow_pos (by decide)
  omega
/-- bits of the rows of a corner form -/
def Gc : Nat → Nat
  | 0 => 196100
  | 1 => 168090
  | _ => 84045
/-- bits of the least cell on the way -/
def Fc : Nat → Nat
  | 0 => 7001
  | 1 => 203102
  | 2 => 371193
  | _ => 455239
theorem FcGc : ∀ i : Nat, i < 3 → Fc i ≤ Fc i + Gc i ∧ Fc i + Gc i + 1 ≤ Fc (i + 1) ∧ Fc i ≤ 400000 ∧ Gc i ≤ 400000 := by decide
structure Cnr (d : Nat) (corners : List Row) : Prop where
  len : corners.length = d
  lens : Lens d corners
  diag : ∀ (i : Nat) (r : Row), corners[i]? = some r → r.getD i 0 ≠ 0
  bd : ∀ (i : Nat) (r : Row), corners[i]? = some r → Bd (Gc i) r
abbrev sp_least_cell : Sp := FSp (α := Nat × Row × List Row) nU (fun x vs H => ∃ v w, vs = [v, w] ∧ TpI x.2.1 v H ∧ TupR TpI x.2.2 w H ∧ x.1 ≤ 3 ∧ x.2.1.length = x.1 ∧ Bd 7001 x.2.1 ∧ Cnr x.1 x.2.2) (fun _ => Vq fun v => ∃ T, v = .ref T)
theorem ok_least_cell (hN : base.NoSeer) (hT : P.given.tree = none) (F : DefAt K mg "least_cell" s_least_cell ps_least_cell) (B : Bln mg) (C1 : Callee P w K mg base 1 "cell_sum" ps_cell_sum sp_cell_sum) : Callee P w K mg base 40 "least_cell" ps_least_cell sp_least_cell := by
  refine callee_of F sc_least_cell (fun vs H Q E h => ?_) fun f cdv A outer s H vs Q E hr h => ?_
  · obtain ⟨a, _, ⟨v, w, rfl, _⟩, _⟩ := h; rfl
  obtain ⟨⟨d, cell, corners⟩, _, ⟨v, w, rfl, ⟨pc, rfl, hpc⟩, ⟨p, us, rfl, hp, hrep⟩, d3, hcl, hcb, hC⟩, k⟩ := h
  have d3 : d ≤ 3 := d3
  have hcl : cell.length = d := hcl
  have hC : Cnr d corners := hC
  have z : Seer (cxOf CX0 P w K mg base N_least_cell "least_cell" (defScope s_least_cell) f cdv A outer s H E).nox := ⟨hN, hT, ⟨outer, rfl⟩, rfl, rfl, by have := hr.dp; show (A.deeper _).depth + 100 < _; omega⟩
  refine S.asgI (U := none) (v := .ref pc) sc_least_cell.nd (i := 2) rfl (.inl rfl) trivial (R.var (i := 0) rfl (.inl rfl) rfl) fun H1 l1 _ => ?_
  show S _ _ [some (.ref pc), some (.ref p), some (.ref pc), none, none] _ _
  refine S.cut (Mid := fun σ' H' => ∃ q x3 x4, σ' = [some (.ref pc), some (.ref p), some (.ref q), x3, x4] ∧ Le none H H') (S1.for (U := none) (Src.enum (b1 := false) (by rfl) B.enumerate (R.var (i := 1) rfl (.inl rfl) rfl) (l1.tup _ _ hp) (fun z => Bool.noConfusion z)) trivial PassesOwn.never rfl fun J H2 l2 _ wk => ⟨_, _, _, wk,
    fun i σ' H' => ∃ q x3 x4 found, σ' = [some (.ref pc), some (.ref p), some (.ref q), x3, x4] ∧ Le none H H' ∧ TpI found (.ref q) H' ∧ found.length = d ∧ Bd (Fc i) found, ⟨pc, none, none, cell, rfl, l1.trans l2, ⟨pc, rfl, (l1.trans l2).tup _ _ hpc⟩, hcl, hcb⟩, fun i σ' H' _ ⟨_, _, _, _, _, l, _⟩ => l.tup _ _ hp, ?_, ?_⟩) ?_
  · rintro i v σ' H' H'' hi ⟨q, x3, x4, found, rfl, lH, ⟨q', e, hq⟩, hfl, hfb⟩ ⟨Te, y, rfl, hTe, rfl, hy⟩
    cases e
    have ln := Le.new (U := none) (o := .tup [.int i, y]) trivial hTe
    have lH2 := lH.trans ln
    obtain ⟨t, ht, pt, rfl, hpt⟩ := (hrep.tk lH2.tup).get hy
    have htm := List.mem_of_getElem? ht
    have hid : i < d := by rw [← hC.len]; exact (List.getElem?_eq_some_iff.mp ht).1
    have htl : t.length = d := hC.lens t htm
    obtain ⟨g1, g2, g3, g4⟩ := FcGc i (by omega)
    refine ⟨_, Tg.tup rfl upd_same (Tgs.cons (Tg.name sc_least_cell.nd (i := 3) rfl (.inl rfl)) (Tgs.cons (Tg.name sc_least_cell.nd (i := 4) rfl (.inl rfl)) Tgs.nil)), ?_⟩
    have hq2 := ln.tup _ _ hq
    generalize upd H' Te (.tup [.int i, .ref pt]) = H2' at *
    show S _ _ [some (.ref pc), some (.ref p), some (.ref q), some (.int i), some (.ref pt)] _ _
    have gx : ∀ {r : Row}, r.length = d → atI (r.map V.int) (i : Int) = some (V.int (r.getD i 0)) := fun {r} h => atI_nat (j := i) (by rw [List.getElem?_map, List.getElem?_eq_getElem (by omega), List.getD_eq_getElem?_getD, List.getElem?_eq_getElem (by omega)]; rfl)
    have nz := hC.diag i t ht
    have kb : (-((found.getD i 0).fdiv (t.getD i 0))).natAbs < 2 ^ Fc i := by
      rw [Int.natAbs_neg]
      refine Nat.lt_of_le_of_lt (fdiv_abs nz) (hfb _ ?_)
      rw [List.getD_eq_getElem?_getD, List.getElem?_eq_getElem (by omega)]
      exact List.getElem_mem _
    refine S.asg (U := none) (P := TpI (addk found (-((found.getD i 0).fdiv (t.getD i 0))) t)) sc_least_cell.nd (i := 2) rfl (.inl rfl) trivial (R.callP C1 hr (by decide) (by rfl) (RA.cons (R.var (i := 2) rfl (.inl rfl) rfl) (RA.cons (R.var (i := 4) rfl (.inl rfl) rfl) (RA.last (R.neg (R.fdivZ z nz (R.ixT hq2 (gx hfl) (R.var (i := 2) rfl (.inl rfl) rfl) (R.var (i := 3) rfl (.inl rfl) rfl)) (R.ixT hpt (gx htl) (R.var (i := 4) rfl (.inl rfl) rfl) (R.var (i := 3) rfl (.inl rfl) rfl))))))) ?_) ?_
    · rintro vs H8 l8 _ ⟨v, r, rfl, rfl, v', r', rfl, rfl, v'', r'', rfl, rfl, rfl⟩
      exact ⟨(found, t, _), ⟨_, _, rfl, ⟨q, rfl, l8.tup _ _ hq2⟩, ⟨pt, rfl, l8.tup _ _ hpt⟩, by show found.length ≤ 1000; omega, Nat.lt_of_lt_of_le kb (Nat.pow_le_pow_right (by decide) g3), fun y hy => Nat.lt_of_lt_of_le (hC.bd i t ht y hy) (Nat.pow_le_pow_right (by decide) g4)⟩, fun v H9 _ _ e => e⟩
    · rintro v H8 l8 _ ⟨q8, rfl, hq8⟩
      exact S.nil ⟨q8, _, _, _, rfl, lH2.trans l8, ⟨q8, rfl, hq8⟩, by rw [addk_len]; omega, bd_addk hfb kb (hC.bd i t ht) g1 g2⟩
  · rintro σ' H' ⟨q, x3, x4, found, rfl, lH, _⟩
    exact ⟨q, x3, x4, rfl, lH⟩
  rintro σ' H' ⟨q, x3, x4, rfl, lH⟩
  exact S.ret (U := none) (P := Is (.ref q)) trivial (R.var (i := 2) rfl (.inl rfl) rfl) fun v H6 l6 _ e => k v H6 (lH.trans l6) trivial ⟨q, e⟩
end K62
end
section
set_option linter.all false
set_option exponentiation.threshold 100
/-! The corner form: one column's pass, its measure and its bounds (three rows at most). -/
namespace K62
/-- one element -/
structure Fm (x m q r : Int) : Prop where
  eq : x = m * q + r
  lt : r.natAbs < m.natAbs
  sg : (0 < m → 0 ≤ r) ∧ (m < 0 → r ≤ 0)
theorem fm_of (x : Int) {m : Int} (h : m ≠ 0) : Fm x m (x.fdiv m) (x.fmod m) := by
  have e : x = m * x.fdiv m + x.fmod m := (Int.mul_fdiv_add_fmod x m).symm
  rcases Int.lt_trichotomy m 0 with h1 | h1 | h1
  · have e1 : x.fmod m = -((-x).fmod (-m)) := by rw [Int.neg_fmod_neg]; omega
    have a := Int.fmod_nonneg_of_pos (-x) (show 0 < -m by omega)
    have b := Int.fmod_lt_of_pos (-x) (show 0 < -m by omega)
    exact ⟨e, by omega, ⟨fun z => by omega, fun _ => by omega⟩⟩
  · exact absurd h1 h
  · have a := Int.fmod_nonneg_of_pos x h1
    have b := Int.fmod_lt_of_pos x h1
    exact ⟨e, by omega, ⟨fun _ => a, fun z => by omega⟩⟩
/-- |q| |m| ≤ 2 |x|, if |m| ≤ |x| or x = 0 -/
theorem Fm.big {x m q r : Int} (h : Fm x m q r) (hx : x ≠ 0 → m.natAbs ≤ x.natAbs) : q.natAbs * m.natAbs ≤ 2 * x.natAbs := by
  have e : m * q = x - r := by have := h.eq; omega
  have e2 : q.natAbs * m.natAbs = (x - r).natAbs := by rw [← e, Int.natAbs_mul, Nat.mul_comm]
  have h1 := h.lt
  have h2 := h.sg
  by_cases z : x = 0
  · subst z
    have : q = 0 := by
      refine Classical.byContradiction fun hq => ?_
      have : m.natAbs * 1 ≤ m.natAbs * q.natAbs := Nat.mul_le_mul_left _ (by omega)
      rw [Nat.mul_comm m.natAbs q.natAbs] at this
      omega
    subst this; simp
  · have := hx z
    omega
/-- of one sign -/
theorem Fm.same {x m q r : Int} (h : Fm x m q r) (hs : (0 ≤ x ∧ 0 < m) ∨ (x ≤ 0 ∧ m < 0)) : x.natAbs = m.natAbs * q.natAbs + r.natAbs := by
  have e := h.eq
  have h1 := h.lt
  have h2 := h.sg
  rcases hs with ⟨a, b⟩ | ⟨a, b⟩
  · have hr := h2.1 b
    have hq : 0 ≤ q := by
      refine Classical.byContradiction fun z => ?_
      have : m * q ≤ m * (-1) := Int.mul_le_mul_of_nonneg_left (by omega) (by omega)
      omega
    have hm := Int.mul_nonneg (Int.le_of_lt b) hq
    have e3 : (m * q).natAbs = m.natAbs * q.natAbs := Int.natAbs_mul m q
    omega
  · have hr := h2.2 b
    have hq : 0 ≤ q := by
      refine Classical.byContradiction fun z => ?_
      have : m * q ≥ m * (-1) := Int.mul_le_mul_of_nonpos_left (by omega) (by omega)
      omega
    have hm := Int.mul_nonneg (show 0 ≤ -m by omega) hq
    rw [Int.neg_mul] at hm
    have e3 : (m * q).natAbs = m.natAbs * q.natAbs := Int.natAbs_mul m q
    omega
def S3 (x : Nat → Int) : Nat := (x 0).natAbs + (x 1).natAbs + (x 2).natAbs
def SS (x : Nat → Int) : Prop := (∀ k, k < 3 → 0 ≤ x k) ∨ (∀ k, k < 3 → x k ≤ 0)
structure Cpass (i L : Nat) (m : Int) (x y : Nat → Int) : Prop where
  m0 : m ≠ 0
  iL : i ≤ L
  L3 : L < 3
  xL : x L = m
  yL : y L = m
  yk : ∀ k, k < 3 → k ≠ L → y k = (x k).fmod m
  low : ∀ k, k < 3 → x k ≠ 0 → m.natAbs ≤ (x k).natAbs
  zero : ∀ k, k < i → x k = 0
theorem Cpass.lt3 {i L : Nat} {m : Int} {x y : Nat → Int} (h : Cpass i L m x y) (k : Nat) (hk : k < 3) : (y k).natAbs ≤ (x k).natAbs ∧ (k ≠ L → x k ≠ 0 → (y k).natAbs < (x k).natAbs) := by
  by_cases e : k = L
  · subst e; rw [h.xL, h.yL]; exact ⟨Nat.le_refl _, fun z => absurd rfl z⟩
  · rw [h.yk k hk e]
    have f := fm_of (x k) h.m0
    by_cases z : x k = 0
    · rw [z]; simp
    · have := h.low k hk z
      have := f.lt
      exact ⟨by omega, fun _ _ => by omega⟩
theorem Cpass.sum_lt {i L : Nat} {m : Int} {x y : Nat → Int} (h : Cpass i L m x y) (hn : ∃ k, k < 3 ∧ k ≠ L ∧ x k ≠ 0) : S3 y < S3 x := by
  obtain ⟨k, hk, h1, h2⟩ := hn
  have a0 := h.lt3 0 (by omega)
  have a1 := h.lt3 1 (by omega)
  have a2 := h.lt3 2 (by omega)
  unfold S3
  have : k = 0 ∨ k = 1 ∨ k = 2 := by omega
  rcases this with rfl | rfl | rfl
  · have := a0.2 h1 h2; omega
  · have := a1.2 h1 h2; omega
  · have := a2.2 h1 h2; omega
theorem Cpass.sum_le {i L : Nat} {m : Int} {x y : Nat → Int} (h : Cpass i L m x y) : S3 y ≤ S3 x := by
  have a0 := h.lt3 0 (by omega)
  have a1 := h.lt3 1 (by omega)
  have a2 := h.lt3 2 (by omega)
  unfold S3
  omega
theorem Cpass.ss {i L : Nat} {m : Int} {x y : Nat → Int} (h : Cpass i L m x y) : SS y := by
  rcases Int.lt_trichotomy m 0 with hm | hm | hm
  · refine .inr fun k hk => ?_
    by_cases e : k = L
    · subst e; rw [h.yL]; omega
    · rw [h.yk k hk e]; exact (fm_of (x k) h.m0).sg.2 hm
  · exact absurd hm h.m0
  · refine .inl fun k hk => ?_
    by_cases e : k = L
    · subst e; rw [h.yL]; omega
    · rw [h.yk k hk e]; exact (fm_of (x k) h.m0).sg.1 hm
theorem Cpass.yle {i L : Nat} {m : Int} {x y : Nat → Int} (h : Cpass i L m x y) (k : Nat) (hk : k < 3) : (y k).natAbs ≤ m.natAbs ∧ (k < i → y k = 0) := by
  by_cases e : k = L
  · subst e; rw [h.yL]; exact ⟨Nat.le_refl _, fun z => absurd z (by have := h.iL; omega)⟩
  · rw [h.yk k hk e]
    exact ⟨Nat.le_of_lt (fm_of (x k) h.m0).lt, fun z => by rw [h.zero k z]; simp⟩
theorem Cpass.sum_m {i L : Nat} {m : Int} {x y : Nat → Int} (h : Cpass i L m x y) : S3 y ≤ (3 - i) * m.natAbs := by
  have a0 := h.yle 0 (by omega)
  have a1 := h.yle 1 (by omega)
  have a2 := h.yle 2 (by omega)
  have := h.iL
  have := h.L3
  unfold S3
  have : i = 0 ∨ i = 1 ∨ i = 2 := by omega
  rcases this with rfl | rfl | rfl
  · omega
  · rw [a0.2 (by omega)]; simp; omega
  · rw [a0.2 (by omega), a1.2 (by omega)]; simp; omega
def qs (x : Nat → Int) (m : Int) (L : Nat) (k : Nat) : Nat := if k = L then 0 else ((x k).fdiv m).natAbs
def QT (x : Nat → Int) (m : Int) (L : Nat) : Nat := qs x m L 0 + qs x m L 1 + qs x m L 2
theorem Cpass.same {i L : Nat} {m : Int} {x y : Nat → Int} (h : Cpass i L m x y) (hs : SS x) : S3 x = S3 y + m.natAbs * QT x m L := by
  have hsg : ∀ k, k < 3 → (0 ≤ x k ∧ 0 < m) ∨ (x k ≤ 0 ∧ m < 0) := fun k hk => by
    have h0 := h.m0
    have hL := h.xL
    rcases hs with z | z
    · have := z L h.L3; have := z k hk; omega
    · have := z L h.L3; have := z k hk; omega
  have el : ∀ k, k < 3 → (x k).natAbs = m.natAbs * qs x m L k + (y k).natAbs := fun k hk => by
    unfold qs
    by_cases e : k = L
    · subst e; rw [if_pos rfl, h.xL, h.yL]; omega
    · rw [if_neg e, h.yk k hk e]; exact (fm_of (x k) h.m0).same (hsg k hk)
  unfold S3 QT
  rw [el 0 (by omega), el 1 (by omega), el 2 (by omega), Nat.mul_add, Nat.mul_add]
  omega
theorem Cpass.big {i L : Nat} {m : Int} {x y : Nat → Int} (h : Cpass i L m x y) (k : Nat) (hk : k < 3) : qs x m L k * m.natAbs ≤ 2 * (x k).natAbs := by
  unfold qs
  by_cases e : k = L
  · rw [if_pos e]; omega
  · rw [if_neg e]; exact (fm_of (x k) h.m0).big (h.low k hk)
/-- the bound's growth in one pass: A * (1 + QT) * S' ^ n -/
theorem Cpass.pot1 {i L n : Nat} {m : Int} {x y : Nat → Int} (h : Cpass i L m x y) (hn : n + 1 = 3 - i) (hs : SS x) : (1 + QT x m L) * S3 y ^ (n + 1) ≤ S3 x ^ (n + 1) := by
  rw [h.same hs, Nat.mul_comm m.natAbs]
  exact bern (by rw [hn]; exact h.sum_m)
theorem Cpass.pot0 {i L n : Nat} {m : Int} {x y : Nat → Int} (h : Cpass i L m x y) (hn : n + 1 = 3 - i) : (1 + QT x m L) * S3 y ^ (n + 1) ≤ 7 * S3 x ^ (n + 1) := by
  have h1 : QT x m L * m.natAbs ≤ 2 * S3 x := by
    have b0 := h.big 0 (by omega)
    have b1 := h.big 1 (by omega)
    have b2 := h.big 2 (by omega)
    unfold QT S3
    rw [Nat.add_mul, Nat.add_mul]
    omega
  have h2 : (1 + QT x m L) * S3 y ≤ 7 * S3 x := by
    have a1 : QT x m L * S3 y ≤ QT x m L * (3 * m.natAbs) := Nat.mul_le_mul_left _ (Nat.le_trans h.sum_m (Nat.mul_le_mul_right _ (by omega)))
    have a2 : QT x m L * (3 * m.natAbs) = 3 * (QT x m L * m.natAbs) := by rw [Nat.mul_left_comm]
    have a3 := h.sum_le
    rw [Nat.add_mul, Nat.one_mul]
    omega
  rw [Nat.pow_succ, Nat.pow_succ, Nat.mul_comm (S3 y ^ n), ← Nat.mul_assoc]
  refine Nat.le_trans (Nat.mul_le_mul h2 (Nat.pow_le_pow_left h.sum_le n)) ?_
  rw [Nat.mul_assoc, Nat.mul_comm (S3 x) (S3 x ^ n)]
  exact Nat.le_refl _
end K62
end
section
set_option linter.all false
set_option exponentiation.threshold 100
/-! The corner form: matrices. -/
namespace K62
def gg (left : List Row) (k i : Nat) : Int := (left.getD k []).getD i 0
def colx (i : Nat) (left : List Row) : Nat → Int := fun k => if i ≤ k then gg left k i else 0
/-- bits of the rows on the way -/
def Ab : Nat → Nat
  | 0 => 7000
  | 1 => 28010
  | _ => 84035
structure Cf (d i : Nat) (left : List Row) (A : Nat) : Prop where
  len : left.length = d
  lens : Lens d left
  ker : ∀ v : Row, v.length = d → (∀ s ∈ left, dot s v = 0) → ∀ y ∈ v, y = 0
  tri : ∀ k j, k < d → j < k → j < i → gg left k j = 0
  piv : ∀ k, k < i → k < d → gg left k k ≠ 0
  bdl : ∀ (k : Nat) (r : Row), k < i → left[k]? = some r → ∀ y ∈ r, y.natAbs ≤ 2 ^ Ab (k + 1)
  ent : ∀ (k : Nat) (r : Row), i ≤ k → left[k]? = some r → ∀ y ∈ r, y.natAbs ≤ A
theorem row_of {left : List Row} {k : Nat} (h : k < left.length) : left[k]? = some (left.getD k []) := by
  rw [List.getD_eq_getElem?_getD, List.getElem?_eq_getElem h]; rfl
theorem gg_of {left : List Row} {k i : Nat} {r : Row} (h : left[k]? = some r) : gg left k i = r.getD i 0 := by
  unfold gg; rw [List.getD_eq_getElem?_getD (l := left), h]; rfl
theorem addk_getD {a b : Row} {k : Int} {i : Nat} (h : a.length = b.length) : (addk a k b).getD i 0 = a.getD i 0 + k * b.getD i 0 := by
  by_cases hi : i < a.length
  · rw [List.getD_eq_getElem?_getD, addk_get hi (by omega), List.getD_eq_getElem?_getD, List.getD_eq_getElem?_getD, List.getElem?_eq_getElem hi, List.getElem?_eq_getElem (by omega)]; rfl
  · rw [List.getD_eq_getElem?_getD, List.getD_eq_getElem?_getD, List.getD_eq_getElem?_getD, List.getElem?_eq_none (by rw [addk_len]; omega), List.getElem?_eq_none (by omega), List.getElem?_eq_none (by omega)]; simp
def rowP (left0 : List Row) (i L k : Nat) (r : Row) : Row := if k ≠ L ∧ gg left0 k i ≠ 0 then addk r (-((gg left0 k i).fdiv (gg left0 L i))) (left0.getD L []) else r
def Mid (left0 : List Row) (i L t : Nat) (left : List Row) : Prop := ∀ k : Nat, left[k]? = (left0[k]?).map fun r => if i ≤ k ∧ k < i + t then rowP left0 i L k r else r
theorem Mid.start (left0 : List Row) (i L : Nat) : Mid left0 i L 0 left0 := fun k => by
  cases left0[k]? with
  | none => rfl
  | some r => rw [Option.map_some, if_neg (by omega)]
theorem Mid.len {left0 left : List Row} {i L t : Nat} (h : Mid left0 i L t left) : left.length = left0.length := by
  have a := h left.length
  have b := h left0.length
  rw [List.getElem?_eq_none (Nat.le_refl left.length)] at a
  rw [List.getElem?_eq_none (Nat.le_refl left0.length)] at b
  have a' := List.getElem?_eq_none_iff.mp (Option.map_eq_none_iff.mp a.symm)
  have b' := List.getElem?_eq_none_iff.mp b
  omega
/-- rows not come to yet, and the least one, stand -/
theorem Mid.still {left0 left : List Row} {i L t k : Nat} (h : Mid left0 i L t left) (hk : k < i ∨ i + t ≤ k ∨ k = L) : left[k]? = left0[k]? := by
  rw [h k]
  cases left0[k]? with
  | none => rfl
  | some r =>
    rw [Option.map_some]
    by_cases e : i ≤ k ∧ k < i + t
    · rw [if_pos e]; unfold rowP; rw [if_neg (by omega)]
    · rw [if_neg e]
theorem Mid.same {left0 left : List Row} {i L t : Nat} (h : Mid left0 i L t left) (hs : i + t = L ∨ gg left0 (i + t) i = 0) : Mid left0 i L (t + 1) left := fun k => by
  rw [h k]
  cases left0[k]? with
  | none => rfl
  | some r =>
    rw [Option.map_some, Option.map_some]
    by_cases e : k = i + t
    · subst e
      rw [if_neg (by omega), if_pos (by omega)]
      unfold rowP
      rw [if_neg (fun z => hs.elim (fun q => z.1 q) fun q => z.2 q)]
    · by_cases e1 : i ≤ k ∧ k < i + t
      · rw [if_pos e1, if_pos (by omega)]
      · rw [if_neg e1, if_neg (by omega)]
theorem Mid.turn {left0 left : List Row} {i L t : Nat} {r : Row} (h : Mid left0 i L t left) (h1 : i + t ≠ L) (h2 : gg left0 (i + t) i ≠ 0) (hr : left0[i + t]? = some r) : Mid left0 i L (t + 1) (left.set (i + t) (addk r (-((gg left0 (i + t) i).fdiv (gg left0 L i))) (left0.getD L []))) := fun k => by
  by_cases e : k = i + t
  · subst e
    have hl : i + t < left.length := by rw [h.len]; exact (List.getElem?_eq_some_iff.mp hr).1
    rw [List.getElem?_set_self hl, hr, Option.map_some, if_pos (by omega)]
    unfold rowP
    rw [if_pos ⟨h1, h2⟩]
  · rw [List.getElem?_set_ne (fun z => e z.symm), h k]
    cases left0[k]? with
    | none => rfl
    | some r' =>
      rw [Option.map_some, Option.map_some]
      by_cases e1 : i ≤ k ∧ k < i + t
      · rw [if_pos e1, if_pos (by omega)]
      · rw [if_neg e1, if_neg (by omega)]
theorem Cf.cpass {d i L A : Nat} {left0 left : List Row} (C : Cf d i left0 A) (d3 : d ≤ 3) (iL : i ≤ L) (Ld : L < d) (m0 : gg left0 L i ≠ 0) (low : ∀ k, i ≤ k → k < d → gg left0 k i ≠ 0 → (gg left0 L i).natAbs ≤ (gg left0 k i).natAbs) (M : Mid left0 i L (d - i) left) : Cpass i L (gg left0 L i) (colx i left0) (colx i left) := by
  have hl := M.len
  have out : ∀ {l : List Row} {k}, l.length = d → ¬ k < d → gg l k i = 0 := fun {l k} h1 h2 => by
    unfold gg; rw [List.getD_eq_getElem?_getD (l := l), List.getElem?_eq_none (by omega)]; simp
  refine ⟨m0, iL, by omega, by unfold colx; rw [if_pos iL], ?_, fun k hk hkL => ?_, fun k hk hx => ?_, fun k hk => by unfold colx; rw [if_neg (by omega)]⟩
  · unfold colx; rw [if_pos iL]
    have e := M.still (k := L) (.inr (.inr rfl))
    rw [row_of (left := left0) (by rw [C.len]; omega)] at e
    rw [gg_of e]; rfl
  · unfold colx
    by_cases e : i ≤ k
    · rw [if_pos e, if_pos e]
      by_cases hd : k < d
      · have e1 := M k
        have e0 := row_of (left := left0) (k := k) (by rw [C.len]; omega)
        rw [e0, Option.map_some, if_pos (by omega)] at e1
        rw [gg_of e1]
        unfold rowP
        by_cases z : gg left0 k i = 0
        · rw [if_neg (fun q => q.2 z), z]
          have : (left0.getD k []).getD i 0 = 0 := z
          rw [this]; simp
        · rw [if_pos ⟨hkL, z⟩, addk_getD (by rw [C.lens _ (List.mem_of_getElem? e0), C.lens _ (List.mem_of_getElem? (row_of (left := left0) (k := L) (by rw [C.len]; omega)))])]
          have f := Int.mul_fdiv_add_fmod (gg left0 k i) (gg left0 L i)
          show gg left0 k i + -(gg left0 k i).fdiv (gg left0 L i) * gg left0 L i = _
          rw [Int.neg_mul, Int.mul_comm]
          omega
      · rw [out C.len hd, out (by rw [hl, C.len]) hd]; simp
    · rw [if_neg e, if_neg e]; simp
  · unfold colx at hx ⊢
    by_cases e : i ≤ k
    · rw [if_pos e] at hx ⊢
      by_cases hd : k < d
      · exact low k e hd hx
      · exact absurd (out C.len hd) hx
    · rw [if_neg e] at hx; exact absurd rfl hx
theorem Cf.pass {d i L A : Nat} {left0 left : List Row} (C : Cf d i left0 A) (d3 : d ≤ 3) (iL : i ≤ L) (Ld : L < d) (m0 : gg left0 L i ≠ 0) (M : Mid left0 i L (d - i) left) : Cf d i left (A * (1 + QT (colx i left0) (gg left0 L i) L)) := by
  have hl := M.len
  have eL := row_of (left := left0) (k := L) (by rw [C.len]; omega)
  have lL := C.lens _ (List.mem_of_getElem? eL)
  -- a row of the new one
  have rows : ∀ (k : Nat) s, left[k]? = some s → ∃ r, left0[k]? = some r ∧ ((k < i ∧ s = r) ∨ (i ≤ k ∧ s = rowP left0 i L k r)) := fun k s hs => by
    have e := M k
    rw [hs] at e
    obtain ⟨r, hr, e2⟩ := Option.map_eq_some_iff.mp e.symm
    have hk : k < d := by rw [← C.len]; exact (List.getElem?_eq_some_iff.mp hr).1
    refine ⟨r, hr, ?_⟩
    by_cases z : i ≤ k
    · rw [if_pos (by omega)] at e2; exact .inr ⟨z, e2.symm⟩
    · rw [if_neg (by omega)] at e2; exact .inl ⟨by omega, e2.symm⟩
  have plen : ∀ (k : Nat) r, left0[k]? = some r → (rowP left0 i L k r).length = d := fun k r hr => by
    have := C.lens r (List.mem_of_getElem? hr)
    unfold rowP
    split
    · rw [addk_len, this, lL, Nat.min_self]
    · exact this
  refine ⟨by rw [hl, C.len], fun s hs => ?_, fun v hv hz => ?_, fun k j hk hj hi => ?_, fun k hk hd => ?_, fun k r hk hr => ?_, fun k s hk hs y hy => ?_⟩
  · obtain ⟨k, hk⟩ := List.mem_iff_getElem?.mp hs
    obtain ⟨r, hr, ⟨_, rfl⟩ | ⟨_, rfl⟩⟩ := rows k s hk
    · exact C.lens _ (List.mem_of_getElem? hr)
    · exact plen k r hr
  · refine C.ker v hv fun s hs => ?_
    obtain ⟨k, hk⟩ := List.mem_iff_getElem?.mp hs
    have zL : dot (left0.getD L []) v = 0 := hz _ (List.mem_of_getElem? (i := L) (by rw [M.still (.inr (.inr rfl))]; exact eL))
    have hkd : k < d := by rw [← C.len]; exact (List.getElem?_eq_some_iff.mp hk).1
    have z := hz (left.getD k []) (List.mem_of_getElem? (row_of (by rw [hl, C.len]; exact hkd)))
    obtain ⟨r, hr, ⟨_, e⟩ | ⟨_, e⟩⟩ := rows k _ (row_of (by rw [hl, C.len]; exact hkd))
    · rw [hk] at hr; cases hr; rw [e] at z; exact z
    · rw [hk] at hr; cases hr
      rw [e] at z
      unfold rowP at z
      split at z
      · rw [dot_addk_l _ (by rw [C.lens s hs, lL]), zL] at z; omega
      · exact z
  · have hs := row_of (left := left) (k := k) (by rw [hl, C.len]; exact hk)
    obtain ⟨r, hr, ⟨h1, e⟩ | ⟨h1, e⟩⟩ := rows k _ hs
    · rw [gg_of hs, e, ← gg_of hr]; exact C.tri k j hk hj hi
    · rw [gg_of hs, e]
      have t0 := C.tri k j hk hj hi
      rw [gg_of hr] at t0
      unfold rowP
      split
      · rw [addk_getD (by rw [C.lens r (List.mem_of_getElem? hr), lL]), t0]
        have t1 := C.tri L j Ld (by omega) hi
        rw [gg_of eL] at t1
        rw [t1]; simp
      · exact t0
  · have e := M.still (k := k) (.inl hk)
    have := C.piv k hk hd
    rw [row_of (left := left0) (by rw [C.len]; exact hd)] at e
    rw [gg_of e]; exact this
  · rw [M.still (.inl hk)] at hr; exact C.bdl k r hk hr
  · obtain ⟨r, hr, ⟨h1, e⟩ | ⟨h1, e⟩⟩ := rows k s hs
    · exact absurd h1 (by omega)
    · have er := C.ent k r hk hr
      subst e
      unfold rowP at hy
      split at hy
      · rename_i hc
        have h2 := addk_ent er (C.ent L _ iL eL) y hy
        rw [Int.natAbs_neg] at h2
        have hkd : k < d := by rw [← C.len]; exact (List.getElem?_eq_some_iff.mp hr).1
        have h3 : ((gg left0 k i).fdiv (gg left0 L i)).natAbs ≤ QT (colx i left0) (gg left0 L i) L := by
          have e3 : qs (colx i left0) (gg left0 L i) L k = ((gg left0 k i).fdiv (gg left0 L i)).natAbs := by
            unfold qs colx; rw [if_neg hc.1, if_pos hk]
          rw [← e3]
          unfold QT
          have : k = 0 ∨ k = 1 ∨ k = 2 := by omega
          rcases this with rfl | rfl | rfl <;> omega
        have h4 := Nat.mul_le_mul_right A h3
        rw [Nat.mul_add, Nat.mul_one, Nat.mul_comm A]
        omega
      · have := er y hy
        rw [Nat.mul_add, Nat.mul_one]
        omega
end K62
end
section
set_option linter.all false
set_option exponentiation.threshold 100
/-! The corner form: start, pivots, swap, sign. -/
namespace K62
theorem zero_of_dots {d : Nat} {v : Row} (hv : v.length = d) (h : ∀ j, j < d → v.getD j 0 = 0) : ∀ y ∈ v, y = 0 := fun y hy => by
  obtain ⟨j, hj, rfl⟩ := List.mem_iff_getElem.mp hy
  have := h j (by omega)
  rwa [List.getD_eq_getElem?_getD, List.getElem?_eq_getElem hj] at this
theorem Cf.start {d : Nat} {ss : List Stp} {cell : Row} {steps : List Row} (h : CI d ss cell steps) (hp : ∀ s ∈ ss, 0 < s.m) (he : Ent (2 ^ 7000) steps) : Cf d 0 steps (2 ^ Ab 0) := by
  refine ⟨h.sl, h.lens, fun v hv hz => zero_of_dots hv fun j hj => ?_, fun k j _ _ z => absurd z (by omega), fun k z => absurd z (by omega), fun k r z => absurd z (by omega), fun k r _ hr y hy => he r (List.mem_of_getElem? hr) y hy⟩
  have hP := prodm_pos hp
  have sp := h.full ((unit d j).map (prodm ss * ·)) (by rw [List.length_map, unit_len]) fun s hs => by
    rw [dot_scale]; exact Int.dvd_trans (prodm_dvd hs) (Int.dvd_mul_right _ _)
  have := Span.dvd (m := 0) (r := v) h.lens (fun s hs => by rw [dot_comm, hz s hs]; exact Int.dvd_refl 0) sp
  rw [dot_scale, dot_unit_r hv hj] at this
  have e := Int.zero_dvd.mp this
  rcases Int.mul_eq_zero.mp e with z | z
  · omega
  · exact z
theorem Cf.pivot {d i A : Nat} {left : List Row} (C : Cf d i left A) (d3 : d ≤ 3) (hi : i < d) : ∃ k, i ≤ k ∧ k < d ∧ gg left k i ≠ 0 := by
  refine Classical.byContradiction fun hno => ?_
  have z : ∀ k, i ≤ k → k < d → gg left k i = 0 := fun k h1 h2 => Classical.byContradiction fun h3 => hno ⟨k, h1, h2, h3⟩
  -- a vector that all rows send to 0 has 0 at i
  have use : ∀ v : Row, v.length = d → (∀ k, k < d → dot (left.getD k []) v = 0) → dot (unit d i) v = 0 := fun v hv h => by
    have hz := C.ker v hv fun s hs => by
      obtain ⟨k, hk⟩ := List.mem_iff_getElem?.mp hs
      have hkd : k < d := by rw [← C.len]; exact (List.getElem?_eq_some_iff.mp hk).1
      have := h k hkd
      rwa [List.getD_eq_getElem?_getD, hk] at this
    rw [dot_comm, dot_unit_r hv hi]
    exact hz _ (getD_mem (by omega))
  have rl : ∀ k, k < d → (left.getD k []).length = d := fun k hk => C.lens _ (List.mem_of_getElem? (row_of (by rw [C.len]; exact hk)))
  have du : ∀ j, j < d → dot (unit d i) (unit d j) = if j = i then 1 else 0 := fun j hj => by
    rw [dot_unit_r unit_len hj, List.getD_eq_getElem?_getD, unit_get hj]; rfl
  have dk : ∀ k j, k < d → j < d → dot (left.getD k []) (unit d j) = gg left k j := fun k j hk hj => dot_unit_r (rl k hk) hj
  have : i = 0 ∨ i = 1 ∨ i = 2 := by omega
  rcases this with rfl | rfl | rfl
  · have := use (unit d 0) unit_len fun k hk => by rw [dk k 0 hk hi]; exact z k (by omega) hk
    rw [du 0 hi, if_pos rfl] at this
    omega
  · have t := use (addk ((unit d 0).map (-(gg left 0 1) * ·)) (gg left 0 0) (unit d 1)) (by rw [addk_len, List.length_map, unit_len, unit_len, Nat.min_self]) fun k hk => by
      rw [dot_addk _ _ _ _ (by rw [List.length_map, unit_len, unit_len]), dot_scale, dk k 0 hk (by omega), dk k 1 hk hi]
      by_cases h0 : k = 0
      · subst h0; rw [Int.neg_mul, Int.mul_comm]; omega
      · rw [C.tri k 0 hk (by omega) (by omega), z k (by omega) hk]; simp
    rw [dot_addk _ _ _ _ (by rw [List.length_map, unit_len, unit_len]), dot_scale, du 0 (by omega), du 1 hi, if_neg (by omega), if_pos rfl] at t
    exact C.piv 0 (by omega) (by omega) (by omega)
  · have t := use (addk (addk ((unit d 0).map ((gg left 0 1 * gg left 1 2 - gg left 0 2 * gg left 1 1) * ·)) (-(gg left 0 0 * gg left 1 2)) (unit d 1)) (gg left 0 0 * gg left 1 1) (unit d 2)) (by rw [addk_len, addk_len, List.length_map, unit_len, unit_len, unit_len, Nat.min_self, Nat.min_self]) fun k hk => by
      rw [dot_addk _ _ _ _ (by rw [addk_len, List.length_map, unit_len, unit_len, unit_len, Nat.min_self]), dot_addk _ _ _ _ (by rw [List.length_map, unit_len, unit_len]), dot_scale, dk k 0 hk (by omega), dk k 1 hk (by omega), dk k 2 hk hi]
      by_cases h0 : k = 0
      · subst h0; grind
      · rw [C.tri k 0 hk (by omega) (by omega)]
        by_cases h1 : k = 1
        · subst h1; grind
        · rw [C.tri k 1 hk (by omega) (by omega), z k (by omega) hk]; simp
    rw [dot_addk _ _ _ _ (by rw [addk_len, List.length_map, unit_len, unit_len, unit_len, Nat.min_self]), dot_addk _ _ _ _ (by rw [List.length_map, unit_len, unit_len]), dot_scale, du 0 (by omega), du 1 (by omega), du 2 hi, if_neg (by omega), if_neg (by omega), if_pos rfl] at t
    have p0 := C.piv 0 (by omega) (by omega)
    have p1 := C.piv 1 (by omega) (by omega)
    have : gg left 0 0 * gg left 1 1 = 0 := by omega
    rcases Int.mul_eq_zero.mp this with q | q
    · exact p0 q
    · exact p1 q
theorem Cf.mono {d i A A' : Nat} {left : List Row} (C : Cf d i left A) (h : A ≤ A') : Cf d i left A' :=
  ⟨C.len, C.lens, C.ker, C.tri, C.piv, C.bdl, fun k r hk hr y hy => Nat.le_trans (C.ent k r hk hr y hy) h⟩
theorem Cf.swap {d i t A : Nat} {left : List Row} {ri ra : Row} (C : Cf d i left A) (h1 : i ≤ t) (h2 : t < d) (hi : left[i]? = some ri) (ha : left[t]? = some ra) : Cf d i ((left.set i ra).set t ri) A := by
  have hl : ((left.set i ra).set t ri).length = d := by rw [List.length_set, List.length_set, C.len]
  have rows : ∀ (k : Nat), k < d → ((left.set i ra).set t ri)[k]? = if k = t then some ri else if k = i then some ra else left[k]? := fun k hk => by
    by_cases e : k = t
    · subst e; rw [if_pos rfl, List.getElem?_set_self (by rw [List.length_set, C.len]; exact hk)]
    · rw [if_neg e, List.getElem?_set_ne (fun z => e z.symm)]
      by_cases e2 : k = i
      · subst e2; rw [if_pos rfl, List.getElem?_set_self (by rw [C.len]; exact hk)]
      · rw [if_neg e2, List.getElem?_set_ne (fun z => e2 z.symm)]
  have low : ∀ (k : Nat), k < i → ((left.set i ra).set t ri)[k]? = left[k]? := fun k hk => by
    rw [rows k (by omega), if_neg (by omega), if_neg (by omega)]
  have src : ∀ (k : Nat) s, i ≤ k → ((left.set i ra).set t ri)[k]? = some s → ∃ k', i ≤ k' ∧ k' < d ∧ left[k']? = some s := fun k s hk hs => by
    have hkd : k < d := by rw [← hl]; exact (List.getElem?_eq_some_iff.mp hs).1
    rw [rows k hkd] at hs
    split at hs
    · exact ⟨i, Nat.le_refl _, by omega, hi.trans hs⟩
    · split at hs
      · exact ⟨t, h1, h2, ha.trans hs⟩
      · exact ⟨k, hk, hkd, hs⟩
  refine ⟨hl, fun s hs => ?_, fun v hv hz => C.ker v hv fun s hs => ?_, fun k j hk hj hji => ?_, fun k hk hd => ?_, fun k r hk hr => C.bdl k r hk (by rw [← low k hk]; exact hr), fun k r hk hr => ?_⟩
  · obtain ⟨k, hk⟩ := List.mem_iff_getElem?.mp hs
    by_cases e : k < i
    · rw [low k e] at hk; exact C.lens s (List.mem_of_getElem? hk)
    · obtain ⟨k', _, _, hk'⟩ := src k s (by omega) hk
      exact C.lens s (List.mem_of_getElem? hk')
  · obtain ⟨k, hk⟩ := List.mem_iff_getElem?.mp hs
    have hkd : k < d := by rw [← C.len]; exact (List.getElem?_eq_some_iff.mp hk).1
    by_cases e : k = i
    · subst e
      rw [hi] at hk; cases hk
      exact hz _ (List.mem_of_getElem? (i := t) (by rw [rows t h2, if_pos rfl]))
    · by_cases e2 : k = t
      · subst e2
        rw [ha] at hk; cases hk
        exact hz _ (List.mem_of_getElem? (i := i) (by rw [rows i (by omega), if_neg (by omega), if_pos rfl]))
      · exact hz _ (List.mem_of_getElem? (i := k) (by rw [rows k hkd, if_neg e2, if_neg e]; exact hk))
  · have hs := row_of (left := (left.set i ra).set t ri) (k := k) (by rw [hl]; exact hk)
    by_cases e : k < i
    · rw [low k e] at hs
      rw [gg_of ((low k e).trans hs), ← gg_of hs]; exact C.tri k j hk hj hji
    · obtain ⟨k', h3, h4, hk'⟩ := src k _ (by omega) hs
      rw [gg_of hs, ← gg_of hk']
      exact C.tri k' j h4 (by omega) hji
  · have hs := row_of (left := left) (k := k) (by rw [C.len]; exact hd)
    rw [gg_of ((low k hk).trans hs), ← gg_of hs]; exact C.piv k hk hd
  · obtain ⟨k', h3, h4, hk'⟩ := src k _ hk hr
    exact C.ent k' r h3 hk'
def ngr (r : Row) : Row := r.map fun y => -y
theorem dot_ngr : ∀ (r v : Row), dot (ngr r) v = -dot r v
  | [], v => by rw [show ngr [] = [] from rfl, dot_nil_l]; rfl
  | x :: r, [] => by rw [dot_nil_r, dot_nil_r]; rfl
  | x :: r, y :: v => by rw [show ngr (x :: r) = -x :: ngr r from rfl, dot_cons, dot_cons, dot_ngr r v, Int.neg_mul]; omega
theorem ngr_getD (r : Row) (i : Nat) : (ngr r).getD i 0 = -r.getD i 0 := by
  unfold ngr
  rw [List.getD_eq_getElem?_getD, List.getD_eq_getElem?_getD, List.getElem?_map]
  cases r[i]? <;> simp
theorem Cf.neg {d i A : Nat} {left : List Row} {ri : Row} (C : Cf d i left A) (hi : left[i]? = some ri) : Cf d i (left.set i (ngr ri)) A := by
  have hid : i < left.length := (List.getElem?_eq_some_iff.mp hi).1
  have oth : ∀ (k : Nat), k ≠ i → (left.set i (ngr ri))[k]? = left[k]? := fun k hk => List.getElem?_set_ne (fun z => hk z.symm)
  have own : (left.set i (ngr ri))[i]? = some (ngr ri) := List.getElem?_set_self hid
  have gk : ∀ k j, gg (left.set i (ngr ri)) k j = gg left k j ∨ gg (left.set i (ngr ri)) k j = -gg left k j := fun k j => by
    by_cases e : k = i
    · subst e; right; rw [gg_of own, gg_of hi, ngr_getD]
    · left; unfold gg; rw [List.getD_eq_getElem?_getD (l := left.set i (ngr ri)), oth k e, ← List.getD_eq_getElem?_getD]
  refine ⟨by rw [List.length_set, C.len], fun s hs => ?_, fun v hv hz => C.ker v hv fun s hs => ?_, fun k j hk hj hji => ?_, fun k hk hd => ?_, fun k r hk hr => C.bdl k r hk (by rw [← oth k (by omega)]; exact hr), fun k r hk hr y hy => ?_⟩
  · rcases mem_set hs with rfl | ⟨j, _, hj⟩
    · unfold ngr; rw [List.length_map]; exact C.lens _ (List.mem_of_getElem? hi)
    · exact C.lens s (List.mem_of_getElem? hj)
  · obtain ⟨k, hk⟩ := List.mem_iff_getElem?.mp hs
    by_cases e : k = i
    · subst e
      rw [hi] at hk; cases hk
      have := hz _ (List.mem_of_getElem? own)
      rw [dot_ngr] at this; omega
    · exact hz _ (List.mem_of_getElem? (i := k) (by rw [oth k e]; exact hk))
  · have := C.tri k j hk hj hji
    rcases gk k j with q | q <;> omega
  · have := C.piv k hk hd
    rcases gk k k with q | q <;> omega
  · by_cases e : k = i
    · subst e
      rw [own] at hr; cases hr
      obtain ⟨z, hz, rfl⟩ := List.mem_map.mp hy
      rw [Int.natAbs_neg]
      exact C.ent k ri hk hi z hz
    · rw [oth k e] at hr; exact C.ent k r hk hr y hy
theorem Cf.succ {d i A : Nat} {left : List Row} (C : Cf d i left A) (h1 : gg left i i ≠ 0) (h2 : ∀ k, i < k → k < d → gg left k i = 0) (hA : A ≤ 2 ^ Ab (i + 1)) : Cf d (i + 1) left (2 ^ Ab (i + 1)) := by
  refine ⟨C.len, C.lens, C.ker, fun k j hk hj hji => ?_, fun k hk hd => ?_, fun k r hk hr y hy => ?_, fun k r hk hr y hy => Nat.le_trans (C.ent k r (by omega) hr y hy) hA⟩
  · by_cases e : j = i
    · subst e; exact h2 k hj hk
    · exact C.tri k j hk hj (by omega)
  · by_cases e : k = i
    · subst e; exact h1
    · exact C.piv k (by omega) hd
  · by_cases e : k = i
    · subst e; exact Nat.le_trans (C.ent k r (Nat.le_refl _) hr y hy) hA
    · exact C.bdl k r (by omega) hr y hy
end K62
end
section
set_option linter.all false
set_option exponentiation.threshold 100
/-! The corner form: the bound through the while of one column. -/
namespace K62
structure Wh (d i : Nat) (left : List Row) (A : Nat) : Prop where
  cf : Cf d i left A
  pot : A = 2 ^ Ab i ∨ (i + 2 ≤ d ∧ SS (colx i left) ∧ A * S3 (colx i left) ^ (3 - i) ≤ 7 * (2 ^ Ab i * ((3 - i) * 2 ^ Ab i) ^ (3 - i)))
theorem colx_le {d i A : Nat} {left : List Row} (C : Cf d i left A) (k : Nat) : (colx i left k).natAbs ≤ A := by
  unfold colx
  split
  · rename_i h
    by_cases hk : k < left.length
    · have e := row_of hk
      rw [gg_of e]
      by_cases hi : i < (left.getD k []).length
      · exact C.ent k _ h e _ (getD_mem hi)
      · rw [List.getD_eq_getElem?_getD, List.getElem?_eq_none (by omega)]; simp
    · unfold gg
      rw [List.getD_eq_getElem?_getD (l := left), List.getElem?_eq_none (by omega)]; simp
  · simp
theorem S3_le {d i A : Nat} {left : List Row} (C : Cf d i left A) (hi : i < 3) : S3 (colx i left) ≤ (3 - i) * A := by
  have a0 := colx_le C 0
  have a1 := colx_le C 1
  have a2 := colx_le C 2
  unfold S3
  have : i = 0 ∨ i = 1 ∨ i = 2 := by omega
  rcases this with rfl | rfl | rfl
  · omega
  · have : colx 1 left 0 = 0 := by unfold colx; simp
    rw [this]; simp; omega
  · have e0 : colx 2 left 0 = 0 := by unfold colx; simp
    have e1 : colx 2 left 1 = 0 := by unfold colx; simp
    rw [e0, e1]; simp; omega
theorem Wh.step {d i L A : Nat} {left0 left : List Row} (W : Wh d i left0 A) (d3 : d ≤ 3) (h2 : i + 2 ≤ d) (iL : i ≤ L) (Ld : L < d) (m0 : gg left0 L i ≠ 0) (low : ∀ k, i ≤ k → k < d → gg left0 k i ≠ 0 → (gg left0 L i).natAbs ≤ (gg left0 k i).natAbs) (M : Mid left0 i L (d - i) left) : ∃ A', Wh d i left A' := by
  have cp := W.cf.cpass d3 iL Ld m0 low M
  refine ⟨_, W.cf.pass d3 iL Ld m0 M, .inr ⟨h2, cp.ss, ?_⟩⟩
  have hn : 2 - i + 1 = 3 - i := by omega
  rw [← hn, Nat.mul_assoc]
  rcases W.pot with e | ⟨_, s, p⟩
  · refine Nat.le_trans (Nat.mul_le_mul_left A (cp.pot0 hn)) ?_
    have h3 := S3_le W.cf (by omega)
    rw [← hn] at h3
    rw [e] at h3 ⊢
    rw [Nat.mul_left_comm]
    exact Nat.mul_le_mul_left _ (Nat.mul_le_mul_left _ (Nat.pow_le_pow_left h3 _))
  · rw [← hn] at p
    exact Nat.le_trans (Nat.mul_le_mul_left A (cp.pot1 hn s)) p
theorem two_pow_le {a b : Nat} (h : a ≤ b) : 2 ^ a ≤ 2 ^ b := Nat.pow_le_pow_right (by decide) h
theorem pot_bits (X : Nat) : 7 * (2 ^ X * (3 * 2 ^ X) ^ 3) ≤ 2 ^ (4 * X + 8) ∧ 7 * (2 ^ X * (2 * 2 ^ X) ^ 2) ≤ 2 ^ (3 * X + 5) := by
  have e4 : 2 ^ (4 * X + 8) = 2 ^ X * 2 ^ X * 2 ^ X * 2 ^ X * 256 := by
    rw [Nat.pow_add, show 4 * X = X + X + X + X by omega, Nat.pow_add, Nat.pow_add, Nat.pow_add]
  have e3 : 2 ^ (3 * X + 5) = 2 ^ X * 2 ^ X * 2 ^ X * 32 := by
    rw [Nat.pow_add, show 3 * X = X + X + X by omega, Nat.pow_add, Nat.pow_add]
  rw [e4, e3]
  generalize 2 ^ X = y
  constructor
  · have : 7 * (y * (3 * y) ^ 3) = y * y * y * y * 189 := by grind
    rw [this]; exact Nat.mul_le_mul_left _ (by decide)
  · have : 7 * (y * (2 * y) ^ 2) = y * y * y * 28 := by grind
    rw [this]; exact Nat.mul_le_mul_left _ (by decide)
theorem Wh.fin {d i A : Nat} {left : List Row} (W : Wh d i left A) (d3 : d ≤ 3) (hi : i < d) : A ≤ 2 ^ Ab (i + 1) := by
  rcases W.pot with e | ⟨h2, _, p⟩
  · rw [e]
    have : i = 0 ∨ i = 1 ∨ i = 2 := by omega
    rcases this with rfl | rfl | rfl <;> exact two_pow_le (by decide)
  · obtain ⟨k, h3, h4, h5⟩ := W.cf.pivot d3 hi
    have hS : 1 ≤ S3 (colx i left) := by
      have e : colx i left k = gg left k i := by unfold colx; rw [if_pos h3]
      rw [← e] at h5
      unfold S3
      have : k = 0 ∨ k = 1 ∨ k = 2 := by omega
      rcases this with rfl | rfl | rfl <;> omega
    have h6 : A * 1 ≤ A * S3 (colx i left) ^ (3 - i) := Nat.mul_le_mul_left _ (Nat.pow_pos hS)
    rw [Nat.mul_one] at h6
    refine Nat.le_trans (Nat.le_trans h6 p) ?_
    have : i = 0 ∨ i = 1 := by omega
    rcases this with rfl | rfl
    · have e : 4 * Ab 0 + 8 ≤ Ab (0 + 1) := by decide
      rw [Nat.sub_zero]
      generalize Ab 0 = X at e ⊢
      exact Nat.le_trans (pot_bits X).1 (two_pow_le e)
    · have e : 3 * Ab 1 + 5 ≤ Ab (1 + 1) := by decide
      rw [show 3 - 1 = 2 from rfl]
      generalize Ab 1 = X at e ⊢
      exact Nat.le_trans (pot_bits X).2 (two_pow_le e)
theorem Wh.bits {d i A : Nat} {left : List Row} (W : Wh d i left A) (d3 : d ≤ 3) (hi : i < d) : A < 2 ^ 84036 := by
  refine Nat.lt_of_le_of_lt (W.fin d3 hi) (Nat.pow_lt_pow_right (by decide) ?_)
  have : i = 0 ∨ i = 1 ∨ i = 2 := by omega
  rcases this with rfl | rfl | rfl <;> decide
theorem Wh.start {d i : Nat} {left : List Row} (C : Cf d i left (2 ^ Ab i)) : Wh d i left (2 ^ Ab i) := ⟨C, .inl rfl⟩
end K62
end
section
set_option linter.all false
set_option exponentiation.threshold 100
/-! The corner form: rows reduced by the rows below. -/
namespace K62
def gb (i j : Nat) : Nat := Ab (i + 1) + 1 + (j - i - 1) * 84037
structure Rf (d i : Nat) (left0 left : List Row) : Prop where
  len : left.length = d
  lens : Lens d left
  diag : ∀ k, k < d → gg left k k = gg left0 k k
  rest : ∀ k : Nat, i ≤ k → left[k]? = left0[k]?
  done : ∀ (k : Nat) r, k < i → left[k]? = some r → Bd (Gc k) r
structure Rj (d i j : Nat) (left0 left : List Row) : Prop where
  len : left.length = d
  lens : Lens d left
  diag : ∀ k, k < d → gg left k k = gg left0 k k
  rest : ∀ k : Nat, i < k → left[k]? = left0[k]?
  done : ∀ (k : Nat) r, k < i → left[k]? = some r → Bd (Gc k) r
  row : ∀ r, left[i]? = some r → Bd (gb i j) r
theorem Cf.bd {d A : Nat} {left0 : List Row} (C : Cf d d left0 A) {k : Nat} {r : Row} (h : left0[k]? = some r) : Bd (Ab (k + 1) + 1) r := fun y hy => by
  have hk : k < d := by rw [← C.len]; exact (List.getElem?_eq_some_iff.mp h).1
  refine Nat.lt_of_le_of_lt (C.bdl k r hk h y hy) (Nat.pow_lt_pow_right (by decide) (by omega))
theorem Rf.start {d A : Nat} {left0 : List Row} (C : Cf d d left0 A) : Rf d 0 left0 left0 := ⟨C.len, C.lens, fun k _ => rfl, fun k _ => rfl, fun k r h => absurd h (by omega)⟩
theorem Rf.row {d i A : Nat} {left0 left : List Row} (C : Cf d d left0 A) (R : Rf d i left0 left) : Rj d i (i + 1) left0 left :=
  ⟨R.len, R.lens, R.diag, fun k h => R.rest k (by omega), R.done, fun r hr => by
    have e : gb i (i + 1) = Ab (i + 1) + 1 := by unfold gb; rw [show i + 1 - i - 1 = 0 by omega]; try omega
    rw [e]
    exact C.bd (by rw [← R.rest i (Nat.le_refl _)]; exact hr)⟩
theorem Rj.nz {d i j A : Nat} {left0 left : List Row} (C : Cf d d left0 A) (R : Rj d i j left0 left) {k : Nat} (hk : k < d) : gg left k k ≠ 0 := by rw [R.diag k hk]; exact C.piv k hk hk
theorem Rj.step {d i j A : Nat} {left0 left : List Row} {ri rj : Row} (C : Cf d d left0 A) (d3 : d ≤ 3) (R : Rj d i j left0 left) (hij : i < j) (hj : j < d) (h1 : left[i]? = some ri) (h2 : left[j]? = some rj) : Rj d i (j + 1) left0 (left.set i (addk ri (-((gg left i j).fdiv (gg left j j))) rj)) := by
  have li := R.lens ri (List.mem_of_getElem? h1)
  have lj := R.lens rj (List.mem_of_getElem? h2)
  have hi : i < left.length := (List.getElem?_eq_some_iff.mp h1).1
  have own : ∀ r : Row, (left.set i r)[i]? = some r := fun r => List.getElem?_set_self hi
  have oth : ∀ (r : Row) (k : Nat), k ≠ i → (left.set i r)[k]? = left[k]? := fun r k hk => List.getElem?_set_ne (fun z => hk z.symm)
  have h20 : left0[j]? = some rj := by rw [← R.rest j hij]; exact h2
  refine ⟨by rw [List.length_set, R.len], fun s hs => ?_, fun k hk => ?_, fun k hk => by rw [oth _ k (by omega)]; exact R.rest k hk, fun k r hk hr => R.done k r hk (by rw [← oth _ k (by omega)]; exact hr), fun r hr => ?_⟩
  · rcases mem_set hs with rfl | ⟨t, _, ht⟩
    · rw [addk_len, li, lj, Nat.min_self]
    · exact R.lens s (List.mem_of_getElem? ht)
  · by_cases e : k = i
    · subst e
      rw [gg_of (own _), addk_getD (by rw [li, lj]), ← gg_of h1, R.diag k hk]
      have t := C.tri j k hj hij hk
      rw [gg_of h20] at t
      rw [t]; simp
    · rw [← R.diag k hk]
      unfold gg
      rw [List.getD_eq_getElem?_getD (l := left.set i _), oth _ k e, ← List.getD_eq_getElem?_getD]
  · rw [own] at hr; cases hr
    have b1 := R.row ri h1
    have b2 := C.bd h20
    have b3 : Ab (j + 1) = 84035 := by
      have : j = 1 ∨ j = 2 := by omega
      rcases this with rfl | rfl <;> rfl
    rw [b3] at b2
    refine bd_addk b1 (b := gb i j) ?_ b2 (by omega) ?_
    · rw [Int.natAbs_neg]
      refine Nat.lt_of_le_of_lt (fdiv_abs (R.nz C hj)) ?_
      rw [gg_of h1]
      exact b1 _ (getD_mem (by omega))
    · unfold gb
      rw [show j + 1 - i - 1 = (j - i - 1) + 1 by omega, Nat.add_mul]
      omega
theorem gb_Gc : ∀ d i : Nat, d ≤ 3 → i < d → gb i d ≤ Gc i := by
  intro d i h1 h2
  have : (d = 1 ∧ i = 0) ∨ (d = 2 ∧ i = 0) ∨ (d = 2 ∧ i = 1) ∨ (d = 3 ∧ i = 0) ∨ (d = 3 ∧ i = 1) ∨ (d = 3 ∧ i = 2) := by omega
  rcases this with ⟨rfl, rfl⟩ | ⟨rfl, rfl⟩ | ⟨rfl, rfl⟩ | ⟨rfl, rfl⟩ | ⟨rfl, rfl⟩ | ⟨rfl, rfl⟩ <;> decide
theorem Rj.fin {d i : Nat} {left0 left : List Row} (d3 : d ≤ 3) (hi : i < d) (R : Rj d i d left0 left) : Rf d (i + 1) left0 left :=
  ⟨R.len, R.lens, R.diag, fun k h => R.rest k (by omega), fun k r hk hr => by
    by_cases e : k = i
    · subst e
      exact fun y hy => Nat.lt_of_lt_of_le (R.row r hr y hy) (Nat.pow_le_pow_right (by decide) (gb_Gc d k d3 hi))
    · exact R.done k r (by omega) hr⟩
theorem Rf.cnr {d A : Nat} {left0 left : List Row} (C : Cf d d left0 A) (R : Rf d d left0 left) : Cnr d left :=
  ⟨R.len, R.lens, fun i r hr => by
    have hi : i < d := by rw [← R.len]; exact (List.getElem?_eq_some_iff.mp hr).1
    rw [← gg_of hr, R.diag i hi]; exact C.piv i hi hi, fun i r hr => R.done i r (by rw [← R.len]; exact (List.getElem?_eq_some_iff.mp hr).1) hr⟩
end K62
end
section
set_option Elab.async false
set_option linter.all false
set_option maxRecDepth 100000
set_option maxHeartbeats 4000000
namespace K62
open PySem PySem.Spec PyProof.Rows L2
/-! min(..) of a list of pairs of ints -/
abbrev IP := Int × Int
def PiR (p : IP) : VP := fun v H => ∃ T, v = .ref T ∧ H T = some (.tup [.int p.1, .int p.2])
theorem minOf_ok (xs : List IP) : ∀ x : IP, PySem.W.minOf x xs ∈ x :: xs ∧ ∀ y ∈ x :: xs, (PySem.W.minOf x xs).1 ≤ y.1 := by
  induction xs with
  | nil => intro x; exact ⟨List.mem_singleton.mpr rfl, fun y hy => by rw [List.mem_singleton.mp hy]; exact Int.le_refl _⟩
  | cons z zs ih =>
    intro x
    have e : PySem.W.minOf x (z :: zs) = PySem.W.minOf (if PySem.W.DatumOrd.lt z x = true then z else x) zs := rfl
    obtain ⟨h1, h2⟩ := ih (if PySem.W.DatumOrd.lt z x = true then z else x)
    have hd := h2 _ (List.mem_cons_self ..)
    have le : (if PySem.W.DatumOrd.lt z x = true then z else x).1 ≤ x.1 ∧ (if PySem.W.DatumOrd.lt z x = true then z else x).1 ≤ z.1 := by
      have lt_eq : PySem.W.DatumOrd.lt z x = (if z.1 = x.1 then decide (z.2 < x.2) else decide (z.1 < x.1)) := rfl
      by_cases q : z.1 = x.1
      · split <;> constructor <;> omega
      · rw [lt_eq, if_neg q]
        by_cases q2 : z.1 < x.1
        · rw [if_pos (decide_eq_true q2)]; constructor <;> omega
        · rw [if_neg (by simpa using q2)]; constructor <;> omega
    rw [e]
    refine ⟨?_, fun y hy => ?_⟩
    · rcases List.mem_cons.mp h1 with h | h
      · rw [h]
        split
        · exact List.mem_cons_of_mem _ (List.mem_cons_self ..)
        · exact List.mem_cons_self ..
      · exact List.mem_cons_of_mem _ (List.mem_cons_of_mem _ h)
    · rcases List.mem_cons.mp hy with rfl | hy
      · omega
      · rcases List.mem_cons.mp hy with rfl | hy
        · omega
        · exact h2 y (List.mem_cons_of_mem _ hy)
def rMinP (K : PySem.W.Frag) : List V → Hp → VK → Prop := fun vs H Q => ∃ (a : Addr) (us : List V) (ps : List IP), vs = [V.ref a] ∧ SqL K H a us ∧ Rep2 PiR ps us H ∧ 0 < ps.length ∧ ∀ T m, m ∈ ps → (∀ y ∈ ps, m.1 ≤ y.1) → H T = some (.tup [.int m.1, .int m.2]) → Q (.ref T) H
theorem cr_minP {X : Cx} (hc : X.calm = true) (hu : X.A.units + 64 < cLine) : CallR X (.builtin "min") (rMinP X.K) := by
  intro pins s σ H vs us0 Q I r h
  obtain ⟨a, us, ps, rfl, hs, hr, hne, q⟩ := h
  obtain ⟨its, rv, hl, _⟩ := I.list hs
  rw [Vals.ref1 r]
  have one : ∀ {p : IP} {T : Addr}, H T = some (.tup [.int p.1, .int p.2]) → PySem.W.Holds s.heap (.ref T) p := fun {p T} hT => by
    obtain ⟨ws, wr, wt, _⟩ := I.tuple (.inl (.inl hT))
    obtain ⟨t, u, rfl⟩ := Vals.int2 wr
    obtain ⟨o, e, c, n, d⟩ := wt
    exact ⟨_, .tuple e c d (.cons (.int _ _) (.cons (.int _ _) .nil))⟩
  have all : ∀ {ps : List IP} {us : List V} {its : List Value}, Rep2 PiR ps us H → Vals us its → PySem.W.HoldAll s.heap its ps := by
    intro ps
    induction ps with
    | nil =>
      intro us its hr rv
      have : us = [] := List.length_eq_zero_iff.mp hr.1
      subst this
      cases rv
      exact .nil
    | cons p ps ih =>
      intro us its hr rv
      cases rv with
      | nil => exact absurd hr.1 (by simp)
      | @cons x v xs vs r1 rt =>
        obtain ⟨T, rfl, hT⟩ := hr.2 0 p x rfl rfl
        cases r1
        exact .cons (one hT) (ih ⟨by have := hr.1; simpa using this, fun i a v e1 e2 => hr.2 (i + 1) a v e1 e2⟩ rt)
  cases ps with
  | nil => exact absurd hne (by simp)
  | cons x xs =>
    refine PySem.W.min_list_datum (x := x) (xs := xs) (I.ok.hd hc) hl.isList (by simpa using all hr rv) (by show X.A.units + 1 + 1 < cLine; omega) fun i v h' tk hi hv hk => ?_
    obtain ⟨h1, h2⟩ := minOf_ok xs x
    have hi' : its[i]? = some v := by simpa using hi
    have hlt : i < us.length := by
      have := (List.getElem?_eq_some_iff.mp hi').1
      have := Paired.length rv
      omega
    have hy := List.getElem?_eq_getElem hlt
    obtain ⟨v', hv', ry⟩ := Vals.get rv hy
    rw [hi'] at hv'
    cases hv'
    obtain ⟨p, hp, T, eT, hT⟩ := hr.get hy
    rw [eT] at ry
    cases ry
    obtain ⟨as1, r1⟩ := hv
    obtain ⟨as2, r2⟩ := (one hT).keeps hk
    have e := (Reads.unique r2 _ _ r1).1
    have e' : p = PySem.W.minOf x xs := by
      have e2 : PyData.tuple [.int p.1, .int p.2] = PyData.tuple [.int (PySem.W.minOf x xs).1, .int (PySem.W.minOf x xs).2] := e
      simp only [PyData.tuple.injEq, List.cons.injEq, PyData.int.injEq, and_true] at e2
      exact Prod.ext e2.1 e2.2
    exact ⟨.ref T, H, I.kept hk, rfl, q T _ h1 h2 (e' ▸ hT)⟩
theorem R.minP {X : Cx} {U : UA} {σ : L2.St} {H : Hp} {a : Expr} {q pos : Pos} {H0 : Hp} {ps : List IP} {Qs : List V → Hp → Prop} (hq : ∀ vs H1, Qs vs H1 → Rep2 PiR ps vs H1) (hn : 0 < ps.length) (hc : X.calm = true) (hu : X.A.units + 64 < cLine) (hg : Gl X "min") (hm : X.mg "min" = none) (ha : R X U a σ H (NLs U H0 Qs))
    (h1 : starEach [a] X.env = (false, eval a X.env) :: starEach [] X.env := by rfl) (h2 : (backTo pos (starEach [] X.env)).any (·.1) = false := by rfl) : R X U (.Call (.Name "min" q) [a] [] pos) σ H (fun v H1 => ∃ T m, v = .ref T ∧ H1 T = some (.tup [.int m.1, .int m.2]) ∧ m ∈ ps ∧ ∀ y ∈ ps, m.1 ≤ y.1) :=
  R.callB (cr_minP hc hu) hg hm PyProof.Rows.boot_min (RA.last ha h1) (fun vs H1 l j ⟨v, r, e, ⟨L, us, e1, _, _, hL, hq'⟩, e2⟩ Q k => by
    cases e1; cases e2
    exact ⟨L, us, ps, e, .inl (.inl hL), hq us H1 hq', hn, fun T m hm hy hT => k _ H1 (Le.refl _) j ⟨T, m, rfl, hT, hm, hy⟩⟩) (by decide) (by decide) h1 h2
end K62
end
section
set_option Elab.async false
set_option linter.all false
set_option maxRecDepth 100000
set_option maxHeartbeats 4000000
set_option exponentiation.threshold 100
namespace K62
open PySem PySem.Spec PyProof.Rows L2
variable {P : Program} {w : World} {K : PySem.W.Frag} {mg : Str → Option Value} {base : Heap}
abbrev sp_corner_form : Sp := FSp (α := Nat × List Row) nU (fun x vs H => ∃ p us, vs = [.ref p] ∧ H p = some (.lst us) ∧ Rep2 TpI x.2 us H ∧ 1 ≤ x.1 ∧ x.1 ≤ 3 ∧ Cf x.1 0 x.2 (2 ^ Ab 0)) (fun x v H => ∃ cs, TupR TpI cs v H ∧ Cnr x.1 cs)
theorem ok_common_cells (F : DefAt K mg "common_cells" s_common_cells ps_common_cells) (B : Bln mg) (C1 : Callee P w K mg base 7 "need_stripe_row" ps_need_stripe_row sp_need_stripe_row) (C2 : Callee P w K mg base 4 "cells_on" ps_cells_on sp_cells_on)
    (C3 : Callee P w K mg base 40 "corner_form" ps_corner_form sp_corner_form) (C4 : Callee P w K mg base 40 "least_cell" ps_least_cell sp_least_cell) : Callee P w K mg base 50 "common_cells" ps_common_cells sp_common_cells := by
  refine callee_of F sc_common_cells (fun vs H Q E h => ?_) fun f cdv A outer s H vs Q E hr h => ?_
  · obtain ⟨a, _, ⟨v, rfl, _⟩, _⟩ := h; rfl
  obtain ⟨x, _, ⟨v, rfl, ⟨p, us, rfl, hp, hrep⟩, O⟩, k⟩ := h
  have hT : ∀ {H'}, Le none H H' → TupR StR x.ss (.ref p) H' := fun l => ⟨p, us, rfl, l.tup _ _ hp, hrep.tk l.tup⟩
  refine S.asg (U := none) (P := CoR x.d x.ss 7000) sc_common_cells.nd (i := 1) rfl (.inl rfl) trivial (R.callP C2 hr (by decide) (by rfl) (RA.cons (R.var (i := 0) rfl (.inl rfl) rfl) (RA.last (P := Is (.int x.d)) (R.callP C1 hr (by decide) (by rfl) (RA.last (R.var (i := 0) rfl (.inl rfl) rfl)) ?_))) ?_) ?_
  · rintro vs H3 l3 _ ⟨v, r, rfl, rfl, rfl⟩
    exact ⟨x, ⟨_, rfl, hT l3, O⟩, fun v H2 _ _ e => e⟩
  · rintro vs H3 l3 _ ⟨v, r, rfl, rfl, v', r', rfl, rfl, rfl⟩
    exact ⟨⟨x.d, x.ss⟩, ⟨_, rfl, SeqR.of_tup (hT l3), O.d1, O.d3, O.n12, fun s hs => (O.vs s hs).st⟩, fun v H2 _ _ h => h⟩
  rintro v1 H1 l1 _ hv
  show S _ _ [some (.ref p), some v1, none] _ _
  refine S.if (U := none) trivial (RT.isNone (R.var (i := 1) rfl (.inl rfl) rfl)) (fun e H2 l2 _ => ?_) (fun e H2 l2 _ => S.nil ?_)
  · rcases hv with ⟨rfl, h⟩ | ⟨T, vc, L, us', cell, steps, rfl, _⟩
    · exact S.ret (U := none) (P := Is .non) trivial R.non fun v H3 l3 _ e => k v H3 ((l1.trans l2).trans l3) trivial (.inl ⟨e, h.no fun s hs => (O.vs s hs).pos⟩)
    · exact Bool.noConfusion (e : true = false)
  · rcases hv with ⟨rfl, h⟩ | ⟨T, vc, L, us', cell, steps, rfl, h1, h2, h3, h4, h5, h6, h7⟩
    · exact Bool.noConfusion (e : false = true)
    · have hT2 := l2.tup _ _ h1
      refine S.asg (U := none) (P := fun v H => ∃ cs, TupR TpI cs v H ∧ Cnr x.d cs) sc_common_cells.nd (i := 2) rfl (.inl rfl) trivial (R.callP C3 hr (by decide) (by rfl) (RA.last (R.ixT (v := .ref L) hT2 rfl (R.var (i := 1) rfl (.inl rfl) rfl) R.int)) ?_) ?_
      · rintro vs H3 l3 _ ⟨v, r, rfl, rfl, rfl⟩
        have l23 := l2.trans l3
        exact ⟨(x.d, steps), ⟨L, us', rfl, l23.keep _ _ (fun z => z) h3, h4.tk l23.tup, O.d1, O.d3, Cf.start h5 (fun s hs => (O.vs s hs).pos) h6⟩, fun v H2 _ _ h => h⟩
      rintro v2 H3 l3 _ ⟨cs, hcs, hC⟩
      show S _ _ [some (.ref p), some (.ref T), some v2] _ _
      refine S.ret (U := none) (P := Vq fun v => ∃ T, v = .ref T) trivial (R.tup (RA.cons (P := Vq fun v => ∃ T, v = .ref T) (R.callP C4 hr (by decide) (by rfl) (RA.cons (R.ixT (v := vc) (l3.tup _ _ hT2) rfl (R.var (i := 1) rfl (.inl rfl) rfl) R.int) (RA.last (R.var (i := 2) rfl (.inl rfl) rfl))) ?_) (RA.last (R.var (i := 2) rfl (.inl rfl) rfl))) ?_ ?_) fun v H4 l4 _ ⟨T4, e⟩ => k v H4 (((l1.trans l2).trans l3).trans l4) trivial (.inr ⟨T4, e, h5.meets⟩)
      · rintro vs H5 l5 _ ⟨v, r, rfl, rfl, v', r', rfl, rfl, rfl⟩
        have hcs5 := Fz.le l5 hcs
        exact ⟨(x.d, cell, cs), ⟨_, _, rfl, Fz.le ((l2.trans l3).trans l5) h2, hcs5, O.d3, h5.cl, fun y hy => Nat.lt_of_le_of_lt (h7 y hy) (Nat.pow_lt_pow_right (by decide) (by decide)), hC⟩, fun v H2 _ _ h => h⟩
      · rintro vs H8 ⟨v, r, rfl, _, v', r', rfl, _, rfl⟩; show 2 ≤ sizeLine; decide
      · rintro vs p' H8 _ _ ⟨v, r, rfl, _, v', r', rfl, _, rfl⟩ _; exact ⟨p', rfl⟩
end K62
end
section
set_option Elab.async false
set_option linter.all false
set_option maxRecDepth 100000
set_option maxHeartbeats 4000000
namespace K62
open PySem PySem.Spec PyProof.Rows L2
/-! a list of lists of ints: the rows of corner_form -/
def RowL (r : Row) : VP := fun v H => ∃ p, v = .ref p ∧ H p = some (.lst (r.map V.int))
theorem RowL.le {r : Row} {v : V} {H H' : Hp} (h : RowL r v H) (l : Le none H H') : RowL r v H' := by
  obtain ⟨p, e, h⟩ := h; exact ⟨p, e, l.keep _ _ (fun z => z) h⟩
theorem RowL.upd {r : Row} {v : V} {H : Hp} {L : Addr} {o : HO} (h : RowL r v H) (ne : v ≠ .ref L) : RowL r v (upd H L o) := by
  obtain ⟨p, e, h⟩ := h
  exact ⟨p, e, by rw [upd_ne (fun z => ne (by rw [e, z]))]; exact h⟩
structure Lft (L : Addr) (left : List Row) (us : List V) (H : Hp) : Prop where
  hl : H L = some (.lst us)
  rep : Rep2 RowL left us H
  ne : ∀ v ∈ us, v ≠ .ref L
theorem Lft.le {L : Addr} {left : List Row} {us : List V} {H H' : Hp} (h : Lft L left us H) (l : Le none H H') : Lft L left us H' :=
  ⟨l.keep _ _ (fun z => z) h.hl, ⟨h.rep.1, fun i a v e1 e2 => (h.rep.2 i a v e1 e2).le l⟩, h.ne⟩
theorem Lft.row {L : Addr} {left : List Row} {us : List V} {H : Hp} (h : Lft L left us H) {i : Nat} {r : Row} (hr : left[i]? = some r) : ∃ p, us[i]? = some (.ref p) ∧ H p = some (.lst (r.map V.int)) := by
  have hi : i < us.length := by rw [h.rep.1]; exact (List.getElem?_eq_some_iff.mp hr).1
  obtain ⟨p, e, hp⟩ := h.rep.2 i r _ hr (List.getElem?_eq_getElem hi)
  exact ⟨p, by rw [List.getElem?_eq_getElem hi, e], hp⟩
theorem Lft.set {L : Addr} {left : List Row} {us : List V} {H : Hp} (h : Lft L left us H) {i : Nat} {r : Row} {v : V} (hv : RowL r v H) (ne : v ≠ .ref L) : Lft L (left.set i r) (us.set i v) (upd H L (.lst (us.set i v))) := by
  refine ⟨upd_same, ⟨by rw [List.length_set, List.length_set]; exact h.rep.1, fun j b u e1 e2 => ?_⟩, fun u hu => ?_⟩
  · by_cases e : i = j
    · subst e
      by_cases hi : i < left.length
      · rw [List.getElem?_set_self hi] at e1
        rw [List.getElem?_set_self (by rw [h.rep.1]; exact hi)] at e2
        cases e1; cases e2; exact hv.upd ne
      · rw [List.getElem?_eq_none (by rw [List.length_set]; omega)] at e1; cases e1
    · rw [List.getElem?_set_ne e] at e1 e2
      exact (h.rep.2 j b u e1 e2).upd (h.ne u (List.mem_of_getElem? e2))
  · rcases List.mem_iff_getElem?.mp hu with ⟨j, hj⟩
    by_cases e : i = j
    · subst e
      by_cases hi : i < us.length
      · rw [List.getElem?_set_self hi] at hj; cases hj; exact ne
      · rw [List.getElem?_eq_none (by rw [List.length_set]; omega)] at hj; cases hj
    · rw [List.getElem?_set_ne e] at hj; exact h.ne u (List.mem_of_getElem? hj)
/-- the matrix that a heap holds at L -/
def hrow (o : Option HO) : Row := match o with
  | some (.lst vs) => vs.map fun v => match v with | .int i => i | _ => 0
  | _ => []
def hmat (H : Hp) (L : Addr) : List Row := match H L with
  | some (.lst us) => us.map fun v => match v with | .ref p => hrow (H p) | _ => []
  | _ => []
theorem hrow_ints (r : Row) : hrow (some (.lst (r.map V.int))) = r := by
  show List.map _ (r.map V.int) = r
  rw [List.map_map]
  exact List.map_id'' (fun _ => rfl) r
theorem Lft.mat {L : Addr} {left : List Row} {us : List V} {H : Hp} (h : Lft L left us H) : hmat H L = left := by
  unfold hmat
  rw [h.hl]
  apply List.ext_getElem?
  intro i
  show (List.map _ us)[i]? = _
  rw [List.getElem?_map]
  by_cases hi : i < left.length
  · obtain ⟨p, e, hp⟩ := h.row (List.getElem?_eq_getElem hi)
    rw [e, List.getElem?_eq_getElem hi, Option.map_some]
    show some (hrow (H p)) = _
    rw [hp, hrow_ints]
  · rw [List.getElem?_eq_none (by rw [h.rep.1]; omega), List.getElem?_eq_none (by omega)]; rfl
theorem Lft.push {L : Addr} {left : List Row} {us : List V} {H : Hp} (h : Lft L left us H) {r : Row} {v : V} (hv : RowL r v H) (ne : v ≠ .ref L) : Lft L (left ++ [r]) (us ++ [v]) (upd H L (.lst (us ++ [v]))) := by
  refine ⟨upd_same, ⟨by rw [List.length_append, List.length_append, h.rep.1]; rfl, fun j b u e1 e2 => ?_⟩, fun u hu => ?_⟩
  · by_cases hj : j < us.length
    · rw [List.getElem?_append_left hj] at e2
      rw [List.getElem?_append_left (by rw [← h.rep.1]; exact hj)] at e1
      exact (h.rep.2 j b u e1 e2).upd (h.ne u (List.mem_of_getElem? e2))
    · have hj' : j = us.length := by
        have := (List.getElem?_eq_some_iff.mp e2).1
        rw [List.length_append] at this
        have e : [v].length = 1 := rfl
        omega
      subst hj'
      rw [List.getElem?_concat_length] at e2
      rw [h.rep.1, List.getElem?_concat_length] at e1
      cases e1; cases e2
      exact hv.upd ne
  · rcases List.mem_append.mp hu with hu | hu
    · exact h.ne u hu
    · rw [List.mem_singleton.mp hu]; exact ne
/-- a comprehension of fresh lists -/
theorem LcK.rows {X : Cx} {σ : L2.St} {scope : Scope} {tg elt : Expr} {own : List Nat} {J : It} {H0 H1 : Hp} {rows : List Row} {n : Nat} {G : Hp → Prop} {Y : Nat → Hp → V → Hp → Prop} (w : Walk J n G Y) (hz : rows.length = n) (hn : n ≤ 100000) (l0 : Le none H0 H1) (hY : ∀ i H x H', Jn none H → Y i H x H' → Le none H H') (hG : ∀ H', Le none H1 H' → G H')
    (turn : ∀ i r x H' H'', rows[i]? = some r → Le none H1 H' → Y i H' x H'' → ∃ σ2, Blk X scope (fun X' => Tg X' tg x (wipe σ own) H'' σ2) ∧ wipe σ2 own = wipe σ own ∧ Blk X scope (fun X' => R X' none elt σ2 H'' (fun v H2 => ∃ p, v = .ref p ∧ H'' p = none ∧ H2 p = some (.lst (r.map V.int))))) :
    LcK X none scope tg [] elt own σ J H1 (fun v H2 => ∃ L us, v = .ref L ∧ H0 L = none ∧ Lft L rows us H2) := by
  intro L hL
  refine ⟨n, G, Y, w, hn, hY, fun i vs H' => Lft L (rows.take i) vs H', ⟨upd_same, ⟨by simp, fun i a v e1 e2 => by simp at e2⟩, fun v hv => nomatch hv⟩, fun i vs H' _ l _ => hG H' l, fun i vs x H' H'' hi l jn jn2 hv hp y => ?_, fun vs H' l _ hv _ hp => ⟨L, vs, rfl, l0.fresh trivial hL, by rw [← hz, List.take_length] at hp; exact hp⟩⟩
  have hr := List.getElem?_eq_getElem (l := rows) (i := i) (by omega)
  obtain ⟨σ2, t, e, r⟩ := turn i _ x H' H'' hr l y
  have ly := hY i H' x H'' jn y
  refine ⟨σ2, t, e, (· = true), fun s H C cl fp => RTs.nil, (fun z => Bool.noConfusion z), fun _ => ⟨_, r, fun y H3 l3 j3 ⟨p, ep, hp0, hp3⟩ hv3 => ?_⟩⟩
  have hL2 := ly.keep _ _ (fun z => z) hv
  show Lft L (List.take (i + 1) rows) _ _
  have hp : Lft L (List.take i rows) vs H' := hp
  rw [List.take_add_one, hr]
  exact ((hp.le ly).le l3).push ⟨p, ep, hp3⟩ (fun z => by
    rw [ep] at z
    cases z
    rw [hL2] at hp0
    cases hp0)
end K62
end
section
set_option linter.all false
set_option exponentiation.threshold 100
/-! The corner form: the places of a column that are not zero. -/
namespace K62
def nzi (left : List Row) (d i : Nat) : List Nat := (List.range (d - i)).filter fun k => decide (gg left (i + k) i ≠ 0)
theorem nzi_mem {left : List Row} {d i k : Nat} : k ∈ nzi left d i ↔ k < d - i ∧ gg left (i + k) i ≠ 0 := by
  unfold nzi; rw [List.mem_filter, List.mem_range]; simp
theorem nzi_nodup {left : List Row} {d i : Nat} : (nzi left d i).Nodup := List.nodup_range.filter _
theorem nzi_two {left : List Row} {d i : Nat} (L : Nat) (h : 1 < (nzi left d i).length) : i + 2 ≤ d ∧ ∃ k, i ≤ k ∧ k < d ∧ k ≠ L ∧ gg left k i ≠ 0 := by
  have h1 : (nzi left d i).length ≤ d - i := by
    have := List.length_filter_le (fun k => decide (gg left (i + k) i ≠ 0)) (List.range (d - i))
    rw [List.length_range] at this
    exact this
  refine ⟨by omega, ?_⟩
  have nd := nzi_nodup (left := left) (d := d) (i := i)
  have mem := fun k => nzi_mem (left := left) (d := d) (i := i) (k := k)
  generalize nzi left d i = l at h nd mem
  match l, h with
  | x :: y :: r, _ =>
    have hx := (mem x).mp (List.mem_cons_self ..)
    have hy := (mem y).mp (List.mem_cons_of_mem _ (List.mem_cons_self ..))
    have ne : x ≠ y := fun e => by
      subst e
      exact (List.nodup_cons.mp nd).1 (List.mem_cons_self ..)
    by_cases e : i + x = L
    · exact ⟨i + y, by omega, by omega, by omega, hy.2⟩
    · exact ⟨i + x, by omega, by omega, e, hx.2⟩
theorem nzi_one {left : List Row} {d i k : Nat} (h : (nzi left d i).length ≤ 1) (h1 : i ≤ k) (h2 : k < d) (h3 : gg left k i ≠ 0) : nzi left d i = [k - i] ∧ ∀ j, i ≤ j → j < d → gg left j i ≠ 0 → j = k := by
  have hk : k - i ∈ nzi left d i := nzi_mem.mpr ⟨by omega, by rw [show i + (k - i) = k by omega]; exact h3⟩
  have e : nzi left d i = [k - i] := by
    generalize nzi left d i = l at h hk
    match l, h, hk with
    | [x], _, hk => rw [List.mem_singleton.mp hk]
  refine ⟨e, fun j j1 j2 j3 => ?_⟩
  have hj : j - i ∈ nzi left d i := nzi_mem.mpr ⟨by omega, by rw [show i + (j - i) = j by omega]; exact j3⟩
  rw [e] at hj
  have := List.mem_singleton.mp hj
  omega
theorem swap_piv {d i k A : Nat} {left : List Row} {ri rk : Row} (C : Cf d i left A) (h1 : i ≤ k) (h2 : k < d) (h3 : gg left k i ≠ 0) (one : ∀ j, i ≤ j → j < d → gg left j i ≠ 0 → j = k) (hi : left[i]? = some ri) (hk : left[k]? = some rk) :
    gg ((left.set i rk).set k ri) i i ≠ 0 ∧ ∀ j, i < j → j < d → gg ((left.set i rk).set k ri) j i = 0 := by
  have rows : ∀ (j : Nat), j < d → ((left.set i rk).set k ri)[j]? = if j = k then some ri else if j = i then some rk else left[j]? := fun j hj => by
    by_cases e : j = k
    · subst e; rw [if_pos rfl, List.getElem?_set_self (by rw [List.length_set, C.len]; exact hj)]
    · rw [if_neg e, List.getElem?_set_ne (fun z => e z.symm)]
      by_cases e2 : j = i
      · subst e2; rw [if_pos rfl, List.getElem?_set_self (by rw [C.len]; exact hj)]
      · rw [if_neg e2, List.getElem?_set_ne (fun z => e2 z.symm)]
  rw [gg_of hk] at h3
  refine ⟨?_, fun j j1 j2 => ?_⟩
  · have r := rows i (by omega)
    by_cases e : i = k
    · subst e
      rw [if_pos rfl] at r
      rw [hi] at hk; cases hk
      rw [gg_of r]; exact h3
    · rw [if_neg e, if_pos rfl] at r
      rw [gg_of r]; exact h3
  · have r := rows j j2
    refine Classical.byContradiction fun z => ?_
    by_cases e : j = k
    · rw [if_pos e] at r
      rw [gg_of r, ← gg_of hi] at z
      have := one i (Nat.le_refl _) (by omega) z
      omega
    · rw [if_neg e, if_neg (by omega)] at r
      have : gg ((left.set i rk).set k ri) j i = gg left j i := by
        unfold gg
        rw [List.getD_eq_getElem?_getD (l := (left.set i rk).set k ri), r, ← List.getD_eq_getElem?_getD]
      rw [this] at z
      exact e (one j (by omega) j2 z)
theorem neg_piv {d i : Nat} {left : List Row} {ri : Row} (hi : left[i]? = some ri) (h1 : gg left i i ≠ 0) (h2 : ∀ j, i < j → j < d → gg left j i = 0) :
    gg (left.set i (ngr ri)) i i ≠ 0 ∧ ∀ j, i < j → j < d → gg (left.set i (ngr ri)) j i = 0 := by
  have hid : i < left.length := (List.getElem?_eq_some_iff.mp hi).1
  refine ⟨?_, fun j j1 j2 => ?_⟩
  · rw [gg_of (List.getElem?_set_self hid), ngr_getD, ← gg_of hi]
    omega
  · rw [← h2 j j1 j2]
    unfold gg
    rw [List.getD_eq_getElem?_getD (l := left.set i (ngr ri)), List.getElem?_set_ne (by omega), ← List.getD_eq_getElem?_getD]
/-- the least entry of a column -/
theorem nzi_least {left : List Row} {d i : Nat} {m : Int × Int} (hm : m ∈ (nzi left d i).map fun k => (((gg left (i + k) i).natAbs : Int), ((i + k : Nat) : Int))) (hl : ∀ y ∈ (nzi left d i).map (fun k => (((gg left (i + k) i).natAbs : Int), ((i + k : Nat) : Int))), m.1 ≤ y.1) :
    ∃ L : Nat, m.2 = (L : Int) ∧ i ≤ L ∧ L < d ∧ gg left L i ≠ 0 ∧ ∀ k, i ≤ k → k < d → gg left k i ≠ 0 → (gg left L i).natAbs ≤ (gg left k i).natAbs := by
  obtain ⟨k, hk, rfl⟩ := List.mem_map.mp hm
  obtain ⟨k1, k2⟩ := nzi_mem.mp hk
  refine ⟨i + k, rfl, by omega, by omega, k2, fun j j1 j2 j3 => ?_⟩
  have hj : j - i ∈ nzi left d i := nzi_mem.mpr ⟨by omega, by rw [show i + (j - i) = j by omega]; exact j3⟩
  have := hl _ (List.mem_map.mpr ⟨_, hj, rfl⟩)
  rw [show i + (j - i) = j by omega] at this
  exact Int.ofNat_le.mp this
theorem Ab_le : ∀ n, Ab n ≤ 84035
  | 0 => by decide
  | 1 => by decide
  | _ + 2 => Nat.le_refl _
theorem Rj.mulok {d i j A : Nat} {left0 left : List Row} (C : Cf d d left0 A) (d3 : d ≤ 3) (R : Rj d i j left0 left) (hij : i < j) (hj : j < d) :
    ∃ a b, ((gg left i j).fdiv (gg left j j)).natAbs < 2 ^ a ∧ (∀ y ∈ left.getD j [], y.natAbs < 2 ^ b) ∧ 0 < a ∧ 0 < b ∧ a + b ≤ 1000000 := by
  have hri := row_of (left := left) (k := i) (by rw [R.len]; omega)
  have hrj := row_of (left := left) (k := j) (by rw [R.len]; omega)
  have li := R.lens _ (List.mem_of_getElem? hri)
  refine ⟨gb i j, Ab (j + 1) + 1, ?_, C.bd (by rw [← R.rest j hij]; exact hrj), by unfold gb; omega, by omega, ?_⟩
  · refine Nat.lt_of_le_of_lt (fdiv_abs (R.nz C hj)) ?_
    exact R.row _ hri _ (getD_mem (by omega))
  · have h1 := Ab_le (i + 1)
    have h2 := Ab_le (j + 1)
    have h3 : (j - i - 1) * 84037 ≤ 1 * 84037 := Nat.mul_le_mul_right _ (by omega)
    unfold gb
    omega
theorem Wh.mulok {d i L A k : Nat} {left : List Row} (W : Wh d i left A) (d3 : d ≤ 3) (hi : i < d) (h1 : i ≤ k) (h2 : k < d) (h3 : i ≤ L) (h4 : L < d) (m0 : gg left L i ≠ 0) :
    ((gg left k i).fdiv (gg left L i)).natAbs < 2 ^ 84036 ∧ (∀ y ∈ left.getD L [], y.natAbs < 2 ^ 84036) := by
  have hA := W.bits d3 hi
  have hk := row_of (left := left) (k := k) (by rw [W.cf.len]; omega)
  have hL := row_of (left := left) (k := L) (by rw [W.cf.len]; omega)
  refine ⟨Nat.lt_of_le_of_lt (Nat.le_trans (fdiv_abs m0) ?_) hA, fun y hy => Nat.lt_of_le_of_lt (W.cf.ent L _ h3 hL y hy) hA⟩
  exact W.cf.ent k _ h1 hk _ (getD_mem (by rw [W.cf.lens _ (List.mem_of_getElem? hk)]; exact hi))
end K62
end
section
set_option Elab.async false
set_option linter.all false
set_option maxRecDepth 100000
set_option maxHeartbeats 4000000
namespace K62
open PySem PySem.Spec PyProof.Rows L2
/-! rules for corner_form -/
instance {p : IP} : Fz (PiR p) := ⟨fun _ _ _ t ⟨T, e, h⟩ => ⟨T, e, t _ _ h⟩⟩
section
variable {X : Cx} {U : UA} {σ : L2.St} {H : Hp} {e a b c : Expr} {P Pa Pb : VP} {pos q : Pos}
/-- pairs of ints, with a test -/
theorem LcK.selP {scope : Scope} {tg elt : Expr} {ifs : List Expr} {own : List Nat} {J : It} {H0 H1 : Hp} {n : Nat} {G : Hp → Prop} {Y : Nat → Hp → V → Hp → Prop} (f : Nat → Bool) (g : Nat → IP) (w : Walk J n G Y) (hn : n ≤ 100000) (l0 : Le U H0 H1) (j0 : Jn U H0) (hY : ∀ i H x H', Jn U H → Y i H x H' → Le U H H') (hG : ∀ H', Le U H1 H' → G H')
    (turn : ∀ i x H' H'', i < n → Le U H1 H' → Jn U H'' → Y i H' x H'' → ∃ σ2, Blk X scope (fun X' => Tg X' tg x (wipe σ own) H'' σ2) ∧ wipe σ2 own = wipe σ own ∧ Blk X scope (fun X' => RTs X' U ifs σ2 H'' (· = f i)) ∧ (f i = true → Blk X scope (fun X' => K62.R X' U elt σ2 H'' (PiR (g i))))) :
    LcK X U scope tg ifs elt own σ J H1 (NLs U H0 fun vs H2 => Rep2 PiR (((List.range n).filter f).map g) vs H2) := by
  intro L hL
  have j1 := l0.jn j0
  refine ⟨n, G, Y, w, hn, hY, fun i vs H' => Rep2 PiR (((List.range i).filter f).map g) vs H', ⟨rfl, fun i a v e1 e2 => by simp at e2⟩, fun i vs H' _ l _ => hG H' l, fun i vs x H' H'' hi l jn jn2 hv p1 y => ?_, fun vs H' l _ hv hz p1 => ⟨L, vs, rfl, l0.fresh j0 hL, Le.nmv j1 hL, hv, p1⟩⟩
  obtain ⟨σ2, t, e, r1, r2⟩ := turn i x H' H'' hi l jn2 y
  have ly := hY i H' x H'' jn y
  have p1 : Rep2 PiR (((List.range i).filter f).map g) vs H' := p1
  refine ⟨σ2, t, e, (· = f i), r1, fun z H3 l3 _ => ?_, fun z => ⟨_, r2 z.symm, fun y H3 l3 j3 py hv3 => ?_⟩⟩
  · have z : f i = false := z.symm
    have e : ((List.range (i + 1)).filter f).map g = ((List.range i).filter f).map g := by
      rw [List.range_succ, List.filter_append, List.filter_cons, z]; simp
    show Rep2 PiR (((List.range (i + 1)).filter f).map g) vs H3
    rw [e]
    exact p1.tk (ly.trans l3).tup
  · have z : f i = true := z.symm
    have e : ((List.range (i + 1)).filter f).map g = ((List.range i).filter f).map g ++ [g i] := by
      rw [List.range_succ, List.filter_append, List.filter_cons, z]; simp
    show Rep2 PiR (((List.range (i + 1)).filter f).map g) (vs ++ [y]) _
    rw [e]
    have tk : Tk H3 (upd H3 L (.lst (vs ++ [y]))) := fun a xs ha => by
      rw [upd_ne fun z => by rw [z, hv3] at ha; cases ha]
      exact ha
    refine Rep2.app (p1.tk ((ly.trans l3).tup.trans tk)) ⟨rfl, fun j a v e1 e2 => ?_⟩
    cases j with
    | zero => cases e1; cases e2; exact Fz.mv _ _ _ tk py
    | succ j => simp at e1
/-- a pair of ints -/
def PrV (φ : IP → Prop) : VP := fun v H => ∃ T m, v = .ref T ∧ H T = some (.tup [.int m.1, .int m.2]) ∧ φ m
instance {φ : IP → Prop} : Fz (PrV φ) := ⟨fun _ _ _ t ⟨T, m, e, h, p⟩ => ⟨T, m, e, t _ _ h, p⟩⟩
theorem R.snd {φ : IP → Prop} {k p'} (ha : K62.R X U a σ H (PrV φ)) : K62.R X U (.Subscript a (.Constant (.int 1) k p') pos) σ H (In fun i => ∃ m, φ m ∧ i = m.2) :=
  R.ix (fun _ _ => rfl) ha R.int ix_tup fun x y H1 l j ⟨T, m, e, hT, p⟩ hy Q q => ⟨T, _, 1, .int m.2, e, hy, .inl (.inl hT), rfl, q _ H1 (Le.refl _) j ⟨_, rfl, m, p, rfl⟩⟩
/-- [..][k] of a new list -/
theorem R.ixNew {H0 : Hp} {xs : List V} {k : Int} {v : V} (ha : K62.R X U a σ H (NLs U H0 fun vs _ => vs = xs)) (hb : K62.R X U b σ H (Is (.int k))) (hi : atI xs k = some v) (hs : PlainIx b := by exact fun _ _ => rfl) : K62.R X U (.Subscript a b pos) σ H (Is v) :=
  R.of (pe_ix ix_list ha hb hs) fun H1 l j Q q => ⟨rfl, l, j, fun x H2 l2 j2 ⟨L, vs, e, _, nm, hL, hv⟩ => ⟨rfl, l.trans l2, j2, fun y H3 l3 j3 py => ⟨L, xs, k, v, e, py, .inl (.inl (hv ▸ l3.keep _ _ nm hL)), hi, q v H3 (l2.trans l3) j3 rfl⟩⟩⟩
end
theorem atI_row {r : Row} {d j : Nat} (h : r.length = d) (hj : j < d) : atI (r.map V.int) (j : Int) = some (V.int (r.getD j 0)) :=
  atI_nat (j := j) (by rw [List.getElem?_map, List.getElem?_eq_getElem (by omega), List.getD_eq_getElem?_getD, List.getElem?_eq_getElem (by omega)]; rfl)
theorem Lft.swap {L : Addr} {left : List Row} {us : List V} {H H' : Hp} (h : Lft L left us H) {i k : Nat} {ri rk : Row} {ui uk : V} (hri : left[i]? = some ri) (hrk : left[k]? = some rk) (hui : us[i]? = some ui) (huk : us[k]? = some uk) (kp : ∀ q ob, q ≠ L → H q = some ob → H' q = some ob)
    (hL : H' L = some (.lst ((us.set i uk).set k ui))) : Lft L ((left.set i rk).set k ri) ((us.set i uk).set k ui) H' := by
  have st : ∀ {j : Nat} {a : Row} {v : V}, left[j]? = some a → us[j]? = some v → RowL a v H' := fun {j a v} e1 e2 => by
    obtain ⟨p, e, hp⟩ := h.rep.2 j a v e1 e2
    exact ⟨p, e, kp p _ (fun z => h.ne v (List.mem_of_getElem? e2) (by rw [e, z])) hp⟩
  have rep : Rep2 RowL left us H' := ⟨h.rep.1, fun j a v e1 e2 => st e1 e2⟩
  refine ⟨hL, (rep.set (st hrk huk)).set (st hri hui), fun v hv => ?_⟩
  rcases mem_set hv with rfl | ⟨j, _, hj⟩
  · exact h.ne _ (List.mem_of_getElem? hui)
  · rcases mem_set (List.mem_of_getElem? hj) with rfl | ⟨j', _, hj'⟩
    · exact h.ne _ (List.mem_of_getElem? huk)
    · exact h.ne _ (List.mem_of_getElem? hj')
theorem rowsub_range {ra rl : Row} {q : Int} : (List.range (min ra.length rl.length)).map (fun i => ra.getD i 0 - q * rl.getD i 0) = addk ra (-q) rl := by
  rw [show (fun i => ra.getD i 0 - q * rl.getD i 0) = fun i => (fun x y => x + -q * y) (ra.getD i 0) (rl.getD i 0) from funext fun i => by
    show _ - _ = _ + -q * _
    rw [Int.neg_mul]; omega]
  exact zip_range (fun x y => x + -q * y) ra rl
theorem ngr_range {r : Row} : (List.range (r.map V.int).length).map (fun i => -r.getD i 0) = ngr r := by
  rw [List.length_map]
  unfold ngr
  conv => rhs; rw [← range_getD r, List.map_map]
  rfl
end K62
end
section
set_option Elab.async false
set_option linter.all false
set_option maxRecDepth 100000
set_option maxHeartbeats 4000000
set_option exponentiation.threshold 100
namespace K62
open PySem PySem.Spec PyProof.Rows L2
variable {P : Program} {w : World} {K : PySem.W.Frag} {mg : Str → Option Value} {base : Heap}
theorem ok_corner_form (hN : base.NoSeer) (hT : P.given.tree = none) (F : DefAt K mg "corner_form" s_corner_form ps_corner_form) (B : Bln mg) : Callee P w K mg base 40 "corner_form" ps_corner_form sp_corner_form := by
  refine callee_of F sc_corner_form (fun vs H Q E h => ?_) fun f cdv A outer s H vs Q E hr h => ?_
  · obtain ⟨a, _, ⟨v, w, rfl, _⟩, _⟩ := h; rfl
  obtain ⟨⟨d, steps⟩, _, ⟨p, us, rfl, hp, hrep, d1, d3, C0⟩, k⟩ := h
  have d1 : 1 ≤ d := d1
  have d3 : d ≤ 3 := d3
  have z : Seer (cxOf CX0 P w K mg base N_corner_form "corner_form" (defScope s_corner_form) f cdv A outer s H E).nox := ⟨hN, hT, ⟨outer, rfl⟩, rfl, rfl, by have := hr.dp; show (A.deeper _).depth + 100 < _; omega⟩
  have hul : us.length = d := hrep.1.trans C0.len
  have hu : (A.deeper (envOfC "corner_form" (defScope s_corner_form) s.heap.objs.size f cdv)).units + 64 < cLine := by have := hr.un; omega
  refine S.asgT (U := none) (P := fun v H1 => ∃ T L us1, v = .ref T ∧ H1 T = some (.tup [.ref L, .int d]) ∧ H L = none ∧ Lft L steps us1 H1) trivial (R.tup (RA.consS (P := fun v H1 => ∃ L us1, v = .ref L ∧ H L = none ∧ Lft L steps us1 H1) (fun v H2 H3 l ⟨L, us1, e, h1, h2⟩ => ⟨L, us1, e, h1, h2.le l⟩) (R.lc (own := [("step", 8)]) rfl sc_corner_form.nd (Src.lst (U := none) (R.var (i := 0) rfl (.inl rfl) rfl) hp (fun z => z)) (blkOk_by (N := N_corner_form) (sc := defScope s_corner_form) (by decide +kernel))
    (fun J H1 l j wk => LcK.rows (rows := steps) wk (by rw [hul]; exact C0.len) (by rw [hul]; omega) l (fun i H x H' => yAt_le) (fun H' l' => l'.keep _ _ (fun z => z) (l.keep _ _ (fun z => z) hp)) (fun i r x H' H'' hr' l' yy => ?_))) (RA.last (P := Is (.int d)) (R.imp (R.lenL (U := none) (by rfl) B.len hp (fun z => z) (R.var (i := 0) rfl (.inl rfl) rfl)) ?_))) ?_ ?_) fun v H1 l1 _ hv => ?_
  · obtain ⟨rfl, hy⟩ := yy
    obtain ⟨sr, hs1, q, rfl, hq⟩ := (hrep.tk (l.trans l').tup).get hy
    rw [hr'] at hs1
    cases hs1
    exact ⟨_, fun s Hb C cl fp => Tg.name sc_corner_form.nd (i := 8) rfl (.inl rfl), rfl, fun s Hb C cl fp => (R.listT (U := none) trivial (by rfl) B.list hq (R.var (i := 8) rfl (.inl rfl) rfl)).imp fun v H2 l2 ⟨L, vs, e, h1, _, h2, h3⟩ => ⟨L, e, h1, by rw [h2, h3]⟩⟩
  · rintro v H1 _ rfl; rw [hul]; exact rfl
  · rintro vs H8 ⟨v, r, rfl, _, v', r', rfl, _, rfl⟩; show 2 ≤ sizeLine; decide
  · rintro vs p' H8 l8 _ ⟨v, r, rfl, ⟨L, us1, rfl, h1, h2⟩, v', r', rfl, rfl, rfl⟩ hn
    exact ⟨p', L, us1, rfl, upd_same, h1, h2.le (Le.new (U := none) trivial hn)⟩
  obtain ⟨T, L, us1, rfl, hT1, hL0, hL1⟩ := hv
  refine ⟨_, Tg.tup rfl hT1 (Tgs.cons (Tg.name sc_corner_form.nd (i := 1) rfl (.inr rfl)) (Tgs.cons (Tg.name sc_corner_form.nd (i := 2) rfl (.inl rfl)) Tgs.nil)), ?_⟩
  show S _ _ [some (.ref p), some (.ref L), some (.int d), none, none, none, none, none, none, none, none, none, none] _ _
  refine S.cut (Mid := fun σ' H' => ∃ left us A x3 x4 x5 x6 x7 x8 x9 x10 x11 x12, σ' = [some (.ref p), some (.ref L), some (.int d), x3, x4, x5, x6, x7, x8, x9, x10, x11, x12] ∧ Le none H H' ∧ Lft L left us H' ∧ Cf d d left A) (S1.for (U := none) (Src.range1 (n := d) (by rfl) B.range (by omega) (R.var (i := 2) rfl (.inl rfl) rfl)) trivial PassesOwn.never rfl fun J H2 l2 _ wk => ⟨_, _, _, wk,
    fun i σ' H' => ∃ left us x3 x4 x5 x6 x7 x8 x9 x10 x11 x12, σ' = [some (.ref p), some (.ref L), some (.int d), x3, x4, x5, x6, x7, x8, x9, x10, x11, x12] ∧ Le none H H' ∧ Lft L left us H' ∧ Cf d i left (2 ^ Ab i), ⟨steps, us1, _, _, _, _, _, _, _, _, _, _, rfl, l1.trans l2, hL1.le l2, C0⟩, fun _ _ _ _ _ => trivial, ?_, ?_⟩) ?_
  · rintro i v σ' H' H'' hi ⟨left, us, x3, x4, x5, x6, x7, x8, x9, x10, x11, x12, rfl, lH, hl, C⟩ ⟨rfl, rfl⟩
    have hi : i < d := by rw [Int.toNat_natCast] at hi; exact hi
    refine ⟨_, Tg.name sc_corner_form.nd (i := 3) rfl (.inr rfl), ?_⟩
    show S _ _ [some (.ref p), some (.ref L), some (.int d), some (.int i), x4, x5, x6, x7, x8, x9, x10, x11, x12] _ _
    have hlo : ((d : Int) - (i : Int)).toNat = d - i := by omega
    refine S.cut (Mid := fun σ' H' => ∃ left us A x4 x5 x6 x7 x8 x9 x10 x11 x12, σ' = [some (.ref p), some (.ref L), some (.int d), some (.int i), x4, x5, x6, x7, x8, x9, x10, x11, x12] ∧ Le none H H' ∧ Lft L left us H' ∧ Wh d i left A ∧ (nzi left d i).length ≤ 1)
      (S1.while (U := none) PassesOwn.never (fun σ' H' => ∃ left us A x4 x5 x6 x7 x8 x9 x10 x11 x12, σ' = [some (.ref p), some (.ref L), some (.int d), some (.int i), x4, x5, x6, x7, x8, x9, x10, x11, x12] ∧ Le none H H' ∧ Lft L left us H' ∧ Wh d i left A)
        (fun _ H' => S3 (colx i (hmat H' L))) ⟨left, us, _, _, _, _, _, _, _, _, _, _, rfl, lH, hl, Wh.start C⟩ (fun _ _ _ => trivial)
        (φ := fun _ H' b => b = decide (1 < (nzi (hmat H' L) d i).length)) (fun σ' H' wi => ?_) (fun σ' H' wi e H3 l3 _ => ?_) (fun σ' H' wi e H3 l3 _ => ?_)) (fun σ' H' wi => ?_)
    · -- the test
      obtain ⟨left, us, A, x4, x5, x6, x7, x8, x9, x10, x11, x12, rfl, lH, hl, W⟩ := wi
      have hlen : us.length = d := hl.rep.1.trans W.cf.len
      refine RT.imp (RT.gt (R.lenN (H0 := H') (Qs := fun vs _ => vs = Evl.given (us.drop i).length (fun k => decide (gg left (i + k) i ≠ 0)) (fun k => (us.drop i).getD k .non)) (n := (nzi left d i).length) (by rfl) B.len (R.lc (own := [("row", 9)]) rfl sc_corner_form.nd
        (Src.newLst (Q := fun xs _ => xs = us.drop i) (R.imp (R.slL (U := none) trivial hl.hl (fun z => z) (R.var (i := 1) rfl (.inr (.inl rfl)) rfl) (RO.some (R.var (i := 3) rfl (.inr (.inl rfl)) rfl)) RO.none) ?_)) (blkOk_by (N := N_corner_form) (sc := defScope s_corner_form) (by decide +kernel))
        (fun J H2 l2 j2 ⟨p2, xs, hp2, _, e2, wk⟩ => by
          subst e2
          exact LcK.sel (fun k => decide (gg left (i + k) i ≠ 0)) (fun k => (us.drop i).getD k .non) wk (by rw [List.length_drop]; omega) l2 trivial (fun i H x H' => yAt_le) (fun H' l' => l'.keep _ _ (fun z => z) hp2) (fun k y H' H'' hk l' j' yy => by
            obtain ⟨rfl, hy⟩ := yy
            have hy0 := hy
            rw [List.getElem?_drop] at hy
            rw [List.length_drop] at hk
            have hr := row_of (left := left) (k := i + k) (by rw [W.cf.len]; omega)
            obtain ⟨q, hq1, hq2⟩ := (hl.le (l2.trans l')).row hr
            rw [hy] at hq1; cases hq1
            refine ⟨_, fun s Hb C cl fp => Tg.name sc_corner_form.nd (i := 9) rfl (.inl rfl), rfl, fun s Hb C cl fp => RTs.one ((RT.ne rfl (R.ixL (U := none) hq2 (atI_row (W.cf.lens _ (List.mem_of_getElem? hr)) hi) (fun z => z) (R.var (i := 9) rfl (.inl rfl) rfl) (R.var (i := 3) rfl (.inr (.inl rfl)) rfl)) R.int).imp fun b e => ?_), fun _ s Hb C cl fp => (R.var (v := .ref q) (i := 9) rfl (.inl rfl) rfl).cast ?_⟩
            · rw [e, ne_int]; rfl
            · rw [List.getD_eq_getElem?_getD, hy0]; rfl))) ?_) R.int) ?_
      · rintro v H2 l2 ⟨L2, vs, e, _, nm, hL2, h⟩
        exact ⟨L2, vs, e, hL2, nm, h.trans (cut_lo _ _)⟩
      · rintro vs H1 rfl
        unfold Evl.given
        rw [List.length_map, List.length_drop, hlen]; rfl
      · rintro b rfl
        show decide _ = decide (1 < (nzi (hmat H' L) d i).length)
        rw [hl.mat]
        congr 1
        apply propext; constructor <;> intro h <;> omega
    · -- a pass
      obtain ⟨left, us, A, x4, x5, x6, x7, x8, x9, x10, x11, x12, rfl, lH, hl, W⟩ := wi
      have e1 : 1 < (nzi left d i).length := by
        have := of_decide_eq_true e.symm
        rwa [hl.mat] at this
      have hl3 := hl.le l3
      have hlen : us.length = d := hl.rep.1.trans W.cf.len
      refine S.asg (U := none) (P := In fun z => ∃ Lk : Nat, z = (Lk : Int) ∧ i ≤ Lk ∧ Lk < d ∧ gg left Lk i ≠ 0 ∧ ∀ k, i ≤ k → k < d → gg left k i ≠ 0 → (gg left Lk i).natAbs ≤ (gg left k i).natAbs) sc_corner_form.nd (i := 4) rfl (.inl rfl) trivial
        (R.imp (R.snd (φ := fun m => m ∈ (nzi left d i).map (fun k => (((gg left (i + k) i).natAbs : Int), ((i + k : Nat) : Int))) ∧ ∀ y ∈ (nzi left d i).map (fun k => (((gg left (i + k) i).natAbs : Int), ((i + k : Nat) : Int))), m.1 ≤ y.1)
          (R.imp (R.minP (H0 := H3) (ps := (nzi left d i).map fun k => (((gg left (i + k) i).natAbs : Int), ((i + k : Nat) : Int))) (Qs := fun vs H => Rep2 PiR ((nzi left d i).map fun k => (((gg left (i + k) i).natAbs : Int), ((i + k : Nat) : Int))) vs H) (fun _ _ h => h) (by rw [List.length_map]; omega) rfl hu (by rfl) B.min
            (R.lc (own := [("at", 5)]) rfl sc_corner_form.nd (Src.range2 (lo := i) (hi := d) (by rfl) B.range (by omega) (R.var (i := 3) rfl (.inr (.inl rfl)) rfl) (R.var (i := 2) rfl (.inl rfl) rfl)) (blkOk_by (N := N_corner_form) (sc := defScope s_corner_form) (by decide +kernel))
              (fun J H2 l2 j2 wk => by
                rw [hlo] at wk
                exact LcK.selP (fun k => decide (gg left (i + k) i ≠ 0)) (fun k => (((gg left (i + k) i).natAbs : Int), ((i + k : Nat) : Int))) wk (by omega) l2 trivial (fun i H x H' => yFn_le) (fun _ _ => trivial) (fun k y H' H'' hk l' j' yy => by
                  obtain ⟨rfl, ey⟩ := yy
                  have ey : y = V.int ((i + k : Nat) : Int) := ey.trans (congrArg V.int (by omega : (i : Int) + (k : Int) = ((i + k : Nat) : Int)))
                  subst ey
                  have hr := row_of (left := left) (k := i + k) (by rw [W.cf.len]; omega)
                  have hlc := hl3.le (l2.trans l')
                  obtain ⟨q, hq1, hq2⟩ := hlc.row hr
                  have lr := W.cf.lens _ (List.mem_of_getElem? hr)
                  refine ⟨_, fun s Hb C cl fp => Tg.name sc_corner_form.nd (i := 5) rfl (.inl rfl), rfl, fun s Hb C cl fp => RTs.one ((RT.ne rfl (R.ixL (U := none) hq2 (atI_row lr hi) (fun z => z) (R.ixL (U := none) hlc.hl (atI_nat hq1) (fun z => z) (R.var (i := 1) rfl (.inr (.inl rfl)) rfl) (R.var (i := 5) rfl (.inl rfl) rfl)) (R.var (i := 3) rfl (.inr (.inl rfl)) rfl)) R.int).imp fun b e => ?_), fun _ s Hb C cl fp =>
                    R.tup (RA.cons (R.abs (by rfl) B.abs (R.ixL (U := none) hq2 (atI_row lr hi) (fun z => z) (R.ixL (U := none) hlc.hl (atI_nat hq1) (fun z => z) (R.var (i := 1) rfl (.inr (.inl rfl)) rfl) (R.var (i := 5) rfl (.inl rfl) rfl)) (R.var (i := 3) rfl (.inr (.inl rfl)) rfl))) (RA.last (R.var (i := 5) rfl (.inl rfl) rfl))) ?_ ?_⟩
                  · rw [e, ne_int]; rfl
                  · rintro vs H8 ⟨v, r, rfl, _, v', r', rfl, _, rfl⟩; show 2 ≤ sizeLine; decide
                  · rintro vs p' H8 _ _ ⟨v, r, rfl, rfl, v', r', rfl, rfl, rfl⟩ _; exact ⟨p', rfl, upd_same⟩)))) ?_)) ?_) ?_
      · rintro v H2 l2 ⟨T, m, e, h1, h2, h3⟩; exact ⟨T, m, e, h1, h2, h3⟩
      · rintro v H2 l2 ⟨z, rfl, m, ⟨h1, h2⟩, rfl⟩
        exact ⟨_, rfl, nzi_least h1 h2⟩
      rintro v H4 l4 _ ⟨_, rfl, Lk, rfl, iL, Ld, m0, low⟩
      have l34 := l3.trans l4
      have hl4 := hl.le l34
      obtain ⟨h2d, kk, hk1, hk2, hk3, hk4⟩ := nzi_two Lk e1
      have hrl0 := row_of (left := left) (k := Lk) (by rw [W.cf.len]; omega)
      have lrl := W.cf.lens _ (List.mem_of_getElem? hrl0)
      show S _ _ [some (.ref p), some (.ref L), some (.int d), some (.int i), some (.int (Lk : Nat)), x5, x6, x7, x8, x9, x10, x11, x12] _ _
      refine S.one (S1.for (U := none) (Src.range2 (lo := i) (hi := d) (by rfl) B.range (by omega) (R.var (i := 3) rfl (.inr (.inl rfl)) rfl) (R.var (i := 2) rfl (.inl rfl) rfl)) trivial PassesOwn.never rfl fun J H6 l6 _ wk => ⟨_, _, _, wk,
        fun t σ' H' => ∃ left' us' x5 x6 x7 x8 x9 x10 x11 x12, σ' = [some (.ref p), some (.ref L), some (.int d), some (.int i), some (.int (Lk : Nat)), x5, x6, x7, x8, x9, x10, x11, x12] ∧ Le none H H' ∧ Lft L left' us' H' ∧ Mid left i Lk t left', ⟨left, us, _, _, _, _, _, _, _, _, rfl, lH.trans (l34.trans l6), hl4.le l6, Mid.start left i Lk⟩, fun _ _ _ _ _ => trivial, ?_, ?_⟩)
      · rintro t v σ' H5 H5' ht ⟨left', us', x5, x6, x7, x8, x9, x10, x11, x12, rfl, lH', hl', M⟩ ⟨rfl, ey⟩
        have ht : i + t < d := by omega
        have ey : v = V.int ((i + t : Nat) : Int) := ey.trans (congrArg V.int (by omega : (i : Int) + (t : Int) = ((i + t : Nat) : Int)))
        subst ey
        refine ⟨_, Tg.name sc_corner_form.nd (i := 5) rfl (.inl rfl), ?_⟩
        show S _ _ [some (.ref p), some (.ref L), some (.int d), some (.int i), some (.int (Lk : Nat)), some (.int ((i + t : Nat) : Int)), x6, x7, x8, x9, x10, x11, x12] _ _
        have hra0 := row_of (left := left) (k := i + t) (by rw [W.cf.len]; omega)
        have lra := W.cf.lens _ (List.mem_of_getElem? hra0)
        obtain ⟨pa, hpa1, hpa2⟩ := hl'.row ((M.still (.inr (.inl (Nat.le_refl _)))).trans hra0)
        obtain ⟨pl, hpl1, hpl2⟩ := hl'.row ((M.still (.inr (.inr rfl))).trans hrl0)
        obtain ⟨mo1, mo2⟩ := W.mulok d3 hi (show i ≤ i + t by omega) ht iL Ld m0
        refine S.if (U := none) trivial (RW.pt (RW.andB (RT.ne rfl (R.var (i := 5) rfl (.inl rfl) rfl) (R.var (i := 4) rfl (.inl rfl) rfl)) (fun _ => RW.and1 (RT.ne rfl (R.ixL (U := none) hpa2 (atI_row lra hi) (fun z => z) (R.ixL (U := none) hl'.hl (atI_nat hpa1) (fun z => z) (R.var (i := 1) rfl (.inr (.inl rfl)) rfl) (R.var (i := 5) rfl (.inl rfl) rfl)) (R.var (i := 3) rfl (.inr (.inl rfl)) rfl)) R.int)))) (fun q H7 l7 _ => ?_) (fun q H7 l7 _ => S.nil (S.nil ?_))
        · have q := Bool.and_eq_true_iff.mp q.symm
          have q1 : i + t ≠ Lk := fun z => by rw [z] at q; simp at q
          have q2 : gg left (i + t) i ≠ 0 := fun z => by
            have q := q.2
            rw [ne_int] at q
            exact of_decide_eq_true q z
          have hl7 := hl'.le l7
          have hpa7 := l7.keep _ _ (fun z => z) hpa2
          have hpl7 := l7.keep _ _ (fun z => z) hpl2
          refine S.asgI (U := none) (v := .int ((gg left (i + t) i).fdiv (gg left Lk i))) sc_corner_form.nd (i := 6) rfl (.inr rfl) trivial (R.fdivZ z m0 (R.ixL (U := none) hpa7 (atI_row lra hi) (fun z => z) (R.ixL (U := none) hl7.hl (atI_nat hpa1) (fun z => z) (R.var (i := 1) rfl (.inr (.inl rfl)) rfl) (R.var (i := 5) rfl (.inl rfl) rfl)) (R.var (i := 3) rfl (.inr (.inl rfl)) rfl)) (R.ixL (U := none) hpl7 (atI_row lrl hi) (fun z => z) (R.ixL (U := none) hl7.hl (atI_nat hpl1) (fun z => z) (R.var (i := 1) rfl (.inr (.inl rfl)) rfl) (R.var (i := 4) rfl (.inl rfl) rfl)) (R.var (i := 3) rfl (.inr (.inl rfl)) rfl))) fun H8 l8 _ => ?_
          have hl8 := hl7.le l8
          have hpa8 := l8.keep _ _ (fun z => z) hpa7
          have hpl8 := l8.keep _ _ (fun z => z) hpl7
          show S _ _ [some (.ref p), some (.ref L), some (.int d), some (.int i), some (.int (Lk : Nat)), some (.int ((i + t : Nat) : Int)), some (.int ((gg left (i + t) i).fdiv (gg left Lk i))), x7, x8, x9, x10, x11, x12] _ _
          refine S.setL (U := none) (P := NLs none H8 fun vs _ => vs = (addk (left.getD (i + t) []) (-((gg left (i + t) i).fdiv (gg left Lk i))) (left.getD Lk [])).map V.int) trivial (R.imp (R.lc (P := NLs none H8 fun vs H2 => vs.length = min ((left.getD (i + t) []).map V.int).length ((left.getD Lk []).map V.int).length ∧ ∀ k y, vs[k]? = some y → Is (.int ((left.getD (i + t) []).getD k 0 - (gg left (i + t) i).fdiv (gg left Lk i) * (left.getD Lk []).getD k 0)) y H2) (own := [("a", 10), ("b", 11)]) rfl sc_corner_form.nd
            (Src.zipL (U := none) (by rfl) B.zip (R.ixL (U := none) hl8.hl (atI_nat hpa1) (fun z => z) (R.var (i := 1) rfl (.inr (.inl rfl)) rfl) (R.var (i := 5) rfl (.inl rfl) rfl)) (R.ixL (U := none) hl8.hl (atI_nat hpl1) (fun z => z) (R.var (i := 1) rfl (.inr (.inl rfl)) rfl) (R.var (i := 4) rfl (.inl rfl) rfl)) hpa8 hpl8 (fun z => z) (fun z => z)) (blkOk_by (N := N_corner_form) (sc := defScope s_corner_form) (by decide +kernel))
            (fun J H6 l6 j6 wk => LcK.zip (j1 := 10) (j2 := 11) (fun k => Is (.int ((left.getD (i + t) []).getD k 0 - (gg left (i + t) i).fdiv (gg left Lk i) * (left.getD Lk []).getD k 0))) wk (by rw [List.length_map, List.length_map]; omega) l6 trivial (fun H' l' => ⟨l'.keep _ _ (fun z => z) (l6.keep _ _ (fun z => z) hpa8), l'.keep _ _ (fun z => z) (l6.keep _ _ (fun z => z) hpl8)⟩)
              (fun T x y H'' hT s Hb C cl fp => Tg.tup rfl hT (Tgs.cons (Tg.name sc_corner_form.nd (i := 10) rfl (.inl rfl)) (Tgs.cons (Tg.name sc_corner_form.nd (i := 11) rfl (.inl rfl)) Tgs.nil)))
              (fun k x y H'' hi l' j' hx hy s Hb C cl fp => ?_))) ?_) ?_
          · obtain ⟨rfl, hm1⟩ := getV hx
            obtain ⟨rfl, hm2⟩ := getV hy
            exact R.sub (R.var (i := 10) rfl (.inl rfl) rfl) (R.mul (wide_mul mo1 (mo2 _ hm2) (by decide) (by decide) (by decide)) (R.var (i := 6) rfl (.inr (.inl rfl)) rfl) (R.var (i := 11) rfl (.inl rfl) rfl))
          · rintro v H6 l6 ⟨q, vs, rfl, hq0, nm, hq, hz, hv⟩
            refine ⟨q, vs, rfl, hq0, nm, hq, ?_⟩
            rw [ints_of hz hv, List.length_map, List.length_map, rowsub_range]
          rintro v H9 l9 _ ⟨q, vs, rfl, hq0, _, hq9, rfl⟩
          refine ⟨L, us', _, i + t, R.var (i := 1) rfl (.inr (.inl rfl)) rfl, R.var (i := 5) rfl (.inl rfl) rfl, (hl8.le l9).hl, (fun z => z), ixN_nat (by rw [hl'.rep.1, M.len, W.cf.len]; omega), fun H10 l10 _ hL10 => S.nil (S.nil ?_)⟩
          have l710 := ((l7.trans l8).trans l9).trans l10
          exact ⟨_, _, _, _, _, _, _, _, _, _, rfl, (lH'.trans l710).mut trivial hL0, ((hl8.le l9).le l10).set ⟨q, rfl, l10.keep _ _ (fun z => z) hq9⟩ (fun e => by
            cases e
            have := hl8.hl
            rw [hq0] at this; cases this), M.turn q1 q2 hra0⟩
        · refine ⟨left', us', _, _, _, _, _, _, _, _, rfl, lH'.trans l7, hl'.le l7, M.same ?_⟩
          by_cases h1 : i + t = Lk
          · exact .inl h1
          · refine .inr (Classical.byContradiction fun h2 => ?_)
            have h3 : (!decide (V.int ((i + t : Nat) : Int) = V.int (Lk : Int))) = true := by
              rw [ne_int]; exact decide_eq_true (fun z => h1 (by omega))
            have h4 : (!decide (V.int (gg left (i + t) i) = V.int 0)) = true := by rw [ne_int]; exact decide_eq_true h2
            have h4' : (!decide (V.int ((left.getD (i + t) []).getD i 0) = V.int 0)) = true := h4
            rw [h3, h4'] at q
            exact Bool.noConfusion q
      · rintro σ' H5 ⟨left', us', x5, x6, x7, x8, x9, x10, x11, x12, rfl, lH', hl', M⟩
        rw [hlo] at M
        obtain ⟨A', W'⟩ := W.step d3 h2d iL Ld m0 low M
        refine ⟨⟨left', us', A', _, _, _, _, _, _, _, _, _, rfl, lH', hl', W'⟩, ?_⟩
        show S3 (colx i (hmat H5 L)) < S3 (colx i (hmat H' L))
        rw [hl'.mat, hl.mat]
        exact (W.cf.cpass d3 iL Ld m0 low M).sum_lt ⟨kk, by omega, hk3, by unfold colx; rw [if_pos hk1]; exact hk4⟩
    · -- the end of the while
      obtain ⟨left, us, A, x4, x5, x6, x7, x8, x9, x10, x11, x12, rfl, lH, hl, W⟩ := wi
      have e1 : ¬ 1 < (nzi left d i).length := by
        have := of_decide_eq_false e.symm
        rwa [hl.mat] at this
      exact ⟨left, us, A, _, _, _, _, _, _, _, _, _, rfl, lH.trans l3, hl.le l3, W, by omega⟩
    · -- behind the while
      obtain ⟨left, us, A1, x4, x5, x6, x7, x8, x9, x10, x11, x12, rfl, lH, hl, W, hle⟩ := wi
      have hlen : us.length = d := hl.rep.1.trans W.cf.len
      obtain ⟨k, h3, h4, h5⟩ := W.cf.pivot d3 hi
      obtain ⟨enz, one⟩ := nzi_one hle h3 h4 h5
      refine S.asgI (U := none) (v := .int (k : Nat)) sc_corner_form.nd (i := 5) rfl (.inl rfl) trivial (R.ixNew (H0 := H') (xs := [.int (k : Nat)]) (R.imp (R.lc (P := NLs none H' fun vs _ => vs = Evl.given (d - i) (fun k => decide (gg left (i + k) i ≠ 0)) (fun k => .int ((i + k : Nat) : Int))) (own := [("at", 5)]) rfl sc_corner_form.nd
        (Src.range2 (lo := i) (hi := d) (by rfl) B.range (by omega) (R.var (i := 3) rfl (.inr (.inl rfl)) rfl) (R.var (i := 2) rfl (.inl rfl) rfl)) (blkOk_by (N := N_corner_form) (sc := defScope s_corner_form) (by decide +kernel))
        (fun J H2 l2 j2 wk => by
          rw [hlo] at wk
          exact LcK.sel (fun k => decide (gg left (i + k) i ≠ 0)) (fun k => .int ((i + k : Nat) : Int)) wk (by omega) l2 trivial (fun i H x H' => yFn_le) (fun _ _ => trivial) (fun k y H' H'' hk l' j' yy => by
            obtain ⟨rfl, ey⟩ := yy
            have ey : y = V.int ((i + k : Nat) : Int) := ey.trans (congrArg V.int (by omega : (i : Int) + (k : Int) = ((i + k : Nat) : Int)))
            subst ey
            have hr := row_of (left := left) (k := i + k) (by rw [W.cf.len]; omega)
            have hlc := hl.le (l2.trans l')
            obtain ⟨q, hq1, hq2⟩ := hlc.row hr
            have lr := W.cf.lens _ (List.mem_of_getElem? hr)
            refine ⟨_, fun s Hb C cl fp => Tg.name sc_corner_form.nd (i := 5) rfl (.inl rfl), rfl, fun s Hb C cl fp => RTs.one ((RT.ne rfl (R.ixL (U := none) hq2 (atI_row lr hi) (fun z => z) (R.ixL (U := none) hlc.hl (atI_nat hq1) (fun z => z) (R.var (i := 1) rfl (.inr (.inl rfl)) rfl) (R.var (i := 5) rfl (.inl rfl) rfl)) (R.var (i := 3) rfl (.inr (.inl rfl)) rfl)) R.int).imp fun b e => ?_), fun _ s Hb C cl fp => R.var (i := 5) rfl (.inl rfl) rfl⟩
            rw [e, ne_int]; rfl))) ?_) R.int rfl) fun H3 l3 _ => ?_
      · rintro v H2 l2 ⟨L2, vs, e, a, b, c, h⟩
        refine ⟨L2, vs, e, a, b, c, ?_⟩
        rw [h]
        unfold Evl.given
        show List.map _ (nzi left d i) = _
        rw [enz]
        show [V.int ((i + (k - i) : Nat) : Int)] = _
        rw [show i + (k - i) = k by omega]
      show S _ _ [some (.ref p), some (.ref L), some (.int d), some (.int i), x4, some (.int (k : Nat)), x6, x7, x8, x9, x10, x11, x12] _ _
      have hri := row_of (left := left) (k := i) (by rw [W.cf.len]; omega)
      have hrk := row_of (left := left) (k := k) (by rw [W.cf.len]; omega)
      obtain ⟨pi, hpi1, hpi2⟩ := hl.row hri
      obtain ⟨pk, hpk1, hpk2⟩ := hl.row hrk
      have hl3 := hl.le l3
      refine S.swapL (U := none) (P := NT [.ref pk, .ref pi]) rfl trivial (R.tup (RA.cons (R.ixL (U := none) hl3.hl (atI_nat hpk1) (fun z => z) (R.var (i := 1) rfl (.inr (.inl rfl)) rfl) (R.var (i := 5) rfl (.inl rfl) rfl)) (RA.last (R.ixL (U := none) hl3.hl (atI_nat hpi1) (fun z => z) (R.var (i := 1) rfl (.inr (.inl rfl)) rfl) (R.var (i := 3) rfl (.inr (.inl rfl)) rfl)))) ?_ ?_) ?_
      · rintro vs H8 ⟨v, r, rfl, _, v', r', rfl, _, rfl⟩; show 2 ≤ sizeLine; decide
      · rintro vs p' H8 _ _ ⟨v, r, rfl, rfl, v', r', rfl, rfl, rfl⟩ _; exact ⟨p', rfl, upd_same⟩
      rintro v H8 l8 _ ⟨T, rfl, hT⟩
      have hl8 := hl3.le l8
      refine ⟨T, .ref pk, .ref pi, L, us, (i : Nat), (k : Nat), i, k, rfl, hT, R.var (i := 1) rfl (.inr (.inl rfl)) rfl, R.var (i := 3) rfl (.inr (.inl rfl)) rfl, fun H2 => R.var (i := 1) rfl (.inr (.inl rfl)) rfl, fun H2 => R.var (i := 5) rfl (.inl rfl) rfl, hl8.hl, (fun z => z), ixN_nat (by omega), ixN_nat (by omega), fun H9 t9 _ k9 hL9 => ?_⟩
      have hl9 := hl8.swap hri hrk hpi1 hpk1 (fun q ob hq ho => k9 q ob hq (fun z => z) ho) hL9
      have lH8 := (lH.trans l3).trans l8
      have lH9 : Le none H H9 := ⟨fun q ob _ hq => k9 q ob (fun z => by rw [z, hL0] at hq; cases hq) (fun z => z) (lH8.keep q ob (fun z => z) hq), lH8.tup.trans t9, fun _ => trivial⟩
      have C1 := W.cf.swap h3 h4 hri hrk
      obtain ⟨g1, g2⟩ := swap_piv W.cf h3 h4 h5 one hri hrk
      have hlen1 : ((us.set i (V.ref pk)).set k (V.ref pi)).length = d := by rw [List.length_set, List.length_set]; exact hlen
      clear hL9
      generalize (left.set i (left.getD k [])).set k (left.getD i []) = left1 at hl9 C1 g1 g2
      generalize (us.set i (V.ref pk)).set k (V.ref pi) = us1 at hl9 hlen1
      have hr1 := row_of (left := left1) (k := i) (by rw [C1.len]; omega)
      obtain ⟨p1, hp11, hp12⟩ := hl9.row hr1
      have lr1 := C1.lens _ (List.mem_of_getElem? hr1)
      refine S.one (S1.if (U := none) trivial (RT.lt (R.ixL (U := none) hp12 (atI_row lr1 hi) (fun z => z) (R.ixL (U := none) hl9.hl (atI_nat hp11) (fun z => z) (R.var (i := 1) rfl (.inr (.inl rfl)) rfl) (R.var (i := 3) rfl (.inr (.inl rfl)) rfl)) (R.var (i := 3) rfl (.inr (.inl rfl)) rfl)) R.int) (fun q H10 l10 _ => ?_) (fun q H10 l10 _ => S.nil ?_))
      · have hl10 := hl9.le l10
        have hp10 := l10.keep _ _ (fun z => z) hp12
        refine S.setL (U := none) (P := NLs none H10 fun vs _ => vs = (ngr (left1.getD i [])).map V.int) trivial (R.imp (R.lc (P := NLs none H10 fun vs H2 => vs.length = ((left1.getD i []).map V.int).length ∧ ∀ k y, vs[k]? = some y → Is (.int (-(left1.getD i []).getD k 0)) y H2) (own := [("number", 12)]) rfl sc_corner_form.nd
          (Src.lst (U := none) (R.ixL (U := none) hl10.hl (atI_nat hp11) (fun z => z) (R.var (i := 1) rfl (.inr (.inl rfl)) rfl) (R.var (i := 3) rfl (.inr (.inl rfl)) rfl)) hp10 (fun z => z)) (blkOk_by (N := N_corner_form) (sc := defScope s_corner_form) (by decide +kernel))
          (fun J H2 l2 j2 wk => LcK.map (fun k => Is (.int (-(left1.getD i []).getD k 0))) wk (by rw [List.length_map]; omega) l2 trivial (fun i H x H' => yAt_le) (fun H' l' => l'.keep _ _ (fun z => z) (l2.keep _ _ (fun z => z) hp10)) (fun k y H' H'' hk l' j' yy => ?_))) ?_) ?_
        · obtain ⟨rfl, hy⟩ := yy
          obtain ⟨rfl, _⟩ := getV hy
          exact ⟨_, fun s Hb C cl fp => Tg.name sc_corner_form.nd (i := 12) rfl (.inl rfl), rfl, fun s Hb C cl fp => R.neg (R.var (i := 12) rfl (.inl rfl) rfl)⟩
        · rintro v H6 l6 ⟨q, vs, rfl, hq0, nm, hq, hz, hv⟩
          refine ⟨q, vs, rfl, hq0, nm, hq, ?_⟩
          rw [ints_of hz hv, ngr_range]
        rintro v H11 l11 _ ⟨q, vs, rfl, hq0, _, hq11, rfl⟩
        refine ⟨L, us1, _, i, R.var (i := 1) rfl (.inr (.inl rfl)) rfl, R.var (i := 3) rfl (.inr (.inl rfl)) rfl, (hl10.le l11).hl, (fun z => z), ixN_nat (by omega), fun H12 l12 _ hL12 => S.nil ?_⟩
        obtain ⟨g3, g4⟩ := neg_piv hr1 g1 g2
        exact ⟨_, _, _, _, _, _, _, _, _, _, _, _, rfl, (lH9.trans ((l10.trans l11).trans l12)).mut trivial hL0, ((hl10.le l11).le l12).set ⟨q, rfl, l12.keep _ _ (fun z => z) hq11⟩ (fun e => by
          cases e
          have := hl10.hl
          rw [hq0] at this; cases this), (C1.neg hr1).succ g3 g4 (W.fin d3 hi)⟩
      · exact ⟨left1, us1, _, _, _, _, _, _, _, _, _, _, rfl, lH9.trans l10, hl9.le l10, C1.succ g1 g2 (W.fin d3 hi)⟩
  · rintro σ' H' ⟨left, us', x3, x4, x5, x6, x7, x8, x9, x10, x11, x12, rfl, lH, hl, C⟩
    rw [Int.toNat_natCast] at C
    exact ⟨left, us', _, _, _, _, _, _, _, _, _, _, _, rfl, lH, hl, C⟩
  rintro σ' H1 ⟨left0, us0, A0, x3, x4, x5, x6, x7, x8, x9, x10, x11, x12, rfl, l1', hl0, C⟩
  refine S.cut (Mid := fun σ' H' => ∃ left us x3 x4 x5 x6 x7 x8 x9 x10 x11 x12, σ' = [some (.ref p), some (.ref L), some (.int d), x3, x4, x5, x6, x7, x8, x9, x10, x11, x12] ∧ Le none H H' ∧ Lft L left us H' ∧ Rf d d left0 left) (S1.for (U := none) (Src.range1 (n := d) (by rfl) B.range (by omega) (R.var (i := 2) rfl (.inl rfl) rfl)) trivial PassesOwn.never rfl fun J H2 l2 _ wk => ⟨_, _, _, wk,
    fun i σ' H' => ∃ left us x3 x4 x5 x6 x7 x8 x9 x10 x11 x12, σ' = [some (.ref p), some (.ref L), some (.int d), x3, x4, x5, x6, x7, x8, x9, x10, x11, x12] ∧ Le none H H' ∧ Lft L left us H' ∧ Rf d i left0 left, ⟨left0, us0, _, _, _, _, _, _, _, _, _, _, rfl, l1'.trans l2, hl0.le l2, Rf.start C⟩, fun _ _ _ _ _ => trivial, ?_, ?_⟩) ?_
  · rintro i v σ' H' H'' hi ⟨left, us, x3, x4, x5, x6, x7, x8, x9, x10, x11, x12, rfl, lH, hl, Rd⟩ ⟨rfl, rfl⟩
    have hi : i < d := by rw [Int.toNat_natCast] at hi; exact hi
    refine ⟨_, Tg.name sc_corner_form.nd (i := 3) rfl (.inr rfl), ?_⟩
    show S _ _ [some (.ref p), some (.ref L), some (.int d), some (.int i), x4, x5, x6, x7, x8, x9, x10, x11, x12] _ _
    refine S.one (S1.for (U := none) (Src.range2 (lo := (i : Int) + 1) (hi := d) (by rfl) B.range (by omega) (R.add (R.var (i := 3) rfl (.inr (.inl rfl)) rfl) R.int) (R.var (i := 2) rfl (.inl rfl) rfl)) trivial PassesOwn.never rfl fun J H3 l3 _ wk => ⟨_, _, _, wk,
      fun t σ' H' => ∃ left us x4 x5 x6 x7 x8 x9 x10 x11 x12, σ' = [some (.ref p), some (.ref L), some (.int d), some (.int i), x4, x5, x6, x7, x8, x9, x10, x11, x12] ∧ Le none H H' ∧ Lft L left us H' ∧ Rj d i (i + 1 + t) left0 left, ⟨left, us, _, _, _, _, _, _, _, _, _, rfl, lH.trans l3, hl.le l3, Rd.row C⟩, fun _ _ _ _ _ => trivial, ?_, ?_⟩)
    · rintro t v σ' H4 H4' ht ⟨left, us, x4, x5, x6, x7, x8, x9, x10, x11, x12, rfl, lH, hl, Rd'⟩ ⟨rfl, ey⟩
      have ht : i + 1 + t < d := by omega
      have ey : v = V.int ((i + 1 + t : Nat) : Int) := ey.trans (congrArg V.int (by omega : (i : Int) + 1 + (t : Int) = ((i + 1 + t : Nat) : Int)))
      subst ey
      generalize hj : i + 1 + t = j at *
      refine ⟨_, Tg.name sc_corner_form.nd (i := 7) rfl (.inl rfl), ?_⟩
      show S _ _ [some (.ref p), some (.ref L), some (.int d), some (.int i), x4, x5, x6, some (.int (j : Nat)), x8, x9, x10, x11, x12] _ _
      have hij : i < j := by omega
      have hri := row_of (left := left) (k := i) (by rw [Rd'.len]; omega)
      have hrj := row_of (left := left) (k := j) (by rw [Rd'.len]; omega)
      have li := Rd'.lens _ (List.mem_of_getElem? hri)
      have lj := Rd'.lens _ (List.mem_of_getElem? hrj)
      obtain ⟨pi, hpi1, hpi2⟩ := hl.row hri
      obtain ⟨pj, hpj1, hpj2⟩ := hl.row hrj
      have nz : gg left j j ≠ 0 := Rd'.nz C ht
      refine S.asgI (U := none) (v := .int ((gg left i j).fdiv (gg left j j))) sc_corner_form.nd (i := 6) rfl (.inr rfl) trivial (R.fdivZ z nz (R.ixL (U := none) hpi2 (atI_row li ht) (fun z => z) (R.ixL (U := none) hl.hl (atI_nat hpi1) (fun z => z) (R.var (i := 1) rfl (.inr (.inl rfl)) rfl) (R.var (i := 3) rfl (.inr (.inl rfl)) rfl)) (R.var (i := 7) rfl (.inl rfl) rfl)) (R.ixL (U := none) hpj2 (atI_row lj ht) (fun z => z) (R.ixL (U := none) hl.hl (atI_nat hpj1) (fun z => z) (R.var (i := 1) rfl (.inr (.inl rfl)) rfl) (R.var (i := 7) rfl (.inl rfl) rfl)) (R.var (i := 7) rfl (.inl rfl) rfl))) fun H5 l5 _ => ?_
      have hl5 := hl.le l5
      have hpi5 := l5.keep _ _ (fun z => z) hpi2
      have hpj5 := l5.keep _ _ (fun z => z) hpj2
      show S _ _ [some (.ref p), some (.ref L), some (.int d), some (.int i), x4, x5, some (.int ((gg left i j).fdiv (gg left j j))), some (.int (j : Nat)), x8, x9, x10, x11, x12] _ _
      obtain ⟨ba, bb, mo1, mo2, mo3, mo4, mo5⟩ := Rd'.mulok C d3 hij ht
      have mulok : ∀ y ∈ left.getD j [], CMulW ((gg left i j).fdiv (gg left j j)) y := fun y hy => wide_mul mo1 (mo2 y hy) mo3 mo4 mo5
      refine S.setL (U := none) (P := NLs none H5 fun vs _ => vs = (addk (left.getD i []) (-((gg left i j).fdiv (gg left j j))) (left.getD j [])).map V.int) trivial (R.imp (R.lc (P := NLs none H5 fun vs H2 => vs.length = min ((left.getD i []).map V.int).length ((left.getD j []).map V.int).length ∧ ∀ k y, vs[k]? = some y → Is (.int ((left.getD i []).getD k 0 - (gg left i j).fdiv (gg left j j) * (left.getD j []).getD k 0)) y H2) (own := [("a", 10), ("b", 11)]) rfl sc_corner_form.nd
        (Src.zipL (U := none) (by rfl) B.zip (R.ixL (U := none) hl5.hl (atI_nat hpi1) (fun z => z) (R.var (i := 1) rfl (.inr (.inl rfl)) rfl) (R.var (i := 3) rfl (.inr (.inl rfl)) rfl)) (R.ixL (U := none) hl5.hl (atI_nat hpj1) (fun z => z) (R.var (i := 1) rfl (.inr (.inl rfl)) rfl) (R.var (i := 7) rfl (.inl rfl) rfl)) hpi5 hpj5 (fun z => z) (fun z => z)) (blkOk_by (N := N_corner_form) (sc := defScope s_corner_form) (by decide +kernel))
        (fun J H6 l6 j6 wk => LcK.zip (j1 := 10) (j2 := 11) (fun k => Is (.int ((left.getD i []).getD k 0 - (gg left i j).fdiv (gg left j j) * (left.getD j []).getD k 0))) wk (by rw [List.length_map, List.length_map]; omega) l6 trivial (fun H' l' => ⟨l'.keep _ _ (fun z => z) (l6.keep _ _ (fun z => z) hpi5), l'.keep _ _ (fun z => z) (l6.keep _ _ (fun z => z) hpj5)⟩)
          (fun T x y H'' hT s Hb C cl fp => Tg.tup rfl hT (Tgs.cons (Tg.name sc_corner_form.nd (i := 10) rfl (.inl rfl)) (Tgs.cons (Tg.name sc_corner_form.nd (i := 11) rfl (.inl rfl)) Tgs.nil)))
          (fun k x y H'' hi l' j' hx hy s Hb C cl fp => ?_))) ?_) ?_
      · obtain ⟨rfl, hm1⟩ := getV hx
        obtain ⟨rfl, hm2⟩ := getV hy
        exact R.sub (R.var (i := 10) rfl (.inl rfl) rfl) (R.mul (mulok _ hm2) (R.var (i := 6) rfl (.inr (.inl rfl)) rfl) (R.var (i := 11) rfl (.inl rfl) rfl))
      · rintro v H6 l6 ⟨q, vs, rfl, hq0, nm, hq, hz, hv⟩
        refine ⟨q, vs, rfl, hq0, nm, hq, ?_⟩
        rw [ints_of hz hv, List.length_map, List.length_map, rowsub_range]
      rintro v H6 l6 _ ⟨q, vs, rfl, hq0, _, hq6, rfl⟩
      refine ⟨L, us, _, i, R.var (i := 1) rfl (.inr (.inl rfl)) rfl, R.var (i := 3) rfl (.inr (.inl rfl)) rfl, (hl5.le l6).hl, (fun z => z), ixN_nat (by rw [hl.rep.1, Rd'.len]; omega), fun H7 l7 _ hL7 => S.nil ?_⟩
      have l57 := (l5.trans l6).trans l7
      have R' := Rd'.step C d3 hij ht hri hrj
      rw [show j + 1 = i + 1 + (t + 1) by omega] at R'
      exact ⟨_, _, _, _, _, _, _, _, _, _, _, rfl, (lH.trans l57).mut trivial hL0, ((hl5.le l6).le l7).set ⟨q, rfl, l7.keep _ _ (fun z => z) hq6⟩ (fun e => by
        cases e
        have := hl5.hl
        rw [hq0] at this; cases this), R'⟩
    · rintro σ' H' ⟨left, us', x4, x5, x6, x7, x8, x9, x10, x11, x12, rfl, lH, hl, R⟩
      rw [show i + 1 + ((d : Int) - ((i : Int) + 1)).toNat = d by omega] at R
      exact ⟨left, us', _, _, _, _, _, _, _, _, _, _, rfl, lH, hl, R.fin d3 hi⟩
  · rintro σ' H' ⟨left, us', x3, x4, x5, x6, x7, x8, x9, x10, x11, x12, rfl, lH, hl, R⟩
    rw [Int.toNat_natCast] at R
    exact ⟨left, us', _, _, _, _, _, _, _, _, _, _, rfl, lH, hl, R⟩
  rintro σ' H2 ⟨left, us2, x3, x4, x5, x6, x7, x8, x9, x10, x11, x12, rfl, l2', hl, Rd⟩
  refine S.ret (U := none) (P := TupR TpI left) trivial (R.tupleR (H0 := H2) (by rfl) B.tuple (R.lc (own := [("row", 9)]) rfl sc_corner_form.nd (Src.lst (U := none) (R.var (i := 1) rfl (.inr (.inl rfl)) rfl) hl.hl (fun z => z)) (blkOk_by (N := N_corner_form) (sc := defScope s_corner_form) (by decide +kernel))
    (fun J H3 l j wk => LcK.rep wk hl.rep.1 (by rw [hl.rep.1, Rd.len]; omega) l trivial (fun i H x H' => yAt_le) (fun H' l' => (l.trans l').keep _ _ (fun z => z) hl.hl) (fun i y H' H'' a ha l' j' yy => ?_)))) fun v H4 l4 _ hv => k v H4 (l2'.trans l4) trivial ⟨left, hv, Rd.cnr C⟩
  obtain ⟨rfl, hy⟩ := yy
  obtain ⟨q, hq1, hq2⟩ := (hl.le (l.trans l')).row ha
  rw [hy] at hq1
  cases hq1
  refine ⟨_, fun s Hb C cl fp => Tg.name sc_corner_form.nd (i := 9) rfl (.inl rfl), rfl, fun s Hb C cl fp => R.callTy call_tuple_of (by rfl) B.tuple PyProof.Rows.boot_tuple (RA.last (R.var (i := 9) rfl (.inl rfl) rfl)) ?_⟩
  rintro vs H1 l1 j1 ⟨v, r, rfl, rfl, rfl⟩ Q' q'
  exact ⟨q, _, rfl, .inl ⟨.inl (.inl (l1.keep _ _ (fun z => z) hq2)), fun p' hp' => q' _ _ (Le.new j1 hp') ((Le.new j1 hp').jn j1) ⟨p', rfl, upd_same⟩⟩⟩
end K62
end
section
set_option Elab.async false
set_option linter.all false
set_option maxRecDepth 100000
set_option maxHeartbeats 4000000
/-! The end: what the top has left of each def, the promises joined, the head. -/
namespace K62
open PySem PySem.Spec PyProof.Rows L2
theorem lk_app {K E : PySem.W.Frag} {a : Addr} {o : Obj} (h : K.lookup a = some o) : (K ++ E).lookup a = some o := by
  rw [List.lookup_append, h]; rfl
theorem app_in {K E : PySem.W.Frag} {h : Heap} (k : K.In h) (e : E.In h) : (K ++ E).In h := fun a o q => by
  rw [List.lookup_append] at q
  cases z : K.lookup a with
  | some o' => rw [z] at q; cases q; exact k a _ z
  | none => rw [z] at q; exact e a o q
theorem all_in {E : PySem.W.Frag} {h : Heap} (H : ∀ p ∈ E, h.get? p.1 = some p.2) : E.In h := fun a o q => by
  obtain ⟨l1, l2, e, _⟩ := List.lookup_eq_some_iff.mp q
  exact H (a, o) (by rw [e]; simp)
theorem app_get {K E : PySem.W.Frag} {h base : Heap} (k : K.In h) (e : E.In h) (b : (K ++ E).In base) {a : Addr} {o : Obj} (m : (a, o) ∈ E) (g : h.get? a = some o) : base.get? a = some o := by
  cases z : (K ++ E).lookup a with
  | some o' =>
    have := app_in k e a o' z
    rw [g] at this; cases this
    exact b a o z
  | none =>
    rw [List.lookup_append] at z
    have z2 : E.lookup a = none := by
      cases y : K.lookup a with
      | some o' => rw [y] at z; cases z
      | none => rw [y] at z; exact z
    have := List.lookup_eq_none_iff.mp z2 _ m
    simp at this
theorem cd_app {K E : PySem.W.Frag} {cd : Value} {q : Str} (h : PySem.W.codeIn K cd q = true) : PySem.W.codeIn (K ++ E) cd q = true := by
  unfold PySem.W.codeIn at h ⊢
  cases cd with
  | ref c =>
    dsimp only at h ⊢
    cases z : K.lookup c with
    | none => rw [z] at h; exact Bool.noConfusion h
    | some o => rw [lk_app z]; rw [z] at h; exact h
  | _ => exact h
theorem kp_app {K E : PySem.W.Frag} {f : Addr} {oc : Value} {od : Option Addr} {fd : FuncData} {osl : Array (Option Value)} (h : K.lookup f = some ⟨oc, od, .func fd, osl⟩) : PySem.W.keepIn (K ++ E) (.ref f) = true := by
  unfold PySem.W.keepIn
  dsimp only
  rw [lk_app h]
/-- a def without defaults -/
structure DefIn (K : PySem.W.Frag) (x : Str) (st : Stmt) : Prop where
  ex : ∃ (f : Addr) (oc : Value) (od : Option Addr) (osl : Array (Option Value)) (kV doc pm : Value) (an : Option Addr) (cdv ct : Value), PySem.W.nsIn K mainGlobals x = some (some (.ref f)) ∧
    K.lookup f = some ⟨oc, od, .func (PySem.W.fnOf x x (defArgs st) (defBody st) (defScope st) .none kV doc pm an cdv ct), osl⟩ ∧ PySem.W.codeIn K cdv x = true
theorem DefIn.mk' {K : PySem.W.Frag} {x : Str} {st : Stmt} {f : Addr} {oc : Value} {od : Option Addr} {osl : Array (Option Value)} {kV doc pm : Value} {an : Option Addr} {cdv ct : Value} (a : PySem.W.nsIn K mainGlobals x = some (some (.ref f)))
    (l : K.lookup f = some ⟨oc, od, .func (PySem.W.fnOf x x (defArgs st) (defBody st) (defScope st) .none kV doc pm an cdv ct), osl⟩) (c : PySem.W.codeIn K cdv x = true) : DefIn K x st := ⟨⟨_, _, _, _, _, _, _, _, _, _, a, l, c⟩⟩
/-- a def with the one default 1 -/
structure DefIn1 (K : PySem.W.Frag) (x : Str) (st : Stmt) : Prop where
  ex : ∃ (f T : Addr) (tk : Tok) (n : Nat) (tc oc : Value) (td od : Option Addr) (tsl osl : Array (Option Value)) (kV doc pm : Value) (an : Option Addr) (cdv ct : Value), PySem.W.nsIn K mainGlobals x = some (some (.ref f)) ∧
    K.lookup f = some ⟨oc, od, .func (PySem.W.fnOf x x (defArgs st) (defBody st) (defScope st) (.ref T) kV doc pm an cdv ct), osl⟩ ∧ PySem.W.codeIn K cdv x = true ∧ K.lookup T = some ⟨tc, td, .seq #[.int 1 tk] n, tsl⟩
theorem DefIn1.mk' {K : PySem.W.Frag} {x : Str} {st : Stmt} {f T : Addr} {tk : Tok} {n : Nat} {tc oc : Value} {td od : Option Addr} {tsl osl : Array (Option Value)} {kV doc pm : Value} {an : Option Addr} {cdv ct : Value} (a : PySem.W.nsIn K mainGlobals x = some (some (.ref f)))
    (l : K.lookup f = some ⟨oc, od, .func (PySem.W.fnOf x x (defArgs st) (defBody st) (defScope st) (.ref T) kV doc pm an cdv ct), osl⟩) (c : PySem.W.codeIn K cdv x = true) (t : K.lookup T = some ⟨tc, td, .seq #[.int 1 tk] n, tsl⟩) : DefIn1 K x st := ⟨⟨_, _, _, _, _, _, _, _, _, _, _, _, _, _, _, _, a, l, c, t⟩⟩
theorem con_i {K : PySem.W.Frag} {x : Str} {i : Int} {t : Tok} (e : PySem.W.nsIn K mainGlobals x = some (some (.int i t))) : ∃ t, PySem.W.nsIn K mainGlobals x = some (some (.int i t)) := ⟨t, e⟩
theorem con_s {K : PySem.W.Frag} {x i : Str} {t : Tok} (e : PySem.W.nsIn K mainGlobals x = some (some (.str i t))) : ∃ t, PySem.W.nsIn K mainGlobals x = some (some (.str i t)) := ⟨t, e⟩
abbrev Takes (x : Str) (st : Stmt) (ps : List Str) : Prop := ∀ (kV doc pm : Value) (an : Option Addr) (cdv ct : Value) (us : List Value), us.length = ps.length → bindArgs (PySem.W.fnOf x x (defArgs st) (defBody st) (defScope st) .none kV doc pm an cdv ct) ⟨us, []⟩ = pure (ps.zip us)
section
variable {K E : PySem.W.Frag} {h : Heap} {mg : Str → Option Value} {x : Str} {st : Stmt} {ps : List Str}
theorem DefIn.fn (D : DefIn K x st) (X : K.In h) (G : h.Ns mainGlobals mg) : ∃ f kV doc pm an cdv ct, Fun (K ++ E) x x st f (PySem.W.fnOf x x (defArgs st) (defBody st) (defScope st) .none kV doc pm an cdv ct) ∧ mg x = some (.ref f) := by
  obtain ⟨f, oc, od, osl, kV, doc, pm, an, cdv, ct, a, l, c⟩ := D.ex
  exact ⟨f, kV, doc, pm, an, cdv, ct, ⟨⟨oc, od, kV, doc, pm, an, cdv, ct, osl, rfl, lk_app l, cd_app c⟩, kp_app l⟩, PySem.W.mg_of X G a⟩
theorem DefIn.at (D : DefIn K x st) (X : K.In h) (G : h.Ns mainGlobals mg) (t : Takes x st ps) : DefAt (K ++ E) mg x st ps := by
  obtain ⟨f, kV, doc, pm, an, cdv, ct, F, m⟩ := D.fn (E := E) X G
  exact ⟨f, _, F, m, .all (t kV doc pm an cdv ct)⟩
theorem DefIn1.at (D : DefIn1 K x st) (X : K.In h) (G : h.Ns mainGlobals mg) (n : Nat) (hn : n = ps.length)
    (t : ∀ (T : Addr) (kV doc pm : Value) (an : Option Addr) (cdv ct : Value) (us its : List Value), us.length = n → its.length = 1 → ∃ k, bindArgs (PySem.W.fnOf x x (defArgs st) (defBody st) (defScope st) (.ref T) kV doc pm an cdv ct) ⟨us, []⟩ = seqItems? (.ref T) >>= k ∧ k (some its.toArray) = pure (ps.zip (us ++ its.drop 1))) : DefAtD (K ++ E) mg x st ps := by
  obtain ⟨f, T, tk, n', tc, oc, td, od, tsl, osl, kV, doc, pm, an, cdv, ct, a, l, c, e⟩ := D.ex
  have F : FunD (K ++ E) x x (defArgs st) (defBody st) (defScope st) [.int 1] [] f (PySem.W.fnOf x x (defArgs st) (defBody st) (defScope st) (.ref T) kV doc pm an cdv ct) :=
    ⟨⟨oc, od, .ref T, kV, doc, pm, an, cdv, ct, osl, rfl, lk_app l, cd_app c, .inr ⟨(fun z => nomatch z), T, _, [.int 1 tk], n', rfl, lk_app e, rfl, (show Vals [V.int 1] [Value.int 1 tk] from Paired.cons ⟨tk, rfl⟩ Paired.nil)⟩, .inl rfl⟩, kp_app l⟩
  obtain ⟨ds, v, b⟩ := F.binds1 (ps := ps) n 1 (fun z => nomatch z) (by rw [hn]; rfl) t
  cases v
  exact ⟨f, _, ⟨_, _, F⟩, PySem.W.mg_of X G a, b⟩
end
/-- every def of the text -/
structure Dfs (K : PySem.W.Frag) : Prop where
  is_integer : DefIn K "is_integer" s_is_integer
  are_integers : DefIn K "are_integers" s_are_integers
  inverse_of : DefIn K "inverse_of" s_inverse_of
  is_period_number : DefIn K "is_period_number" s_is_period_number
  is_cell_row : DefIn K "is_cell_row" s_is_cell_row
  is_cell_of : DefIn K "is_cell_of" s_is_cell_of
  product_at : DefIn K "product_at" s_product_at
  cell_sum : DefIn1 K "cell_sum" s_cell_sum
  is_class_row : DefIn K "is_class_row" s_is_class_row
  is_stripe_row : DefIn K "is_stripe_row" s_is_stripe_row
  lies_on : DefIn K "lies_on" s_lies_on
  unit_steps : DefIn K "unit_steps" s_unit_steps
  gathered_steps : DefIn K "gathered_steps" s_gathered_steps
  narrowed : DefIn K "narrowed" s_narrowed
  cells_on : DefIn K "cells_on" s_cells_on
  corner_form : DefIn K "corner_form" s_corner_form
  least_cell : DefIn K "least_cell" s_least_cell
  common_period : DefIn K "common_period" s_common_period
  relations_of : DefIn K "relations_of" s_relations_of
  bar_of : DefIn K "bar_of" s_bar_of
  few_that_bar : DefIn K "few_that_bar" s_few_that_bar
  bar_among : DefIn K "bar_among" s_bar_among
  is_bar_pair : DefIn K "is_bar_pair" s_is_bar_pair
  is_bar : DefIn K "is_bar" s_is_bar
  are_stripes : DefIn K "are_stripes" s_are_stripes
  need_stripe_row : DefIn K "need_stripe_row" s_need_stripe_row
  judge_meeting : DefIn K "judge_meeting" s_judge_meeting
  meeting_holds : DefIn K "meeting_holds" s_meeting_holds
  do_meet : DefIn K "do_meet" s_do_meet
  common_cells : DefIn K "common_cells" s_common_cells
  _law_urn : DefIn K "_law_urn" s__law_urn
  _law_draw : DefIn K "_law_draw" s__law_draw
  _law_pick : DefIn K "_law_pick" s__law_pick
  _law_great : DefIn K "_law_great" s__law_great
  _law_divisor : DefIn K "_law_divisor" s__law_divisor
  _law_powers : DefIn K "_law_powers" s__law_powers
  _law_fixed : DefIn K "_law_fixed" s__law_fixed
  _law_dot : DefIn K "_law_dot" s__law_dot
  _law_period : DefIn K "_law_period" s__law_period
  _law_summed : DefIn K "_law_summed" s__law_summed
  _law_stripes : DefIn K "_law_stripes" s__law_stripes
  _law_moved : DefIn K "_law_moved" s__law_moved
  _law_is_integer : DefIn K "_law_is_integer" s__law_is_integer
  _law_is_bar : DefIn K "_law_is_bar" s__law_is_bar
  _law_is_paper : DefIn K "_law_is_paper" s__law_is_paper
  _law_parts : DefIn K "_law_parts" s__law_parts
  law : DefIn K "law" s_law
/-- names and constants -/
structure Nms (K : PySem.W.Frag) : Prop where
  abs : PySem.W.nsIn K mainGlobals "abs" = some none
  all : PySem.W.nsIn K mainGlobals "all" = some none
  bool : PySem.W.nsIn K mainGlobals "bool" = some none
  enumerate : PySem.W.nsIn K mainGlobals "enumerate" = some none
  int : PySem.W.nsIn K mainGlobals "int" = some none
  isinstance : PySem.W.nsIn K mainGlobals "isinstance" = some none
  len : PySem.W.nsIn K mainGlobals "len" = some none
  list : PySem.W.nsIn K mainGlobals "list" = some none
  max : PySem.W.nsIn K mainGlobals "max" = some none
  min : PySem.W.nsIn K mainGlobals "min" = some none
  range : PySem.W.nsIn K mainGlobals "range" = some none
  repr : PySem.W.nsIn K mainGlobals "repr" = some none
  str : PySem.W.nsIn K mainGlobals "str" = some none
  sum : PySem.W.nsIn K mainGlobals "sum" = some none
  tuple : PySem.W.nsIn K mainGlobals "tuple" = some none
  zip : PySem.W.nsIn K mainGlobals "zip" = some none
  MOST_PRIME : ∃ t, PySem.W.nsIn K mainGlobals "MOST_PRIME" = some (some (.int 30 t))
  MOST_ROOT : ∃ t, PySem.W.nsIn K mainGlobals "MOST_ROOT" = some (some (.int 1000 t))
  MOST_BREADTH : ∃ t, PySem.W.nsIn K mainGlobals "MOST_BREADTH" = some (some (.int 3 t))
  MOST_STRIPES : ∃ t, PySem.W.nsIn K mainGlobals "MOST_STRIPES" = some (some (.int 12 t))
  MEET : ∃ t, PySem.W.nsIn K mainGlobals "MEET" = some (some (.str "meet" t))
  NEVER : ∃ t, PySem.W.nsIn K mainGlobals "NEVER" = some (some (.str "never" t))
  gcd : PySem.W.nsIn K mainGlobals "gcd" = some (some (.builtin "math.gcd"))
theorem Nms.bln {K : PySem.W.Frag} {h : Heap} {mg : Str → Option Value} (N : Nms K) (X : K.In h) (G : h.Ns mainGlobals mg) : Bln mg :=
  ⟨PySem.W.mg_none_of X G N.abs, PySem.W.mg_none_of X G N.all, PySem.W.mg_none_of X G N.bool, PySem.W.mg_none_of X G N.enumerate, PySem.W.mg_none_of X G N.int, PySem.W.mg_none_of X G N.isinstance, PySem.W.mg_none_of X G N.len, PySem.W.mg_none_of X G N.list, PySem.W.mg_none_of X G N.max, PySem.W.mg_none_of X G N.min, PySem.W.mg_none_of X G N.range, PySem.W.mg_none_of X G N.repr, PySem.W.mg_none_of X G N.str, PySem.W.mg_none_of X G N.sum, PySem.W.mg_none_of X G N.tuple, PySem.W.mg_none_of X G N.zip⟩
theorem Nms.cst {K : PySem.W.Frag} {h : Heap} {mg : Str → Option Value} (N : Nms K) (X : K.In h) (G : h.Ns mainGlobals mg) : Cst mg :=
  ⟨let ⟨t, e⟩ := N.MOST_PRIME; ⟨t, PySem.W.mg_of X G e⟩, let ⟨t, e⟩ := N.MOST_ROOT; ⟨t, PySem.W.mg_of X G e⟩, let ⟨t, e⟩ := N.MOST_BREADTH; ⟨t, PySem.W.mg_of X G e⟩, let ⟨t, e⟩ := N.MOST_STRIPES; ⟨t, PySem.W.mg_of X G e⟩, let ⟨t, e⟩ := N.MEET; ⟨t, PySem.W.mg_of X G e⟩, let ⟨t, e⟩ := N.NEVER; ⟨t, PySem.W.mg_of X G e⟩, PySem.W.mg_of X G N.gcd⟩
theorem all_mk {P : Program} {w : World} {K E : PySem.W.Frag} {h : Heap} {mg : Str → Option Value} {fa : Addr} (hT : P.given.tree = none) (X : K.In h) (G : h.Ns mainGlobals mg) (hfa : mg "law" = some (.ref fa)) (D : Dfs K) (N : Nms K) :
    ∃ fd : FuncData, (∀ (s : Shared) (v : Value), BindsTo s fd ⟨[v], []⟩ [("_law_script", v)]) ∧ ∀ base : Heap, base.NoSeer → FnOk P w (K ++ E) mg base CX0 51 fa fd ["_law_script"] (sp_law (K ++ E)) := by
  have B := N.bln X G
  have C := N.cst X G
  obtain ⟨f, kV, doc, pm, an, cdv, ct, F, m⟩ := D.law.fn (E := E) X G
  rw [hfa] at m
  cases m
  refine ⟨PySem.W.fnOf "law" "law" (defArgs s_law) (defBody s_law) (defScope s_law) .none kV doc pm an cdv ct, fun s v => .of_eq rfl, fun base hN => ?_⟩
  have c__law_urn := ok_urn (P := P) (w := w) (K := K ++ E) (base := base) (D._law_urn.at X G fun _ _ _ _ _ _ us hl => match us, hl with | [_], _ => rfl) B
  have c__law_draw := ok_draw (P := P) (w := w) (K := K ++ E) (base := base) (D._law_draw.at X G fun _ _ _ _ _ _ us hl => match us, hl with | [_, _], _ => rfl) B
  have c__law_great := ok_great (P := P) (w := w) (K := K ++ E) (base := base) (D._law_great.at X G fun _ _ _ _ _ _ us hl => match us, hl with | [_, _], _ => rfl) B c__law_draw
  have c__law_powers := ok_powers (P := P) (w := w) (K := K ++ E) (base := base) (D._law_powers.at X G fun _ _ _ _ _ _ us hl => match us, hl with | [_], _ => rfl) B
  have c__law_fixed := ok_fixed (P := P) (w := w) (K := K ++ E) (base := base) (D._law_fixed.at X G fun _ _ _ _ _ _ us hl => match us, hl with | [_, _, _], _ => rfl) B c__law_draw c__law_powers
  have c__law_pick := ok_pick (P := P) (w := w) (K := K ++ E) (base := base) (D._law_pick.at X G fun _ _ _ _ _ _ us hl => match us, hl with | [_, _], _ => rfl) B c__law_draw
  have c__law_period := ok_period (P := P) (w := w) (K := K ++ E) (base := base) (D._law_period.at X G fun _ _ _ _ _ _ us hl => match us, hl with | [_, _, _], _ => rfl) B c__law_draw
  have c__law_divisor := ok_divisor (P := P) (w := w) (K := K ++ E) (base := base) (D._law_divisor.at X G fun _ _ _ _ _ _ us hl => match us, hl with | [_], _ => rfl) B
  have c__law_summed := ok_summed (P := P) (w := w) (K := K ++ E) (base := base) (D._law_summed.at X G fun _ _ _ _ _ _ us hl => match us, hl with | [_, _], _ => rfl) B c__law_pick c__law_divisor
  have c__law_dot := ok_ldot (P := P) (w := w) (K := K ++ E) (base := base) (D._law_dot.at X G fun _ _ _ _ _ _ us hl => match us, hl with | [_, _], _ => rfl) B
  have c__law_stripes := ok_stripes (P := P) (w := w) (K := K ++ E) (base := base) (D._law_stripes.at X G fun _ _ _ _ _ _ us hl => match us, hl with | [_, _], _ => rfl) B c__law_pick c__law_great c__law_draw c__law_period c__law_fixed c__law_summed c__law_dot c__law_powers
  have c__law_moved := ok_moved (P := P) (w := w) (K := K ++ E) (base := base) (D._law_moved.at X G fun _ _ _ _ _ _ us hl => match us, hl with | [_, _], _ => rfl) B c__law_dot
  have c__law_is_integer := ok_lisint (P := P) (w := w) (K := K ++ E) (base := base) (D._law_is_integer.at X G fun _ _ _ _ _ _ us hl => match us, hl with | [_], _ => rfl) B
  have c__law_is_bar := ok_lisbar (P := P) (w := w) (K := K ++ E) (base := base) (D._law_is_bar.at X G fun _ _ _ _ _ _ us hl => match us, hl with | [_, _], _ => rfl) B c__law_is_integer
  have c__law_is_paper := ok_lispaper (P := P) (w := w) (K := K ++ E) (base := base) (D._law_is_paper.at X G fun _ _ _ _ _ _ us hl => match us, hl with | [_, _], _ => rfl) B c__law_is_integer c__law_is_bar c__law_dot
  have c__law_parts := ok_parts (P := P) (w := w) (K := K ++ E) (base := base) (D._law_parts.at X G fun _ _ _ _ _ _ us hl => match us, hl with | [_, _], _ => rfl) B c__law_powers c__law_pick c__law_draw
  have c_is_integer := ok_is_integer (P := P) (w := w) (K := K ++ E) (base := base) (D.is_integer.at X G fun _ _ _ _ _ _ us hl => match us, hl with | [_], _ => rfl) B
  have c_is_period_number := ok_is_period_number (P := P) (w := w) (K := K ++ E) (base := base) (D.is_period_number.at X G fun _ _ _ _ _ _ us hl => match us, hl with | [_], _ => rfl) B C c_is_integer
  have c_are_integers := ok_are_integers (P := P) (w := w) (K := K ++ E) (base := base) (D.are_integers.at X G fun _ _ _ _ _ _ us hl => match us, hl with | [_], _ => rfl) B c_is_integer
  have c_is_cell_row := ok_is_cell_row (P := P) (w := w) (K := K ++ E) (base := base) (D.is_cell_row.at X G fun _ _ _ _ _ _ us hl => match us, hl with | [_], _ => rfl) B C c_are_integers
  have c_is_class_row := ok_is_class_row (P := P) (w := w) (K := K ++ E) (base := base) (D.is_class_row.at X G fun _ _ _ _ _ _ us hl => match us, hl with | [_, _], _ => rfl) B C c_is_cell_row
  have c_is_stripe_row := ok_is_stripe_row (P := P) (w := w) (K := K ++ E) (base := base) (D.is_stripe_row.at X G fun _ _ _ _ _ _ us hl => match us, hl with | [_], _ => rfl) B c_is_integer c_is_period_number c_is_class_row
  have c_are_stripes := ok_are_stripes (P := P) (w := w) (K := K ++ E) (base := base) (D.are_stripes.at X G fun _ _ _ _ _ _ us hl => match us, hl with | [_], _ => rfl) B C c_is_stripe_row
  have c_need_stripe_row := ok_need_stripe_row (P := P) (w := w) (K := K ++ E) (base := base) (D.need_stripe_row.at X G fun _ _ _ _ _ _ us hl => match us, hl with | [_], _ => rfl) B c_are_stripes
  have c_unit_steps := ok_unit_steps (P := P) (w := w) (K := K ++ E) (base := base) (D.unit_steps.at X G fun _ _ _ _ _ _ us hl => match us, hl with | [_], _ => rfl) B
  have c_product_at := ok_product_at (P := P) (w := w) (K := K ++ E) (base := base) (D.product_at.at X G fun _ _ _ _ _ _ us hl => match us, hl with | [_, _], _ => rfl) B
  have c_cell_sum := ok_cell_sum (P := P) (w := w) (K := K ++ E) (base := base) (D.cell_sum.at X G 3 rfl fun _ _ _ _ _ _ _ us its hl hi => match us, its, hl, hi with | [_, _, _], [_], _, _ => ⟨_, rfl, rfl⟩) B
  have c_inverse_of := ok_inverse_of (P := P) (w := w) (K := K ++ E) (base := base) (D.inverse_of.at X G fun _ _ _ _ _ _ us hl => match us, hl with | [_, _], _ => rfl) B
  have c_gathered_steps := ok_gathered_steps (P := P) (w := w) (K := K ++ E) (base := base) (D.gathered_steps.at X G fun _ _ _ _ _ _ us hl => match us, hl with | [_, _, _], _ => rfl) B c_product_at c_cell_sum
  have c_narrowed := ok_narrowed (P := P) (w := w) (K := K ++ E) (base := base) (D.narrowed.at X G fun _ _ _ _ _ _ us hl => match us, hl with | [_, _, _, _, _], _ => rfl) B C c_product_at c_cell_sum c_inverse_of c_gathered_steps
  have c_cells_on := ok_cells_on (P := P) (w := w) (K := K ++ E) (base := base) (D.cells_on.at X G fun _ _ _ _ _ _ us hl => match us, hl with | [_, _], _ => rfl) B c_unit_steps c_narrowed
  have c_few_that_bar := ok_few_that_bar (P := P) (w := w) (K := K ++ E) (base := base) (D.few_that_bar.at X G fun _ _ _ _ _ _ us hl => match us, hl with | [_, _, _], _ => rfl) B c_cells_on
  have c_common_period := ok_common_period (P := P) (w := w) (K := K ++ E) (base := base) (D.common_period.at X G fun _ _ _ _ _ _ us hl => match us, hl with | [_], _ => rfl) B C
  have c_relations_of := ok_relations_of (P := P) (w := w) (K := K ++ E) (base := base) (D.relations_of.at X G fun _ _ _ _ _ _ us hl => match us, hl with | [_, _], _ => rfl) B c_common_period c_unit_steps c_narrowed
  have c_bar_of := ok_bar_of (P := P) (w := w) (K := K ++ E) (base := base) (D.bar_of.at X G fun _ _ _ _ _ _ us hl => match us, hl with | [_, _, _], _ => rfl) B c_product_at c_relations_of
  have c_bar_among := ok_bar_among (P := P) (w := w) (K := K ++ E) (base := base) (D.bar_among.at X G fun _ _ _ _ _ _ us hl => match us, hl with | [_, _, _], _ => rfl) B c_few_that_bar c_bar_of
  obtain ⟨fj, kVj, docj, pmj, anj, cdvj, ctj, Fj, mj⟩ := D.judge_meeting.fn (E := E) X G
  have f_judge := fn_judge_meeting (P := P) (w := w) (base := base) Fj B C c_need_stripe_row c_cells_on c_bar_among
  have c_judge_meeting : Callee P w (K ++ E) mg base 8 "judge_meeting" ps_judge_meeting sp_judge_meeting := ⟨fj, _, f_judge, mj, Fj.kp, .all fun us hl => match us, hl with | [_], _ => rfl⟩
  have c_kw : JudgeKw P w (K ++ E) mg base := ⟨fj, _, f_judge, mj, Fj.kp, ⟨fun s u _ => .of_eq rfl⟩⟩
  have c_is_cell_of := ok_is_cell_of (P := P) (w := w) (K := K ++ E) (base := base) (D.is_cell_of.at X G fun _ _ _ _ _ _ us hl => match us, hl with | [_, _], _ => rfl) B c_is_cell_row
  have c_lies_on := ok_lies_on (P := P) (w := w) (K := K ++ E) (base := base) (D.lies_on.at X G fun _ _ _ _ _ _ us hl => match us, hl with | [_, _], _ => rfl) c_product_at
  have c_is_bar_pair := ok_is_bar_pair (P := P) (w := w) (K := K ++ E) (base := base) (D.is_bar_pair.at X G fun _ _ _ _ _ _ us hl => match us, hl with | [_, _], _ => rfl) B c_is_integer
  have c_is_bar := ok_is_bar (P := P) (w := w) (K := K ++ E) (base := base) (D.is_bar.at X G fun _ _ _ _ _ _ us hl => match us, hl with | [_, _, _], _ => rfl) B c_is_bar_pair c_common_period
  have c_meeting_holds := ok_meeting_holds (P := P) (w := w) (K := K ++ E) (base := base) (D.meeting_holds.at X G fun _ _ _ _ _ _ us hl => match us, hl with | [_, _], _ => rfl) B C c_need_stripe_row c_is_cell_of c_lies_on c_is_bar
  have c_do_meet := ok_do_meet (P := P) (w := w) (K := K ++ E) (base := base) (D.do_meet.at X G fun _ _ _ _ _ _ us hl => match us, hl with | [_], _ => rfl) B c_need_stripe_row c_cells_on
  have c_corner_form := ok_corner_form (P := P) (w := w) (K := K ++ E) (base := base) hN hT (D.corner_form.at X G fun _ _ _ _ _ _ us hl => match us, hl with | [_], _ => rfl) B
  have c_least_cell := ok_least_cell (P := P) (w := w) (K := K ++ E) (base := base) hN hT (D.least_cell.at X G fun _ _ _ _ _ _ us hl => match us, hl with | [_, _], _ => rfl) B c_cell_sum
  have c_common_cells := ok_common_cells (P := P) (w := w) (K := K ++ E) (base := base) (D.common_cells.at X G fun _ _ _ _ _ _ us hl => match us, hl with | [_], _ => rfl) B c_need_stripe_row c_cells_on c_corner_form c_least_cell
  exact fn_law F B ⟨c__law_urn, c__law_draw, c__law_great, c__law_fixed, c__law_stripes, c__law_moved, c__law_is_paper, c__law_parts, c_judge_meeting, c_kw, c_meeting_holds, c_do_meet, c_common_cells⟩
theorem walk_seer {l : PySem.W.OpenLaw} {n k : Nat} {q : Program} {loose : List Str} {XP : (Str → Option Value) → Heap → Prop} {YP : World → Heap → Prop} {d : DefRec} {K : Params → PySem.W.Frag} {sp : PySem.W.Frag → Sp} {x : Str}
    (hn : l.most = some n) (hs : n ≤ sizeLine) (hdf : d.params.defaults = []) (hr : Room k callerA) (hi : importsNone q = true) (hY : ∀ (w : World) (h : Heap), YP w h → (K w.params).In h)
    (F : ∀ (w : World) (mg : Str → Option Value) (fa : Addr) (h : Heap) (E : PySem.W.Frag), (K w.params).In h → h.Ns mainGlobals mg → mg d.name = some (.ref fa) →
      ∃ fd : FuncData, (∀ (s : Shared) (u : Value), BindsTo s fd ⟨[u], []⟩ [(x, u)]) ∧ ∀ base : Heap, base.NoSeer → FnOk l.prog w (K w.params ++ E) mg base CX0 k fa fd [x] (sp (K w.params ++ E)))
    (hsp : ∀ (K : PySem.W.Frag) (H : Hp) (a : Addr) (ns : List Int), ns.length ≤ n → SqL K H a (ns.map V.int) → sp K [.ref a] H (fun v _ => v = .bl true) fun _ _ _ => False) :
    PySem.W.WalkO q loose XP YP l.row.toRowW d [] (fun f vs => PySem.call f vs) := by
  refine Att.attach_call hn hdf fun w s0 s1 mg mb fa o pm cd doc a vs ns Gr Y _ _ _ hm ho hv hz hg => ?_
  have X := hY w _ Y
  obtain ⟨⟨mc, ⟨o1, n1⟩, c1, c2⟩, ⟨mm, ⟨o2, n2⟩, m1⟩, ⟨mi, ⟨o3, n3⟩, b1⟩, ⟨mh, bm, ob, ⟨o4, n4⟩, g1, g2, g3, g4⟩⟩ := Gr.T.seer hi
  obtain ⟨es1, ep1, e1, r1⟩ := n1
  obtain ⟨es2, ep2, e2, r2⟩ := n2
  obtain ⟨es3, ep3, e3, r3⟩ := n3
  obtain ⟨es4, ep4, e4, r4⟩ := n4
  let E : PySem.W.Frag := [(cStatics, o1), (sysModules, o2), (builtinsNs, o3), (mainGlobals, o4), (bm, ob)]
  have eE : E.In s1.heap := all_in fun p hp => by
    simp only [E, List.mem_cons, List.not_mem_nil, or_false] at hp
    rcases hp with rfl | rfl | rfl | rfl | rfl <;> assumption
  obtain ⟨fd, hb, hF⟩ := F w mg fa _ E X Gr.T.g hm
  refine law_call (K := K w.params ++ E) (CX := CX0) (app_in X eE) Gr.T.g Gr.T.b Gr.T.builtins Gr.T.nolimit hg ho hv (Nat.le_trans hz hs) hr (fun base bI _ => hF base ?_) hb (fun H _ hS => hsp _ H a ns hz hS) fun H e s' z => z
  have at_ : ∀ {a : Addr} {o : Obj}, (a, o) ∈ E → s1.heap.get? a = some o → base.get? a = some o := fun m g => app_get X eE bI m g
  exact ⟨⟨mc, ⟨o1, es1, ep1, at_ (by simp [E]) e1, r1⟩, c1, c2⟩, ⟨mm, ⟨o2, es2, ep2, at_ (by simp [E]) e2, r2⟩, m1⟩, ⟨mi, ⟨o3, es3, ep3, at_ (by simp [E]) e3, r3⟩, b1⟩, ⟨mh, bm, ob, ⟨o4, es4, ep4, at_ (by simp [E]) e4, r4⟩, g1, at_ (by simp [E]) g2, g3, g4⟩⟩
end K62
end
set_option Elab.async false
set_option linter.all false
set_option maxRecDepth 100000
open PySem PySem.W PyProof.Rows
set_option maxHeartbeats 0 in
theorem PySem.Challenge.cw_slantpanes_k62_whole_any_stripes_meet_or_holds : PySem.Challenge.rw_slantpanes_k62_whole_any_stripes_meet_or.Holds := by
  w_on; o_law; k_head; (case hw => w_witness2)
  k_fill
  refine K62.walk_seer (l := PySem.Challenge.rw_slantpanes_k62_whole_any_stripes_meet_or) (n := 63) (k := 51) (x := "_law_script") (sp := K62.sp_law) rfl (by decide) rfl ⟨rfl, by decide, by decide⟩ ?I (fun w h Y => PySem.W.kIn_of Y) ?F (fun _ _ a ns _ hS => ⟨a, ns, rfl, hS, fun _ => rfl⟩)
  case I => rfl
  case F =>
    intro w mg fa h E KX G hmg
    refine K62.all_mk rfl KX G hmg ?dfs ?nms
    case dfs =>
      refine' ⟨?d0, ?d1, ?d2, ?d3, ?d4, ?d5, ?d6, ?d7, ?d8, ?d9, ?d10, ?d11, ?d12, ?d13, ?d14, ?d15, ?d16, ?d17, ?d18, ?d19, ?d20, ?d21, ?d22, ?d23, ?d24, ?d25, ?d26, ?d27, ?d28, ?d29, ?d30, ?d31, ?d32, ?d33, ?d34, ?d35, ?d36, ?d37, ?d38, ?d39, ?d40, ?d41, ?d42, ?d43, ?d44, ?d45, ?d46⟩
      case d0 => refine' K62.DefIn.mk' ?a ?l ?c; (case a => k_is); (case l => k_is); (case c => k_is)
      case d1 => refine' K62.DefIn.mk' ?a ?l ?c; (case a => k_is); (case l => k_is); (case c => k_is)
      case d2 => refine' K62.DefIn.mk' ?a ?l ?c; (case a => k_is); (case l => k_is); (case c => k_is)
      case d3 => refine' K62.DefIn.mk' ?a ?l ?c; (case a => k_is); (case l => k_is); (case c => k_is)
      case d4 => refine' K62.DefIn.mk' ?a ?l ?c; (case a => k_is); (case l => k_is); (case c => k_is)
      case d5 => refine' K62.DefIn.mk' ?a ?l ?c; (case a => k_is); (case l => k_is); (case c => k_is)
      case d6 => refine' K62.DefIn.mk' ?a ?l ?c; (case a => k_is); (case l => k_is); (case c => k_is)
      case d7 => refine' K62.DefIn1.mk' ?a ?l ?c ?t; (case a => k_is); (case l => k_is); (case c => k_is); (case t => k_is)
      case d8 => refine' K62.DefIn.mk' ?a ?l ?c; (case a => k_is); (case l => k_is); (case c => k_is)
      case d9 => refine' K62.DefIn.mk' ?a ?l ?c; (case a => k_is); (case l => k_is); (case c => k_is)
      case d10 => refine' K62.DefIn.mk' ?a ?l ?c; (case a => k_is); (case l => k_is); (case c => k_is)
      case d11 => refine' K62.DefIn.mk' ?a ?l ?c; (case a => k_is); (case l => k_is); (case c => k_is)
      case d12 => refine' K62.DefIn.mk' ?a ?l ?c; (case a => k_is); (case l => k_is); (case c => k_is)
      case d13 => refine' K62.DefIn.mk' ?a ?l ?c; (case a => k_is); (case l => k_is); (case c => k_is)
      case d14 => refine' K62.DefIn.mk' ?a ?l ?c; (case a => k_is); (case l => k_is); (case c => k_is)
      case d15 => refine' K62.DefIn.mk' ?a ?l ?c; (case a => k_is); (case l => k_is); (case c => k_is)
      case d16 => refine' K62.DefIn.mk' ?a ?l ?c; (case a => k_is); (case l => k_is); (case c => k_is)
      case d17 => refine' K62.DefIn.mk' ?a ?l ?c; (case a => k_is); (case l => k_is); (case c => k_is)
      case d18 => refine' K62.DefIn.mk' ?a ?l ?c; (case a => k_is); (case l => k_is); (case c => k_is)
      case d19 => refine' K62.DefIn.mk' ?a ?l ?c; (case a => k_is); (case l => k_is); (case c => k_is)
      case d20 => refine' K62.DefIn.mk' ?a ?l ?c; (case a => k_is); (case l => k_is); (case c => k_is)
      case d21 => refine' K62.DefIn.mk' ?a ?l ?c; (case a => k_is); (case l => k_is); (case c => k_is)
      case d22 => refine' K62.DefIn.mk' ?a ?l ?c; (case a => k_is); (case l => k_is); (case c => k_is)
      case d23 => refine' K62.DefIn.mk' ?a ?l ?c; (case a => k_is); (case l => k_is); (case c => k_is)
      case d24 => refine' K62.DefIn.mk' ?a ?l ?c; (case a => k_is); (case l => k_is); (case c => k_is)
      case d25 => refine' K62.DefIn.mk' ?a ?l ?c; (case a => k_is); (case l => k_is); (case c => k_is)
      case d26 => refine' K62.DefIn.mk' ?a ?l ?c; (case a => k_is); (case l => k_is); (case c => k_is)
      case d27 => refine' K62.DefIn.mk' ?a ?l ?c; (case a => k_is); (case l => k_is); (case c => k_is)
      case d28 => refine' K62.DefIn.mk' ?a ?l ?c; (case a => k_is); (case l => k_is); (case c => k_is)
      case d29 => refine' K62.DefIn.mk' ?a ?l ?c; (case a => k_is); (case l => k_is); (case c => k_is)
      case d30 => refine' K62.DefIn.mk' ?a ?l ?c; (case a => k_is); (case l => k_is); (case c => k_is)
      case d31 => refine' K62.DefIn.mk' ?a ?l ?c; (case a => k_is); (case l => k_is); (case c => k_is)
      case d32 => refine' K62.DefIn.mk' ?a ?l ?c; (case a => k_is); (case l => k_is); (case c => k_is)
      case d33 => refine' K62.DefIn.mk' ?a ?l ?c; (case a => k_is); (case l => k_is); (case c => k_is)
      case d34 => refine' K62.DefIn.mk' ?a ?l ?c; (case a => k_is); (case l => k_is); (case c => k_is)
      case d35 => refine' K62.DefIn.mk' ?a ?l ?c; (case a => k_is); (case l => k_is); (case c => k_is)
      case d36 => refine' K62.DefIn.mk' ?a ?l ?c; (case a => k_is); (case l => k_is); (case c => k_is)
      case d37 => refine' K62.DefIn.mk' ?a ?l ?c; (case a => k_is); (case l => k_is); (case c => k_is)
      case d38 => refine' K62.DefIn.mk' ?a ?l ?c; (case a => k_is); (case l => k_is); (case c => k_is)
      case d39 => refine' K62.DefIn.mk' ?a ?l ?c; (case a => k_is); (case l => k_is); (case c => k_is)
      case d40 => refine' K62.DefIn.mk' ?a ?l ?c; (case a => k_is); (case l => k_is); (case c => k_is)
      case d41 => refine' K62.DefIn.mk' ?a ?l ?c; (case a => k_is); (case l => k_is); (case c => k_is)
      case d42 => refine' K62.DefIn.mk' ?a ?l ?c; (case a => k_is); (case l => k_is); (case c => k_is)
      case d43 => refine' K62.DefIn.mk' ?a ?l ?c; (case a => k_is); (case l => k_is); (case c => k_is)
      case d44 => refine' K62.DefIn.mk' ?a ?l ?c; (case a => k_is); (case l => k_is); (case c => k_is)
      case d45 => refine' K62.DefIn.mk' ?a ?l ?c; (case a => k_is); (case l => k_is); (case c => k_is)
      case d46 => refine' K62.DefIn.mk' ?a ?l ?c; (case a => k_is); (case l => k_is); (case c => k_is)
    case nms =>
      refine' ⟨?n0, ?n1, ?n2, ?n3, ?n4, ?n5, ?n6, ?n7, ?n8, ?n9, ?n10, ?n11, ?n12, ?n13, ?n14, ?n15, ?n16, ?n17, ?n18, ?n19, ?n20, ?n21, ?n22⟩
      case n0 => k_is
      case n1 => k_is
      case n2 => k_is
      case n3 => k_is
      case n4 => k_is
      case n5 => k_is
      case n6 => k_is
      case n7 => k_is
      case n8 => k_is
      case n9 => k_is
      case n10 => k_is
      case n11 => k_is
      case n12 => k_is
      case n13 => k_is
      case n14 => k_is
      case n15 => k_is
      case n16 => refine' K62.con_i ?e; (case e => k_is)
      case n17 => refine' K62.con_i ?e; (case e => k_is)
      case n18 => refine' K62.con_i ?e; (case e => k_is)
      case n19 => refine' K62.con_i ?e; (case e => k_is)
      case n20 => refine' K62.con_s ?e; (case e => k_is)
      case n21 => refine' K62.con_s ?e; (case e => k_is)
      case n22 => k_is
