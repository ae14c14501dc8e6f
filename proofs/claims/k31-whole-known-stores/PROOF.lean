import PyProof.Rows.All
import Wide.All
import OpenK.AllK
import Wide.FinOn
import HandS.ForMost
import HandS.Star
import HandS.MakeKwOnly
import HandS.Defaults
import HandS.Property
import HandS.IsInst
import HandS.Conv
import HandS.DictComp
import HandS.Zip
import HandS.Flow
import HandS.Evl
import HandS.ClsMeth
import HandS.Wide
import PySem.Challenge.RW_vectorwidths_k31_whole_known_stores
import HandS.TupSets
import HandS.TupAny
import KE.GoesEnum
import KE.SortData
import HandS.SetBool
import PyProof.ListStr
import HandS.HeadHook1
import HandS.HeadHook2
import HandS.Head0
import HandS.Head1
import HandS.Head2
import HandS.HeadEnd
import KE.KStateDown
import Lean
set_option Elab.async false
set_option linter.all false
set_option maxRecDepth 100000
section
/-! The kit: readings by what an expression gives, over heaps that grow. -/
namespace Vw
open PySem PySem.Spec PyProof.Rows L2 Evl

/-! ### weakest readings -/
def WE (X : Cx) (e : Expr) : TE := fun σ H Q => ∀ pins s, Inv X pins σ H s → wpAny (model X.prog X.w) X.A (eval e X.env) (EP X pins σ Q) X.xe s
def WT (X : Cx) (e : Expr) : TT := fun σ H Q => ∀ pins s, Inv X pins σ H s → wpAny (model X.prog X.w) X.A (isTrue e X.env (eval e X.env)) (TP X pins σ Q) X.xe s
def WW (X : Cx) (e : Expr) : TT := fun σ H Q => ∀ whole pins s, Inv X pins σ H s → wpAny (model X.prog X.w) X.A (isTrue e X.env whole) (TP X pins σ Q) X.xe s
def WA (X : Cx) (es : List Expr) : TA := fun σ H Q => ∀ pos pins s, Inv X pins σ H s → wpAny (model X.prog X.w) X.A (spliced (backTo pos (starEach es X.env))) (AP X pins σ Q) X.xe s
def WS (X : Cx) (st : Stmt) : TS := fun D σ H => ∀ pins s, Inv X pins σ H s → wpAny (model X.prog X.w) X.A (exec st X.env) (SP X pins D) X.xe s
def WB (X : Cx) (sts : List Stmt) : TS := fun D σ H => ∀ pins s, Inv X pins σ H s → wpAny (model X.prog X.w) X.A (execs sts X.env) (SP X pins D) X.xe s
def WI (X : Cx) (tg iter : Expr) : TI := fun σ H R => ∀ pins s, Inv X pins σ H s →
  wpAny (model X.prog X.w) X.A (eval iter X.env) (fun v s1 => wpAny (model X.prog X.w) X.A (pyIter v) (PIE X pins σ tg R) X.xe s1) X.xe s
section
variable {X : Cx} {e tg iter : Expr} {es : List Expr} {st : Stmt} {sts : List Stmt}
theorem we_pe : PE X e (WE X e) := ⟨fun pins s _ _ _ I h => h pins s I⟩
theorem wt_pt : PT X e (WT X e) := ⟨fun pins s _ _ _ I h => h pins s I⟩
theorem ww_pw : PW X e (WW X e) := ⟨fun whole pins s _ _ _ I h => h whole pins s I⟩
theorem wa_pa : PA X es (WA X es) := ⟨fun pos pins s _ _ _ I h => h pos pins s I⟩
theorem ws_ps : PS X st (WS X st) := ⟨fun pins s _ _ _ I h => h pins s I⟩
theorem wb_pss : PSs X sts (WB X sts) := ⟨fun pins s _ _ _ I h => h pins s I⟩
theorem wi_pi : PI X tg iter (WI X tg iter) := ⟨fun pins s _ _ _ I h => h pins s I⟩
theorem toE {t : TE} (h : PE X e t) {σ : L2.St} {H : Hp} {Q : VK} (q : t σ H Q) : WE X e σ H Q := fun pins s I => h.run pins s σ H Q I q
theorem toT {t : TT} (h : PT X e t) {σ : L2.St} {H : Hp} {Q : Bool → Hp → Prop} (q : t σ H Q) : WT X e σ H Q := fun pins s I => h.run pins s σ H Q I q
theorem toW {t : TT} (h : PW X e t) {σ : L2.St} {H : Hp} {Q : Bool → Hp → Prop} (q : t σ H Q) : WW X e σ H Q := fun whole pins s I => h.run whole pins s σ H Q I q
theorem toA {t : TA} (h : PA X es t) {σ : L2.St} {H : Hp} {Q : List V → Hp → Prop} (q : t σ H Q) : WA X es σ H Q := fun pos pins s I => h.run pos pins s σ H Q I q
theorem toS {t : TS} (h : PS X st t) {D : Ends} {σ : L2.St} {H : Hp} (q : t D σ H) : WS X st D σ H := fun pins s I => h.run pins s σ H D I q
theorem toB {t : TS} (h : PSs X sts t) {D : Ends} {σ : L2.St} {H : Hp} (q : t D σ H) : WB X sts D σ H := fun pins s I => h.run pins s σ H D I q
theorem toI {t : TI} (h : PI X tg iter t) {σ : L2.St} {H : Hp} {R : It → Hp → Prop} (q : t σ H R) : WI X tg iter σ H R := fun pins s I => h.run pins s σ H R I q
/-- a body, as Fun.ok asks for it -/
theorem body_of {D : Ends} {σ : L2.St} {H : Hp} (h : WB X sts D σ H) : ∃ t, PSs X sts t ∧ t D σ H := ⟨_, wb_pss, h⟩
end

/-! ### what an expression gives -/
abbrev VPd := V → Hp → Prop
def Mono (P : VPd) : Prop := ∀ v H H', Ex H H' → P v H → P v H'
def VP (X : Cx) (σ : L2.St) (H : Hp) (e : Expr) (P : VPd) : Prop := ∀ H1, Ex H H1 → ∀ Q : VK, (∀ v H2, Ex H1 H2 → P v H2 → Q v H2) → WE X e σ H1 Q
abbrev VE (X : Cx) (σ : L2.St) (H : Hp) (e : Expr) (v : V) : Prop := VP X σ H e fun u _ => u = v
def VT (X : Cx) (σ : L2.St) (H : Hp) (e : Expr) (b : Bool) : Prop := ∀ H1, Ex H H1 → ∀ Q : Bool → Hp → Prop, (∀ H2, Ex H1 H2 → Q b H2) → WT X e σ H1 Q
def VW (X : Cx) (σ : L2.St) (H : Hp) (e : Expr) (b : Bool) : Prop := ∀ H1, Ex H H1 → ∀ Q : Bool → Hp → Prop, (∀ H2, Ex H1 H2 → Q b H2) → WW X e σ H1 Q
def VAP (X : Cx) (σ : L2.St) (H : Hp) (es : List Expr) (P : List V → Hp → Prop) : Prop := ∀ H1, Ex H H1 → ∀ Q : List V → Hp → Prop, (∀ vs H2, Ex H1 H2 → P vs H2 → Q vs H2) → WA X es σ H1 Q
abbrev VA (X : Cx) (σ : L2.St) (H : Hp) (es : List Expr) (vs : List V) : Prop := VAP X σ H es fun us _ => us = vs
/-- a relation by values gives a v with P -/
def RP (r : V → V → Hp → VK → Prop) (x y : V) (H : Hp) (P : VPd) : Prop := ∀ Q : VK, (∀ v H2, Ex H H2 → P v H2 → Q v H2) → r x y H Q
def CP (r : List V → Hp → VK → Prop) (vs : List V) (H : Hp) (P : VPd) : Prop := ∀ Q : VK, (∀ v H2, Ex H H2 → P v H2 → Q v H2) → r vs H Q

section
variable {X : Cx} {σ : L2.St} {H H' : Hp} {a b c e : Expr} {es : List Expr} {v x y z : V} {P P' R : VPd} {pos p : Pos}
theorem VP.mono (h : VP X σ H e P) (k : Ex H H') : VP X σ H' e P := fun H1 e1 Q q => h H1 (k.trans e1) Q q
theorem VT.mono {t : Bool} (h : VT X σ H e t) (k : Ex H H') : VT X σ H' e t := fun H1 e1 Q q => h H1 (k.trans e1) Q q
theorem VAP.mono {S : List V → Hp → Prop} (h : VAP X σ H es S) (k : Ex H H') : VAP X σ H' es S := fun H1 e1 Q q => h H1 (k.trans e1) Q q
theorem VP.imp (h : VP X σ H e P) (k : ∀ v H1, Ex H H1 → P v H1 → P' v H1) : VP X σ H e P' := fun H1 e1 Q q => h H1 e1 Q fun v H2 e2 p => q v H2 e2 (k v H2 (e1.trans e2) p)
theorem VE.is (h : VE X σ H e v) (k : v = x) : VE X σ H e x := k ▸ h
theorem VT.is {s t : Bool} (h : VT X σ H e s) (k : s = t) : VT X σ H e t := k ▸ h
/-- a value, by any rule whose reading is known at once -/
theorem vp_by {t : TE} (h : PE X e t) (q : ∀ H1, Ex H H1 → ∀ Q : VK, (∀ v H2, Ex H1 H2 → P v H2 → Q v H2) → t σ H1 Q) : VP X σ H e P := fun H1 e1 Q k => toE h (q H1 e1 Q k)
theorem v_ev {t : TE} (h : PE X e t) (q : Ev t σ H v) : VE X σ H e v := fun H1 e1 Q k => toE h (q H1 e1 Q fun H2 e2 => k v H2 e2 rfl)
theorem ve_ev (h : VE X σ H e v) : Ev (WE X e) σ H v := fun H1 e1 Q k => h H1 e1 Q fun u H2 e2 q => by subst q; exact k H2 e2

/-! ### names, constants -/
theorem v_nm (i : Nat) {n : Str} (hσ : σ[i]? = some (some v)) (hN : X.N[i]? = some n := by rfl) (hv : Vis X.env.scope n := by first | exact Or.inl rfl | exact Or.inr (Or.inl rfl) | exact Or.inr (Or.inr rfl))
    (hd : (n == ("__debug__" : Str)) = false := by decide) (hcd : (n == ("__classdict__" : Str)) = false := by decide) : VE X σ H (.Name n pos) v := v_ev (pe_var hN hv hd hcd) (ev_var hσ)
theorem v_int {i : Int} {j : Nat} : VE X σ H (.Constant (.int i) j pos) (.int i) := v_ev pe_int ev_c
theorem v_bl {i : Bool} {j : Nat} : VE X σ H (.Constant (.bool i) j pos) (.bl i) := v_ev pe_bl ev_c
theorem v_non {j : Nat} : VE X σ H (.Constant .none j pos) .non := v_ev pe_non ev_c
theorem v_str {i : Str} {j : Nat} : VE X σ H (.Constant (.str i) j pos) (.str i) := v_ev pe_str ev_c
theorem v_gl {n : Str} {u : Value} (hm : X.mg n = some u) (r : RelV v u) (hg : Gl X n := by rfl) (hd : (n == ("__debug__" : Str)) = false := by decide) : VE X σ H (.Name n pos) v := v_ev (pe_glob hg hm r hd) ev_c

/-! ### operators -/
theorem vp_op {op : Operator} {r : R2} (ho : OpR X (binaryOp op) r) {PA : VPd} {PB : V → VPd} (ha : VP X σ H a PA) (hb : ∀ x H1, Ex H H1 → PA x H1 → VP X σ H1 b (PB x))
    (hr : ∀ x H1 y H2, Ex H H1 → PA x H1 → Ex H1 H2 → PB x y H2 → RP r x y H2 P) : VP X σ H (.BinOp a op b pos) P := fun H1 e1 Q q =>
  toE (pe_op ho we_pe we_pe) (ha H1 e1 _ fun x H2 e2 p2 => hb x H2 (e1.trans e2) p2 H2 (Ex.refl H2) _ fun y H3 e3 p3 => hr x H2 y H3 (e1.trans e2) p2 e3 p3 Q fun v H4 e4 p4 => q v H4 ((e2.trans e3).trans e4) p4)
theorem v_op {op : Operator} {r : R2} (ho : OpR X (binaryOp op) r) (ha : VE X σ H a x) (hb : VE X σ H b y) (hr : RV r x y H z) : VE X σ H (.BinOp a op b pos) z := v_ev (pe_op ho we_pe we_pe) (ev_op (ve_ev ha) (ve_ev hb) hr)
theorem v_add {i j : Int} (ha : VE X σ H a (.int i)) (hb : VE X σ H b (.int j)) : VE X σ H (.BinOp a .Add b pos) (.int (i + j)) := v_op op_add ha hb rv_I0
theorem v_sub {i j : Int} (ha : VE X σ H a (.int i)) (hb : VE X σ H b (.int j)) : VE X σ H (.BinOp a .Sub b pos) (.int (i - j)) := v_op op_sub ha hb rv_I0
theorem v_mul {i j : Int} (ha : VE X σ H a (.int i)) (hb : VE X σ H b (.int j)) (hc : CMul i j) : VE X σ H (.BinOp a .Mult b pos) (.int (i * j)) := v_op op_mul ha hb (rv_I hc)
theorem v_fdiv {i j : Int} (ha : VE X σ H a (.int i)) (hb : VE X σ H b (.int j)) (hc : CDiv i j) : VE X σ H (.BinOp a .FloorDiv b pos) (.int (i / j)) := v_op op_fdiv ha hb (rv_I hc)
theorem v_mod {i j : Int} (ha : VE X σ H a (.int i)) (hb : VE X σ H b (.int j)) (hc : 0 < j) : VE X σ H (.BinOp a .Mod b pos) (.int (i % j)) := v_op op_mod ha hb (rv_I hc)
theorem v_cats {i j : Str} (ha : VE X σ H a (.str i)) (hb : VE X σ H b (.str j)) (hl : i.length + j.length ≤ sizeLine) : VE X σ H (.BinOp a .Add b pos) (.str (i ++ j)) :=
  v_op op_add_str ha hb fun H1 _ Q q => ⟨i, j, rfl, rfl, hl, q H1 (Ex.refl H1)⟩
theorem v_neg {i : Int} (ha : VE X σ H a (.int i)) : VE X σ H (.UnaryOp .USub a pos) (.int (-i)) := v_ev (pe_un un_neg we_pe) (ev_un (ve_ev ha) ru_neg)

/-! ### comparisons -/
theorem vp_cmp {op : CmpOp} {r : R2} (ho : OpR X (compareOp op) r) {PA : VPd} {PB : V → VPd} (ha : VP X σ H a PA) (hb : ∀ x H1, Ex H H1 → PA x H1 → VP X σ H1 b (PB x))
    (hr : ∀ x H1 y H2, Ex H H1 → PA x H1 → Ex H1 H2 → PB x y H2 → RP r x y H2 P) (hm : behindInMarks op b = false := by first | exact nomark _ | rfl) : VP X σ H (.Compare a [op] [b] pos) P := fun H1 e1 Q q =>
  toE (pe_cmpR ho we_pe we_pe hm) (ha H1 e1 _ fun x H2 e2 p2 => hb x H2 (e1.trans e2) p2 H2 (Ex.refl H2) _ fun y H3 e3 p3 => hr x H2 y H3 (e1.trans e2) p2 e3 p3 Q fun v H4 e4 p4 => q v H4 ((e2.trans e3).trans e4) p4)
theorem v_cmp {op : CmpOp} {r : R2} (ho : OpR X (compareOp op) r) (ha : VE X σ H a x) (hb : VE X σ H b y) (hr : RV r x y H z) (hm : behindInMarks op b = false := by first | exact nomark _ | rfl) : VE X σ H (.Compare a [op] [b] pos) z :=
  v_ev (pe_cmpR ho we_pe we_pe hm) (ev_op (ve_ev ha) (ve_ev hb) hr)
theorem v_lt {i j : Int} (ha : VE X σ H a (.int i)) (hb : VE X σ H b (.int j)) : VE X σ H (.Compare a [.Lt] [b] pos) (.bl (decide (i < j))) := v_cmp op_lt ha hb rv_I0
theorem v_le {i j : Int} (ha : VE X σ H a (.int i)) (hb : VE X σ H b (.int j)) : VE X σ H (.Compare a [.LtE] [b] pos) (.bl (decide (i ≤ j))) := v_cmp op_le ha hb rv_I0
theorem v_gt {i j : Int} (ha : VE X σ H a (.int i)) (hb : VE X σ H b (.int j)) : VE X σ H (.Compare a [.Gt] [b] pos) (.bl (decide (j < i))) := v_cmp op_gt ha hb rv_I0
theorem v_ge {i j : Int} (ha : VE X σ H a (.int i)) (hb : VE X σ H b (.int j)) : VE X σ H (.Compare a [.GtE] [b] pos) (.bl (decide (j ≤ i))) := v_cmp op_ge ha hb rv_I0
theorem v_eq (ha : VE X σ H a x) (hb : VE X σ H b y) (hs : scal x y = true := by rfl) : VE X σ H (.Compare a [.Eq] [b] pos) (.bl (decide (x = y))) := v_cmp op_eq ha hb (rv_eq hs)
theorem v_ne (ha : VE X σ H a x) (hb : VE X σ H b y) (hs : scal x y = true := by rfl) : VE X σ H (.Compare a [.NotEq] [b] pos) (.bl (!decide (x = y))) := v_cmp op_ne ha hb (rv_ne hs)
theorem v_isN {j : Nat} {p2 : Pos} (ha : VE X σ H a x) : VE X σ H (.Compare a [.Is] [.Constant .none j p2] pos) (.bl (decide (x = .non))) := v_cmp op_isN ha v_non fun H1 _ Q q => ⟨rfl, q H1 (Ex.refl H1)⟩
theorem v_notN {j : Nat} {p2 : Pos} (ha : VE X σ H a x) : VE X σ H (.Compare a [.IsNot] [.Constant .none j p2] pos) (.bl (!decide (x = .non))) := v_cmp op_notN ha v_non fun H1 _ Q q => ⟨rfl, q H1 (Ex.refl H1)⟩
/-- low op v op' high -/
theorem v_chain {op op' : CmpOp} {r r' : R2} (ho : OpR X (compareOp op) r) (ho' : OpR X (compareOp op') r') {k k' : Bool} (ha : VE X σ H a x) (hb : VE X σ H b y) (hc : VE X σ H c z) (h1 : RV r x y H (.bl k)) (h2 : RV r' y z H (.bl k'))
    (hm : lastMarks [op, op'] [b, c] = false := by rfl) : VE X σ H (.Compare a [op, op'] [b, c] pos) (.bl (k && k')) := fun H1 e1 Q q =>
  toE (pe_chain ho ho' we_pe we_pe we_pe hm) (ve_ev ha H1 e1 _ fun H2 e2 => ve_ev hb H2 (e1.trans e2) _ fun H3 e3 => h1 H3 ((e1.trans e2).trans e3) _ fun H4 e4 => ⟨k, rfl, by
    cases k with
    | true => exact ve_ev hc H4 (((e1.trans e2).trans e3).trans e4) _ fun H5 e5 => h2 H5 ((((e1.trans e2).trans e3).trans e4).trans e5) _ fun H6 e6 => q _ H6 ((((e2.trans e3).trans e4).trans e5).trans e6) rfl
    | false => exact q _ H4 ((e2.trans e3).trans e4) rfl⟩)
end
end Vw
end
section
/-! The kit, further: truth, arguments, calls, objects, subscripts, statements. -/
namespace Vw
open PySem PySem.Spec PyProof.Rows L2 Evl
section
variable {X : Cx} {σ : L2.St} {H H' : Hp} {a b c e o : Expr} {es rest : List Expr} {v x y z : V} {P P' R : VPd} {pos p : Pos} {S : List V → Hp → Prop}

/-! ### truth -/
theorem et_vt {t : Bool} (h : VT X σ H e t) : EvT (WT X e) σ H t := h
theorem et_vw {t : Bool} (h : VW X σ H e t) : EvT (WW X e) σ H t := h
theorem t_ev {u : TT} {t : Bool} (h : PT X e u) (q : EvT u σ H t) : VT X σ H e t := fun H1 e1 Q k => toT h (q H1 e1 Q k)
theorem w_ev {u : TT} {t : Bool} (h : PW X e u) (q : EvT u σ H t) : VW X σ H e t := fun H1 e1 Q k => toW h (q H1 e1 Q k)
/-- an expression whose value is a bool, as a test (not for and, or, not, comparisons) -/
theorem t_val {t : Bool} (h : VE X σ H e (.bl t)) (he : ∀ whole, isTrue e X.env whole = (do let v ← whole; standAt e.pos; holding [v] (truthy v)) := by intro _; rfl) : VT X σ H e t := t_ev (pt_val we_pe he) (et_B (ve_ev h))
theorem t_cmpR {op : CmpOp} {r : R2} {t : Bool} (ho : OpR X (compareOp op) r) (ha : VE X σ H a x) (hb : VE X σ H b y) (hr : RV r x y H (.bl t)) (hm : behindInMarks op b = false := by first | exact nomark _ | rfl) : VT X σ H (.Compare a [op] [b] pos) t :=
  t_ev (pt_cmpR ho we_pe we_pe hm) (et_test (ev_op (ve_ev ha) (ve_ev hb) hr))
/-- a comparison whose sides may make objects -/
theorem tp_cmp {op : CmpOp} {r : R2} {t : Bool} (ho : OpR X (compareOp op) r) {PA : VPd} {PB : V → VPd} (ha : VP X σ H a PA) (hb : ∀ x H1, Ex H H1 → PA x H1 → VP X σ H1 b (PB x))
    (hr : ∀ x H1 y H2, Ex H H1 → PA x H1 → Ex H1 H2 → PB x y H2 → RP r x y H2 fun u _ => u = .bl t) (hm : behindInMarks op b = false := by first | exact nomark _ | rfl) : VT X σ H (.Compare a [op] [b] pos) t := fun H1 e1 Q q =>
  toT (pt_cmpR ho we_pe we_pe hm) (ha H1 e1 _ fun x H2 e2 p2 => hb x H2 (e1.trans e2) p2 H2 (Ex.refl H2) _ fun y H3 e3 p3 => hr x H2 y H3 (e1.trans e2) p2 e3 p3 _ fun v H4 e4 p4 => ⟨t, p4, q H4 ((e2.trans e3).trans e4)⟩)
theorem t_lt {i j : Int} (ha : VE X σ H a (.int i)) (hb : VE X σ H b (.int j)) : VT X σ H (.Compare a [.Lt] [b] pos) (decide (i < j)) := t_cmpR op_lt ha hb rv_I0
theorem t_le {i j : Int} (ha : VE X σ H a (.int i)) (hb : VE X σ H b (.int j)) : VT X σ H (.Compare a [.LtE] [b] pos) (decide (i ≤ j)) := t_cmpR op_le ha hb rv_I0
theorem t_gt {i j : Int} (ha : VE X σ H a (.int i)) (hb : VE X σ H b (.int j)) : VT X σ H (.Compare a [.Gt] [b] pos) (decide (j < i)) := t_cmpR op_gt ha hb rv_I0
theorem t_ge {i j : Int} (ha : VE X σ H a (.int i)) (hb : VE X σ H b (.int j)) : VT X σ H (.Compare a [.GtE] [b] pos) (decide (j ≤ i)) := t_cmpR op_ge ha hb rv_I0
theorem t_eq (ha : VE X σ H a x) (hb : VE X σ H b y) (hs : scal x y = true := by rfl) : VT X σ H (.Compare a [.Eq] [b] pos) (decide (x = y)) := t_cmpR op_eq ha hb (rv_eq hs)
theorem t_ne (ha : VE X σ H a x) (hb : VE X σ H b y) (hs : scal x y = true := by rfl) : VT X σ H (.Compare a [.NotEq] [b] pos) (!decide (x = y)) := t_cmpR op_ne ha hb (rv_ne hs)
theorem t_isN {j : Nat} {p2 : Pos} (ha : VE X σ H a x) : VT X σ H (.Compare a [.Is] [.Constant .none j p2] pos) (decide (x = .non)) := t_cmpR op_isN ha v_non fun H1 _ Q q => ⟨rfl, q H1 (Ex.refl H1)⟩
theorem t_notN {j : Nat} {p2 : Pos} (ha : VE X σ H a x) : VT X σ H (.Compare a [.IsNot] [.Constant .none j p2] pos) (!decide (x = .non)) := t_cmpR op_notN ha v_non fun H1 _ Q q => ⟨rfl, q H1 (Ex.refl H1)⟩
/-- is None of a value told by a word that tells whether it is -/
theorem tp_isN {j : Nat} {p2 : Pos} {t : Bool} (ha : VP X σ H a P) (k : ∀ v H1, Ex H H1 → P v H1 → decide (v = .non) = t) : VT X σ H (.Compare a [.Is] [.Constant .none j p2] pos) t :=
  tp_cmp op_isN ha (fun x H1 e1 p1 => (v_non : VE X σ H1 _ _)) fun x H1 y H2 e1 p1 e2 p2 Q q => ⟨p2, q _ H2 (Ex.refl H2) (by rw [k x H1 e1 p1])⟩
theorem t_chain {op op' : CmpOp} {r r' : R2} (ho : OpR X (compareOp op) r) (ho' : OpR X (compareOp op') r') {k k' : Bool} (ha : VE X σ H a x) (hb : VE X σ H b y) (hc : VE X σ H c z) (h1 : RV r x y H (.bl k)) (h2 : RV r' y z H (.bl k'))
    (hm : lastMarks [op, op'] [b, c] = false := by rfl) : VT X σ H (.Compare a [op, op'] [b, c] pos) (k && k') := fun H1 e1 Q q =>
  toT (pt_chain ho ho' we_pe we_pe we_pe hm) (ve_ev ha H1 e1 _ fun H2 e2 => ve_ev hb H2 (e1.trans e2) _ fun H3 e3 => h1 H3 ((e1.trans e2).trans e3) _ fun H4 e4 => ⟨k, rfl, by
    cases k with
    | true => exact ve_ev hc H4 (((e1.trans e2).trans e3).trans e4) _ fun H5 e5 => h2 H5 ((((e1.trans e2).trans e3).trans e4).trans e5) _ fun H6 e6 => ⟨k', rfl, q H6 ((((e2.trans e3).trans e4).trans e5).trans e6)⟩
    | false => exact ⟨false, rfl, q H4 ((e2.trans e3).trans e4)⟩⟩)
theorem t_not {t : Bool} (h : VT X σ H a t) : VT X σ H (.UnaryOp .Not a pos) (!t) := t_ev (pt_not wt_pt) (et_not h)
theorem w_t {t : Bool} (h : VW X σ H e t) : VT X σ H e t := t_ev (PW.pt ww_pw) h
theorem w_and1 {t : Bool} (h : VT X σ H a t) : VW X σ H (.BoolOp .And [a] pos) t := w_ev (pw_and1 wt_pt) h
theorem w_or1 {t : Bool} (h : VT X σ H a t) : VW X σ H (.BoolOp .Or [a] pos) t := w_ev (pw_or1 wt_pt) h
theorem w_and {s t : Bool} (h : VT X σ H a s) (k : s = true → VW X σ H (.BoolOp .And (b :: rest) pos) t) : VW X σ H (.BoolOp .And (a :: b :: rest) pos) (s && t) := w_ev (pw_and wt_pt ww_pw) (et_and h k)
theorem w_or {s t : Bool} (h : VT X σ H a s) (k : s = false → VW X σ H (.BoolOp .Or (b :: rest) pos) t) : VW X σ H (.BoolOp .Or (a :: b :: rest) pos) (s || t) := w_ev (pw_or wt_pt ww_pw) (et_or h k)
theorem v_one {op : BoolOp} (h : VE X σ H a v) : VE X σ H (.BoolOp op [a] pos) v := v_ev (pe_one we_pe) (ve_ev h)
theorem v_and {s t : Bool} (h : VE X σ H a (.bl s)) (k : s = true → VE X σ H (.BoolOp .And (b :: rest) pos) (.bl t)) : VE X σ H (.BoolOp .And (a :: b :: rest) pos) (.bl (s && t)) := v_ev (pe_and we_pe we_pe) (ev_andV (ve_ev h) fun q => ve_ev (k q))
theorem v_or {s t : Bool} (h : VE X σ H a (.bl s)) (k : s = false → VE X σ H (.BoolOp .Or (b :: rest) pos) (.bl t)) : VE X σ H (.BoolOp .Or (a :: b :: rest) pos) (.bl (s || t)) := v_ev (pe_or we_pe we_pe) (ev_orV (ve_ev h) fun q => ve_ev (k q))
theorem v_not {t : Bool} (h : VE X σ H a (.bl t)) : VE X σ H (.UnaryOp .Not a pos) (.bl (!t)) := v_ev (pe_not we_pe) (ev_notV (ve_ev h))
theorem vp_if {t : Bool} (h : VT X σ H c t) (h1 : t = true → VP X σ H a P) (h2 : t = false → VP X σ H b P) : VP X σ H (.IfExp c a b pos) P := fun H1 e1 Q q =>
  toE (pe_ifExp wt_pt we_pe we_pe) (h H1 e1 _ fun H2 e2 => by
    cases t with
    | true => exact h1 rfl H2 (e1.trans e2) Q fun v H3 e3 p => q v H3 (e2.trans e3) p
    | false => exact h2 rfl H2 (e1.trans e2) Q fun v H3 e3 p => q v H3 (e2.trans e3) p)

/-! ### arguments -/
theorem va_nil : VA X σ H [] [] := fun H1 e1 Q q => toA pa_nil (q [] H1 (Ex.refl H1) rfl)
theorem va_cons {vs : List V} (h : VE X σ H e v) (hr : VA X σ H es vs) (hs : starEach (e :: es) X.env = (false, eval e X.env) :: starEach es X.env := by rfl) : VA X σ H (e :: es) (v :: vs) := fun H1 e1 Q q =>
  toA (pa_cons we_pe wa_pa hs) (h H1 e1 _ fun u H2 e2 p2 => hr H2 (e1.trans e2) _ fun us H3 e3 p3 => q _ H3 (e2.trans e3) (by rw [p2, p3]))
theorem vap_nil : VAP X σ H [] fun vs _ => vs = [] := va_nil
theorem vap_cons (h : VP X σ H e P) (m : Mono P) (hr : ∀ v H1, Ex H H1 → P v H1 → VAP X σ H1 es S) (hs : starEach (e :: es) X.env = (false, eval e X.env) :: starEach es X.env := by rfl) :
    VAP X σ H (e :: es) fun vs H' => ∃ v r, vs = v :: r ∧ P v H' ∧ S r H' := fun H1 e1 Q q =>
  toA (pa_cons we_pe wa_pa hs) (h H1 e1 _ fun u H2 e2 p2 => hr u H2 (e1.trans e2) p2 H2 (Ex.refl H2) _ fun us H3 e3 p3 => q _ H3 (e2.trans e3) ⟨u, us, rfl, m u H2 H3 e3 p2, p3⟩)

/-! ### promises that only add objects -/
def PuSp {G : Type} (pre : G → List V → Hp → Prop) (post : G → VPd) : Sp := fun vs H Q _ => ∃ g, pre g vs H ∧ ∀ v H', Ex H H' → post g v H' → Q v H'
/-- a def of the module, called by its name -/
structure Has (P : Program) (w : World) (K : PySem.W.Frag) (mg : Str → Option Value) (base : Heap) (n : Str) (k : Nat) (ps : List Str) (sp : Sp) : Prop where
  ex : ∃ (f : Addr) (fd : FuncData), FnOk P w K mg base CX0 k f fd ps sp ∧ mg n = some (.ref f) ∧ PySem.W.keepIn K (.ref f) = true ∧ Binds K fd ps []
/-- a method of the class at C -/
structure HasM (P : Program) (w : World) (K : PySem.W.Frag) (mg : Str → Option Value) (base : Heap) (C : Addr) (m : Str) (k : Nat) (ps : List Str) (sp : Sp) : Prop where
  ex : ∃ (f : Addr) (fd : FuncData), FnOk P w K mg base CX0 k f fd ps sp ∧ Meth K C m f ∧ Binds K fd ps []
/-- a property of the class at C -/
structure HasG (P : Program) (w : World) (K : PySem.W.Frag) (mg : Str → Option Value) (base : Heap) (C : Addr) (m : Str) (k : Nat) (sp : Sp) : Prop where
  ex : ∃ (q f : Addr) (fd : FuncData), FnOk P w K mg base CX0 k f fd ["self"] sp ∧ PropOf K C m q f ∧ Binds K fd ["self"] []
variable {G : Type} {pre : G → List V → Hp → Prop} {post : G → VPd} {n m : Str} {k : Nat} {ps : List Str}
theorem vp_call (F : Has X.prog X.w X.K X.mg X.base n k ps (PuSp pre post)) (hr : Room k X.A) (g : G) (ha : VAP X σ H (e :: es) S) (hp : ∀ vs H1, Ex H H1 → S vs H1 → pre g vs H1) (hk : ∀ v H', Ex H H' → post g v H' → P v H') (hg : Gl X n := by rfl) (hdb : (n == ("__debug__" : Str)) = false := by decide)
    (he : starEach (e :: es) X.env = (false, eval e X.env) :: starEach es X.env := by rfl) (hpl : (backTo pos (starEach es X.env)).any (·.1) = false := by rfl) : VP X σ H (.Call (.Name n p) (e :: es) [] pos) P := by
  obtain ⟨f, fd, F1, F2, F3, F4⟩ := F.ex
  intro H1 e1 Q q
  refine toE (pe_call F1 hr hg F2 F3 F4 .nil pass0 wa_pa hdb he hpl) (ha H1 e1 _ fun vs H2 e2 p2 => ?_)
  show PuSp pre post (vs ++ []) H2 Q E0
  rw [List.append_nil]
  exact ⟨g, hp vs H2 (e1.trans e2) p2, fun v H3 e3 p3 => q v H3 (e2.trans e3) (hk v H3 ((e1.trans e2).trans e3) p3)⟩
theorem vp_meth {C : Addr} {pp dx : Addr} {fs : List (Str × V)} {apos : Pos} {pl : Sem Bool} (F : HasM X.prog X.w X.K X.mg X.base C m k ps (PuSp pre post)) (c : Cls X.K C) (hr : Room k X.A) (ho : VE X σ H o (.ref pp)) (hi : H pp = some (.ins C dx fs)) (hl : fs.lookup m = none) (g : G)
    (ha : VAP X σ H (e :: es) S) (hp : ∀ vs H1, Ex H H1 → S vs H1 → pre g (.ref pp :: vs) H1) (hk : ∀ v H', Ex H H' → post g v H' → P v H') (hst : starEach (e :: es) X.env = (false, eval e X.env) :: starEach es X.env := by rfl) (hpl : (backTo pos (starEach es X.env)).any (·.1) = false := by rfl)
    (ht : eval (.Call (.Attribute o m apos) (e :: es) [] pos) X.env = (do
      let ov ← eval o X.env
      standAt apos.atName
      let (f, first) ← holding [ov] (getMethod ov m pl)
      callWith pos f first (backTo pos (starEach (e :: es) X.env)) (backToKw pos (keywordEach [] X.env))) := by rfl) : VP X σ H (.Call (.Attribute o m apos) (e :: es) [] pos) P := by
  obtain ⟨f, fd, F1, F2, F3⟩ := F.ex
  intro H1 e1 Q q
  refine toE (pe_meth (pl := pl) we_pe c F2 F1 hr F3 .nil pass0 wa_pa hst hpl ht) (ho H1 e1 _ fun u H2 e2 p2 => ?_)
  subst p2
  refine ⟨pp, dx, fs, rfl, e2 _ _ (e1 _ _ hi), hl, ha H2 (e1.trans e2) _ fun vs H3 e3 p3 => ?_⟩
  show PuSp pre post (.ref pp :: (vs ++ [])) H3 Q E0
  rw [List.append_nil]
  exact ⟨g, hp vs H3 ((e1.trans e2).trans e3) p3, fun v H4 e4 p4 => q v H4 ((e2.trans e3).trans e4) (hk v H4 (((e1.trans e2).trans e3).trans e4) p4)⟩
theorem vp_meth0 {C : Addr} {pp dx : Addr} {fs : List (Str × V)} {apos : Pos} {pl : Sem Bool} (F : HasM X.prog X.w X.K X.mg X.base C m k ps (PuSp pre post)) (c : Cls X.K C) (hr : Room k X.A) (ho : VE X σ H o (.ref pp)) (hi : H pp = some (.ins C dx fs)) (hl : fs.lookup m = none) (g : G)
    (hp : ∀ H1, Ex H H1 → pre g [.ref pp] H1) (hk : ∀ v H', Ex H H' → post g v H' → P v H')
    (ht : eval (.Call (.Attribute o m apos) [] [] pos) X.env = (do
      let ov ← eval o X.env
      standAt apos.atName
      let (f, first) ← holding [ov] (getMethod ov m pl)
      callWith pos f first (backTo pos (starEach [] X.env)) (backToKw pos (keywordEach [] X.env))) := by rfl) : VP X σ H (.Call (.Attribute o m apos) [] [] pos) P := by
  obtain ⟨f, fd, F1, F2, F3⟩ := F.ex
  intro H1 e1 Q q
  refine toE (pe_meth0 (pl := pl) we_pe c F2 F1 hr F3 .nil pass0 ht) (ho H1 e1 _ fun u H2 e2 p2 => ?_)
  subst p2
  refine ⟨pp, dx, fs, rfl, e2 _ _ (e1 _ _ hi), hl, ?_⟩
  exact ⟨g, hp H2 (e1.trans e2), fun v H4 e4 p4 => q v H4 (e2.trans e4) (hk v H4 ((e1.trans e2).trans e4) p4)⟩
theorem vp_prop {C : Addr} {pp dx : Addr} {fs : List (Str × V)} (F : HasG X.prog X.w X.K X.mg X.base C m k (PuSp pre post)) (c : Cls X.K C) (hr : Room (k + 1) X.A) (ho : VE X σ H o (.ref pp)) (hi : H pp = some (.ins C dx fs)) (g : G)
    (hp : ∀ H1, Ex H H1 → pre g [.ref pp] H1) (hk : ∀ v H', Ex H H' → post g v H' → P v H') (hab : attributeBase o m X.env (eval o X.env) = eval o X.env := by rfl) : VP X σ H (.Attribute o m pos) P := by
  obtain ⟨pq, f, fd, F1, F2, F3⟩ := F.ex
  intro H1 e1 Q q
  refine toE (pe_prop we_pe c F2 F1 hr F3 .nil pass0 hab) (ho H1 e1 _ fun u H2 e2 p2 => ?_)
  subst p2
  refine ⟨pp, dx, fs, rfl, e2 _ _ (e1 _ _ hi), ?_⟩
  exact ⟨g, hp H2 (e1.trans e2), fun v H4 e4 p4 => q v H4 (e2.trans e4) (hk v H4 ((e1.trans e2).trans e4) p4)⟩
theorem v_fld {C : Addr} {pp dx : Addr} {fs : List (Str × V)} (c : Cls X.K C) (na : NoAttr X.K C m) (ho : VE X σ H o (.ref pp)) (hi : H pp = some (.ins C dx fs)) (hl : fs.lookup m = some v) (hb : attributeBase o m X.env (eval o X.env) = eval o X.env := by rfl) :
    VE X σ H (.Attribute o m pos) v := fun H1 e1 Q q => toE (pe_fld we_pe hb) (ho H1 e1 _ fun u H2 e2 p2 => by
  subst p2
  exact ⟨pp, C, dx, fs, v, rfl, e2 _ _ (e1 _ _ hi), c, na, hl, q v H2 e2 rfl⟩)
/-- a built-in function or class, called -/
theorem vp_bi {id : String} {r : List V → Hp → VK → Prop} (hc : CallR X (.builtin id) r) (hm : X.mg n = none) (hv : bootBuiltins n = some (.builtin id)) (ha : VAP X σ H (e :: es) S) (hr : ∀ vs H1, Ex H H1 → S vs H1 → CP r vs H1 P) (hg : Gl X n := by rfl)
    (hn : n ≠ "__name__" := by decide) (hdb : (n == ("__debug__" : Str)) = false := by decide) (he : starEach (e :: es) X.env = (false, eval e X.env) :: starEach es X.env := by rfl) (hpl : (backTo pos (starEach es X.env)).any (·.1) = false := by rfl) :
    VP X σ H (.Call (.Name n p) (e :: es) [] pos) P := fun H1 e1 Q q =>
  toE (pe_callB hc hg hm hv wa_pa hn hdb he hpl) (ha H1 e1 _ fun vs H2 e2 p2 => hr vs H2 (e1.trans e2) p2 Q fun v H3 e3 p3 => q v H3 (e2.trans e3) p3)
theorem vp_ty {T : String} {r : List V → Hp → VK → Prop} (hc : CallR X (.type T) r) (hm : X.mg n = none) (hv : bootBuiltins n = some (.type T)) (ha : VAP X σ H (e :: es) S) (hr : ∀ vs H1, Ex H H1 → S vs H1 → CP r vs H1 P) (hg : Gl X n := by rfl)
    (hn : n ≠ "__name__" := by decide) (hdb : (n == ("__debug__" : Str)) = false := by decide) (he : starEach (e :: es) X.env = (false, eval e X.env) :: starEach es X.env := by rfl) (hpl : (backTo pos (starEach es X.env)).any (·.1) = false := by rfl) :
    VP X σ H (.Call (.Name n p) (e :: es) [] pos) P := fun H1 e1 Q q =>
  toE (pe_callTy hc hg hm hv wa_pa hn hdb he hpl) (ha H1 e1 _ fun vs H2 e2 p2 => hr vs H2 (e1.trans e2) p2 Q fun v H3 e3 p3 => q v H3 (e2.trans e3) p3)

/-! ### displays, subscripts -/
theorem vp_tup {x1 : Nat} (ha : VAP X σ H es S) (k : ∀ vs H1, Ex H H1 → S vs H1 → vs.length ≤ sizeLine ∧ ∀ p, H1 p = none → P (.ref p) (upd H1 p (.tup vs))) : VP X σ H (.Tuple es x1 pos) P := fun H1 e1 Q q =>
  toE (pe_tup wa_pa) (ha H1 e1 _ fun vs H2 e2 p2 => ⟨(k vs H2 (e1.trans e2) p2).1, fun p hp => q _ _ (e2.trans (Ex.new hp)) ((k vs H2 (e1.trans e2) p2).2 p hp)⟩)
theorem vp_lst (ha : VAP X σ H es S) (k : ∀ vs H1, Ex H H1 → S vs H1 → vs.length ≤ sizeLine ∧ ∀ p, H1 p = none → P (.ref p) (upd H1 p (.lst vs))) : VP X σ H (.List es pos) P := fun H1 e1 Q q =>
  toE (pe_lst wa_pa) (ha H1 e1 _ fun vs H2 e2 p2 => ⟨(k vs H2 (e1.trans e2) p2).1, fun p hp => q _ _ (e2.trans (Ex.new hp)) ((k vs H2 (e1.trans e2) p2).2 p hp)⟩)
/-- a tuple of values that are known -/
theorem v_tup {x1 : Nat} {vs : List V} (ha : VA X σ H es vs) (hl : vs.length ≤ 100000) : VP X σ H (.Tuple es x1 pos) fun v H' => ∃ p, v = .ref p ∧ H p = none ∧ H' p = some (.tup vs) :=
  vp_tup ha fun us H1 e1 q => by
    subst q
    exact ⟨sz_of hl, fun p hp => ⟨p, rfl, fresh_back e1 hp, upd_same⟩⟩
theorem v_lst {vs : List V} (ha : VA X σ H es vs) (hl : vs.length ≤ 100000) : VP X σ H (.List es pos) fun v H' => ∃ p, v = .ref p ∧ H p = none ∧ H' p = some (.lst vs) :=
  vp_lst ha fun us H1 e1 q => by
    subst q
    exact ⟨sz_of hl, fun p hp => ⟨p, rfl, fresh_back e1 hp, upd_same⟩⟩
theorem v_ixL {pp : Addr} {xs : List V} {i : Int} (ha : VE X σ H a (.ref pp)) (hb : VE X σ H b (.int i)) (hx : SqL X.K H pp xs) (hi : atI xs i = some v) (hs : PlainIx b := by intro _ _; rfl) : VE X σ H (.Subscript a b pos) v := v_ev (pe_ix ix_list we_pe we_pe hs) (ev_op (ve_ev ha) (ve_ev hb) (rv_ixL hx hi))
theorem v_ixT {pp : Addr} {xs : List V} {i : Int} (ha : VE X σ H a (.ref pp)) (hb : VE X σ H b (.int i)) (hx : SqT X.K H pp xs) (hi : atI xs i = some v) (hs : PlainIx b := by intro _ _; rfl) : VE X σ H (.Subscript a b pos) v := v_ev (pe_ix ix_tup we_pe we_pe hs) (ev_op (ve_ev ha) (ve_ev hb) (rv_ixT hx hi))
theorem v_ixS {w : Str} {i : Int} {c : Nat} (ha : VE X σ H a (.str w)) (hb : VE X σ H b (.int i)) (hl : w.length ≤ 100000) (hi : atI w.cps.toList i = some c) (hs : PlainIx b := by intro _ _; rfl) : VE X σ H (.Subscript a b pos) (.str ⟨#[c]⟩) := v_ev (pe_ix ix_str we_pe we_pe hs) (ev_op (ve_ev ha) (ve_ev hb) (rv_ixS hl hi))

/-! ### statements -/
variable {D : Ends} {st : Stmt} {sts : List Stmt} {body orelse : List Stmt}
theorem wb_nil (h : D.nx σ H) : WB X [] D σ H := toB pss_nil h
theorem wb_cons (h : WS X st { D with nx := fun σ' H' => WB X sts D σ' H' } σ H) : WB X (st :: sts) D σ H := toB (pss_cons ws_ps wb_pss) h
theorem wb_one (h : WS X st D σ H) : WB X [st] D σ H := toB (pss_one ws_ps) h
theorem ws_ret (h : VP X σ H e P) (k : ∀ v H1, Ex H H1 → P v H1 → D.rt v H1) : WS X (.Return (some e) pos) D σ H := toS (ps_ret we_pe) (h H (Ex.refl H) _ k)
theorem wb_ret (h : VP X σ H e P) (k : ∀ v H1, Ex H H1 → P v H1 → D.rt v H1) : WB X (.Return (some e) pos :: sts) D σ H := wb_cons (ws_ret h k)
theorem wb_set (i : Nat) {pos' : Pos} (hN : X.N.Nodup) (h : VP X σ H e P) (k : ∀ v H1, Ex H H1 → P v H1 → WB X sts D (σ.set i (some v)) H1) (hi : X.N[i]? = some n := by rfl) (hx : Loc X.env.scope n := by first | exact Or.inl rfl | exact Or.inr rfl)
    (hs : swapsWith e (some (.Name n pos')) pos.line X.env = pure false := by rfl) (hf : X.fn n = true ∨ X.env.scope.names.lookup n = some .local := by first | exact .inl rfl | exact .inr rfl) : WB X (.Assign [.Name n pos'] e pos :: sts) D σ H :=
  wb_cons (toS (ps_set hN hi hx we_pe hs hf) (h H (Ex.refl H) _ k))
theorem wb_if {t : Bool} (h : VT X σ H c t) (h1 : t = true → ∀ H1, Ex H H1 → WB X body { D with nx := fun σ' H' => WB X sts D σ' H' } σ H1) (h2 : t = false → ∀ H1, Ex H H1 → WB X orelse { D with nx := fun σ' H' => WB X sts D σ' H' } σ H1) :
    WB X (.If c body orelse pos :: sts) D σ H := wb_cons (toS (ps_if wt_pt wb_pss wb_pss) (h H (Ex.refl H) _ fun H1 e1 => by
  cases t with
  | true => exact h1 rfl H1 e1
  | false => exact h2 rfl H1 e1))
theorem wb_ifT (h : VT X σ H c true) (h1 : ∀ H1, Ex H H1 → WB X body { D with nx := fun σ' H' => WB X sts D σ' H' } σ H1) : WB X (.If c body orelse pos :: sts) D σ H := wb_if h (fun _ => h1) fun z => nomatch z
/-- an if whose test fails, without else -/
theorem wb_no (h : VT X σ H c false) (h1 : ∀ H1, Ex H H1 → WB X sts D σ H1) : WB X (.If c body [] pos :: sts) D σ H := wb_if h (fun z => nomatch z) fun _ H1 e1 => wb_nil (h1 H1 e1)
theorem wb_ifF (h : VT X σ H c false) (h1 : ∀ H1, Ex H H1 → WB X orelse { D with nx := fun σ' H' => WB X sts D σ' H' } σ H1) : WB X (.If c body orelse pos :: sts) D σ H := wb_if h (fun z => nomatch z) fun _ => h1
/-- an expression whose value is dropped -/
theorem wb_drop (h : VP X σ H e P) (k : ∀ v H1, Ex H H1 → P v H1 → WB X sts D σ H1) (hs : swapsWith e none pos.line X.env = pure false := by rfl) : WB X (.Expr e pos :: sts) D σ H := wb_cons (toS (ps_expr we_pe hs) (h H (Ex.refl H) _ k))
/-- self.f = e -/
theorem wb_fld {C : Addr} {pp dx : Addr} {fs : List (Str × V)} {pos' : Pos} (c : Cls X.K C) (na : NoAttr X.K C m) (h : VP X σ H e P) (ho : VE X σ H o (.ref pp)) (hi : H pp = some (.ins C dx fs)) (hl : fs.length < 1000)
    (k : ∀ v H1, Ex H H1 → P v H1 → ∀ H2, Ex H1 H2 → WB X sts D σ (upd H2 pp (.ins C dx (putF m v fs)))) (hs : swapsWith e (some (.Attribute o m pos')) pos.line X.env = pure false := by rfl) : WB X (.Assign [.Attribute o m pos'] e pos :: sts) D σ H :=
  wb_cons (toS (ps_fld we_pe we_pe hs) (h H (Ex.refl H) _ fun v H1 e1 p1 => ho H1 e1 _ fun u H2 e2 p2 => by
    subst p2
    exact ⟨pp, C, dx, fs, rfl, e2 _ _ (e1 _ _ hi), c, na, hl, k v H1 e1 p1 H2 e2⟩))
/-- xs.append(e), xs known to stand in H -/
theorem wb_app {l : Addr} {xs : List V} {apos : Pos} {cpos : Pos} (hl : H l = some (.lst xs)) (ho : VE X σ H o (.ref l)) (h : VP X σ H e P) (hz : xs.length < 100000) (k : ∀ v H1, Ex H H1 → P v H1 → WB X sts D σ (upd H1 l (.lst (xs ++ [v]))))
    (hs : swapsWith (.Call (.Attribute o "append" apos) [e] [] cpos) none pos.line X.env = pure false := by rfl) (hbase : attributeBase o "append" X.env (eval o X.env) = eval o X.env := by rfl)
    (hfew : ((backTo cpos (starEach [e] X.env)).all (fun x => !x.1) && (backToKw cpos (keywordEach [] X.env)).all (fun x => x.1.isSome)
      && decide ([e].length + ([] : List Keyword).length + (if ([] : List Keyword).isEmpty then 0 else 1) < 30)) = true := by rfl)
    (hline : (apos.endLine == cpos.line) = true := by rfl) (hst : starEach [e] X.env = (false, eval e X.env) :: starEach [] X.env := by rfl) (hplain : (backTo cpos (starEach [] X.env)).any (·.1) = false := by rfl) :
    WB X (.Expr (.Call (.Attribute o "append" apos) [e] [] cpos) pos :: sts) D σ H :=
  wb_cons (toS (ps_expr (pe_bm PySem.F.plainAttrs_list PySem.F.slot_list_append PySem.F.type_list_append mt_append we_pe (pa_cons we_pe pa_nil hst) hbase hfew hline hst hplain) hs) (ho H (Ex.refl H) _ fun u H1 e1 p1 => by
    subst p1
    exact ⟨Or.inl ⟨rfl, xs, sq_of (e1 l _ hl)⟩, h H1 e1 _ fun v H2 e2 p2 => ⟨l, xs, v, rfl, rfl, e2 l _ (e1 l _ hl), sz_lt hz, k v H2 (e1.trans e2) p2⟩⟩))
/-- xs.extend(e), e another list -/
theorem wb_ext {l : Addr} {xs : List V} {apos : Pos} {cpos : Pos} (hl : H l = some (.lst xs)) (ho : VE X σ H o (.ref l)) (h : VP X σ H e P) (kz : ∀ v H1, Ex H H1 → P v H1 → ∃ b zs, v = .ref b ∧ H1 b = some (.lst zs) ∧ xs.length + zs.length ≤ 100000 ∧ WB X sts D σ (upd H1 l (.lst (xs ++ zs))))
    (hs : swapsWith (.Call (.Attribute o "extend" apos) [e] [] cpos) none pos.line X.env = pure false := by rfl) (hbase : attributeBase o "extend" X.env (eval o X.env) = eval o X.env := by rfl)
    (hfew : ((backTo cpos (starEach [e] X.env)).all (fun x => !x.1) && (backToKw cpos (keywordEach [] X.env)).all (fun x => x.1.isSome)
      && decide ([e].length + ([] : List Keyword).length + (if ([] : List Keyword).isEmpty then 0 else 1) < 30)) = true := by rfl)
    (hline : (apos.endLine == cpos.line) = true := by rfl) (hst : starEach [e] X.env = (false, eval e X.env) :: starEach [] X.env := by rfl) (hplain : (backTo cpos (starEach [] X.env)).any (·.1) = false := by rfl) :
    WB X (.Expr (.Call (.Attribute o "extend" apos) [e] [] cpos) pos :: sts) D σ H :=
  wb_cons (toS (ps_expr (pe_bm PySem.F.plainAttrs_list PySem.F.slot_list_extend PySem.F.type_list_extend mt_extend we_pe (pa_cons we_pe pa_nil hst) hbase hfew hline hst hplain) hs) (ho H (Ex.refl H) _ fun u H1 e1 p1 => by
    subst p1
    refine ⟨Or.inl ⟨rfl, xs, sq_of (e1 l _ hl)⟩, h H1 e1 _ fun v H2 e2 p2 => ?_⟩
    obtain ⟨b, zs, rfl, hb, hz, w⟩ := kz v H2 (e1.trans e2) p2
    exact ⟨l, b, xs, zs, rfl, rfl, e2 l _ (e1 l _ hl), hb, sz_of hz, w⟩))
end
end Vw
end
section
/-! The kit, further: targets, what is walked, loops, comprehensions, data that never changes. -/
namespace Vw
open PySem PySem.Spec PyProof.Rows L2 Evl

/-! ### data of tuples: it stays, whatever list or instance changes -/
mutual
inductive Tp (H : Hp) : V → PyData → Prop
  | non : Tp H .non .none
  | bl (b : Bool) : Tp H (.bl b) (.bool b)
  | int (i : Int) : Tp H (.int i) (.int i)
  | str (x : Str) : Tp H (.str x) (.str x)
  | tup {a : Addr} {xs : List V} {ds : List PyData} : H a = some (.tup xs) → TpAll H xs ds → Tp H (.ref a) (.tuple ds)
inductive TpAll (H : Hp) : List V → List PyData → Prop
  | nil : TpAll H [] []
  | cons {v : V} {vs : List V} {d : PyData} {ds : List PyData} : Tp H v d → TpAll H vs ds → TpAll H (v :: vs) (d :: ds)
end
/-- the tuples stand as they stood -/
def Kt (H H' : Hp) : Prop := ∀ a xs, H a = some (.tup xs) → H' a = some (.tup xs)
theorem Kt.refl (H : Hp) : Kt H H := fun _ _ h => h
theorem Kt.trans {H H1 H2 : Hp} (a : Kt H H1) (b : Kt H1 H2) : Kt H H2 := fun x xs h => b x xs (a x xs h)
theorem kt_ex {H H' : Hp} (e : Ex H H') : Kt H H' := fun a xs h => e a _ h
theorem kt_upd {H : Hp} {l : Addr} {o : HO} (h : ∀ xs, H l ≠ some (.tup xs)) : Kt H (upd H l o) := fun a xs e => by
  rw [upd_ne (fun q => by rw [q] at e; exact h xs e)]
  exact e
theorem kt_lst {H : Hp} {l : Addr} {xs : List V} {o : HO} (h : H l = some (.lst xs)) : Kt H (upd H l o) := kt_upd fun ys e => by rw [h] at e; cases e
theorem kt_new {H : Hp} {l : Addr} {o : HO} (h : H l = none) : Kt H (upd H l o) := kt_upd fun ys e => by rw [h] at e; cases e
mutual
theorem Tp.kt {H H' : Hp} (k : Kt H H') : ∀ {v : V} {d : PyData}, Tp H v d → Tp H' v d
  | _, _, .non => .non
  | _, _, .bl b => .bl b
  | _, _, .int i => .int i
  | _, _, .str x => .str x
  | _, _, .tup h a => .tup (k _ _ h) (TpAll.kt k a)
theorem TpAll.kt {H H' : Hp} (k : Kt H H') : ∀ {vs : List V} {ds : List PyData}, TpAll H vs ds → TpAll H' vs ds
  | _, _, .nil => .nil
  | _, _, .cons a b => .cons (Tp.kt k a) (TpAll.kt k b)
end
theorem Tp.ex {H H' : Hp} {v : V} {d : PyData} (h : Tp H v d) (e : Ex H H') : Tp H' v d := h.kt (kt_ex e)
theorem TpAll.ex {H H' : Hp} {vs : List V} {ds : List PyData} (h : TpAll H vs ds) (e : Ex H H') : TpAll H' vs ds := h.kt (kt_ex e)
theorem TpAll.length : ∀ {H : Hp} {vs : List V} {ds : List PyData}, TpAll H vs ds → vs.length = ds.length
  | _, _, _, .nil => rfl
  | _, _, _, .cons _ b => by rw [List.length_cons, List.length_cons, b.length]
theorem TpAll.append {H : Hp} : ∀ {vs ws : List V} {ds es : List PyData}, TpAll H vs ds → TpAll H ws es → TpAll H (vs ++ ws) (ds ++ es)
  | _, _, _, _, .nil, h => h
  | _, _, _, _, .cons a b, h => .cons a (b.append h)
theorem TpAll.get {H : Hp} : ∀ {vs : List V} {ds : List PyData} {i : Nat} {v : V}, TpAll H vs ds → vs[i]? = some v → ∃ d, ds[i]? = some d ∧ Tp H v d
  | _, _, i, v, .nil, e => by cases e
  | _, _, 0, v, .cons a b, e => by
    have e' := Option.some.inj e
    subst e'
    exact ⟨_, rfl, a⟩
  | _, _, i + 1, v, .cons a b, e => b.get (i := i) e
mutual
theorem Tp.dp {K : PySem.W.Frag} {H : Hp} : ∀ {v : V} {d : PyData}, Tp H v d → Dp K H v d
  | _, _, .non => .non
  | _, _, .bl b => .bl b
  | _, _, .int i => .int i
  | _, _, .str x => .str x
  | _, _, .tup h a => .tup (SqT.of h) (TpAll.dp a)
theorem TpAll.dp {K : PySem.W.Frag} {H : Hp} : ∀ {vs : List V} {ds : List PyData}, TpAll H vs ds → DpAll K H vs ds
  | _, _, .nil => .nil
  | _, _, .cons a b => .cons (Tp.dp a) (TpAll.dp b)
end
/-- all but the lists stand as they stood -/
def KL (H H' : Hp) : Prop := ∀ a o, H a = some o → (∀ xs, o ≠ .lst xs) → H' a = some o
theorem kl_ex {H H' : Hp} (e : Ex H H') : KL H H' := fun a o h _ => e a o h
theorem KL.trans {H H1 H2 : Hp} (a : KL H H1) (b : KL H1 H2) : KL H H2 := fun x o h n => b x o (a x o h n) n
theorem kl_lst {H : Hp} {l : Addr} {xs : List V} {o : HO} (h : H l = some (.lst xs)) : KL H (upd H l o) := fun a u e n => by
  rw [upd_ne (fun q => by rw [q, h] at e; exact n xs (Option.some.inj e).symm)]
  exact e
theorem KL.kt {H H' : Hp} (k : KL H H') : Kt H H' := fun a xs h => k a _ h fun ys e => nomatch e
/-- a word that no change of a list hurts -/
def Imm (P : VPd) : Prop := ∀ v H H', KL H H' → P v H → P v H'
theorem Imm.mono {P : VPd} (i : Imm P) : Mono P := fun v H H' e p => i v H H' (kl_ex e) p
theorem imm_tp {d : PyData} : Imm fun v H => Tp H v d := fun _ _ _ k h => h.kt k.kt
theorem imm_eq {x : V} : Imm fun v _ => v = x := fun _ _ _ _ h => h
theorem mono_tp {d : PyData} : Mono fun v H => Tp H v d := fun _ _ _ e h => h.ex e
theorem mono_eq {x : V} : Mono fun v _ => v = x := fun _ _ _ _ h => h

section
variable {X : Cx} {σ : L2.St} {H H' : Hp} {a b c e o tg iter elt : Expr} {es ifs : List Expr} {v x y z : V} {P P' R : VPd} {pos p : Pos} {S : List V → Hp → Prop}
theorem vt_tup {x1 : Nat} {ds : List PyData} (ha : VAP X σ H es fun vs H' => TpAll H' vs ds) (hl : ds.length ≤ 100000) : VP X σ H (.Tuple es x1 pos) fun v H' => Tp H' v (.tuple ds) :=
  vp_tup ha fun us H1 e1 q => ⟨sz_of (by rw [q.length]; exact hl), fun p hp => .tup upd_same (q.kt (kt_new hp))⟩
theorem vta_nil : VAP X σ H [] fun vs H' => TpAll H' vs [] := fun H1 e1 Q q => toA pa_nil (q [] H1 (Ex.refl H1) .nil)
theorem vta_cons {d : PyData} {ds : List PyData} (h : VP X σ H e fun v H' => Tp H' v d) (hr : VAP X σ H es fun vs H' => TpAll H' vs ds) (hs : starEach (e :: es) X.env = (false, eval e X.env) :: starEach es X.env := by rfl) : VAP X σ H (e :: es) fun vs H' => TpAll H' vs (d :: ds) := fun H1 e1 Q q =>
  toA (pa_cons we_pe wa_pa hs) (h H1 e1 _ fun u H2 e2 p2 => hr H2 (e1.trans e2) _ fun us H3 e3 p3 => q _ H3 (e2.trans e3) (.cons (p2.ex e3) p3))
theorem vt_of {d : PyData} (h : VE X σ H e v) (t : Tp H v d) : VP X σ H e fun u H' => Tp H' u d := h.imp fun u H1 e1 q => by
  subst q
  exact t.ex e1

/-! ### targets -/
def WG (X : Cx) (tg : Expr) : TG := fun v σ H Q => ∀ pins s u, Inv X pins σ H s → RelV v u → wpAny (model X.prog X.w) X.A (assign tg X.env u) (fun _ s' => ∃ σ' H', Inv X pins σ' H' s' ∧ Q σ' H') X.xe s
theorem wg_pg : PG X tg (WG X tg) := ⟨fun pins s σ H v u Q I r h => h pins s u I r⟩
theorem toG {t : TG} (h : PG X tg t) {v : V} {σ : L2.St} {H : Hp} {Q : L2.St → Hp → Prop} (q : t v σ H Q) : WG X tg v σ H Q := fun pins s u I r => h.run pins s σ H v u Q I r q
theorem wg_nm (i : Nat) {n : Str} {Q : L2.St → Hp → Prop} (hN : X.N.Nodup) (q : Q (σ.set i (some v)) H) (hi : X.N[i]? = some n := by rfl) (hx : Loc X.env.scope n := by first | exact Or.inl rfl | exact Or.inr rfl)
    (hf : X.fn n = true ∨ X.env.scope.names.lookup n = some .local := by first | exact .inl rfl | exact .inr rfl) : WG X (.Name n p) v σ H Q := toG (pg_name hN hi hx hf) q
theorem wg_tup {n : Nat} {k : Nat} {ts : List Expr} {t : TGs} {l : Addr} {xs : List V} {Q : L2.St → Hp → Prop} (hc : X.calm = true) (h : PGs X ts t) (hx : SqT X.K H l xs) (hl : xs.length = n) (q : t xs σ H Q)
    (hn : (assignEach ts X.env).length = n := by rfl) (hst : (assignEach ts X.env).findIdx? (·.1) = none := by rfl) : WG X (.Tuple ts k pos) (.ref l) σ H Q := toG (pg_tup hc h hn hst) ⟨l, xs, rfl, hx, hl, q⟩

/-! ### what is walked -/
structure Src (J : It) (H : Hp) (n : Nat) (Y : Nat → VPd) : Prop where
  go : ∀ i H', i < n → Ex H H' → J.go i H'
  stop : ∀ H', Ex H H' → J.stop n H'
  yld : ∀ i H' x H'', i < n → Ex H H' → J.yld i H' x H'' → Ex H' H'' ∧ Y i x H''
/-- the walked thing gives n items, the i-th with Y i -/
def VI (X : Cx) (σ : L2.St) (H : Hp) (tg iter : Expr) (n : Nat) (Y : Nat → VPd) : Prop := ∀ H1, Ex H H1 → ∀ R : It → Hp → Prop, (∀ J H2, Ex H1 H2 → Src J H2 n Y → R J H2) → WI X tg iter σ H1 R
def LstP (K : PySem.W.Frag) (n : Nat) (Y : Nat → VPd) : VPd := fun v H' => ∃ a xs, v = .ref a ∧ SqL K H' a xs ∧ xs.length = n ∧ ∀ i x, xs[i]? = some x → Y i x H'
def TupP (K : PySem.W.Frag) (n : Nat) (Y : Nat → VPd) : VPd := fun v H' => ∃ a xs, v = .ref a ∧ SqT K H' a xs ∧ xs.length = n ∧ ∀ i x, xs[i]? = some x → Y i x H'
theorem get_at {xs : List V} {n i : Nat} (hl : xs.length = n) (hi : i < n) : ∃ x, xs[i]? = some x := ⟨xs[i]'(by omega), List.getElem?_eq_getElem (by omega)⟩
theorem vi_L {n : Nat} {Y : Nat → VPd} (m : ∀ i, Mono (Y i)) (h : VP X σ H iter (LstP X.K n Y)) : VI X σ H tg iter n Y := fun H1 e1 R q =>
  toI (pi_list we_pe) (h H1 e1 _ fun v H2 e2 p2 => by
    obtain ⟨a, xs, rfl, hx, hl, hY⟩ := p2
    refine ⟨a, rfl, ⟨xs, hx⟩, q _ H2 e2 ⟨fun i H' hi e' => ?_, fun H' e' => ⟨xs, ex_l e' hx, Nat.le_of_eq hl⟩, fun i H' x H'' hi e' y => ?_⟩⟩
    · obtain ⟨x, ex⟩ := get_at hl hi
      exact ⟨xs, x, ex_l e' hx, ex⟩
    · obtain ⟨rfl, y⟩ := y
      exact ⟨Ex.refl _, m i _ _ _ e' (hY i x (y xs (ex_l e' hx)))⟩)
theorem vi_T {n : Nat} {Y : Nat → VPd} (m : ∀ i, Mono (Y i)) (h : VP X σ H iter (TupP X.K n Y)) : VI X σ H tg iter n Y := fun H1 e1 R q =>
  toI (pi_tup we_pe) (h H1 e1 _ fun v H2 e2 p2 => by
    obtain ⟨a, xs, rfl, hx, hl, hY⟩ := p2
    refine ⟨a, rfl, ⟨xs, hx⟩, q _ H2 e2 ⟨fun i H' hi e' => ?_, fun H' e' => ⟨xs, ex_t e' hx, Nat.le_of_eq hl⟩, fun i H' x H'' hi e' y => ?_⟩⟩
    · obtain ⟨x, ex⟩ := get_at hl hi
      exact ⟨xs, x, ex_t e' hx, ex⟩
    · obtain ⟨rfl, y⟩ := y
      exact ⟨Ex.refl _, m i _ _ _ e' (hY i x (y xs (ex_t e' hx)))⟩)
theorem src_rng {lo : Int} {n : Nat} : Src (Itr lo n) H n fun i x _ => x = .int (lo + i) := ⟨fun i _ hi _ => hi, fun _ _ => Nat.le_refl _, fun i H' x H'' hi e y => by
  obtain ⟨rfl, y⟩ := y
  exact ⟨Ex.refl _, y⟩⟩
theorem vi_R1 {n : Nat} {k : Int} (hm : X.mg "range" = none) (h : VE X σ H a (.int k)) (hk : k < 2 ^ 62) (h0 : -(2 ^ 62) ≤ k) (hn : k.toNat = n) (hg : Gl X "range" := by rfl) (hs : starEach [a] X.env = [(false, eval a X.env)] := by rfl) :
    VI X σ H tg (.Call (.Name "range" p) [a] [] pos) n fun i x _ => x = .int (i : Int) := fun H1 e1 R q =>
  toI (pi_range1 hg hm (pa_cons we_pe pa_nil hs) hs) (h H1 e1 _ fun v H2 e2 p2 => by
    subst p2
    refine ⟨k, rfl, h0, hk, q _ H2 e2 ?_⟩
    rw [hn]
    have z := src_rng (H := H2) (lo := 0) (n := n)
    exact ⟨z.go, z.stop, fun i H' x H'' hi e y => ⟨(z.yld i H' x H'' hi e y).1, by
      have w := (z.yld i H' x H'' hi e y).2
      rw [Int.zero_add] at w
      exact w⟩⟩)
theorem vi_R2 {n : Nat} {j k : Int} (hm : X.mg "range" = none) (h1 : VE X σ H a (.int j)) (h2 : VE X σ H b (.int k)) (hb : -(2 ^ 62) ≤ j ∧ j < 2 ^ 62 ∧ -(2 ^ 62) ≤ k ∧ k < 2 ^ 62) (hn : (k - j).toNat = n) (hg : Gl X "range" := by rfl)
    (hs : starEach [a, b] X.env = [(false, eval a X.env), (false, eval b X.env)] := by rfl) (hs2 : starEach [b] X.env = [(false, eval b X.env)] := by rfl) : VI X σ H tg (.Call (.Name "range" p) [a, b] [] pos) n fun i x _ => x = .int (j + i) := fun H1 e1 R q =>
  toI (pi_range2 hg hm (pa_cons we_pe (pa_cons we_pe pa_nil hs2) (by rw [hs, hs2])) hs hs2) (h1 H1 e1 _ fun v H2 e2 p2 => h2 H2 (e1.trans e2) _ fun w H3 e3 p3 => by
    subst p2 p3
    refine ⟨j, k, rfl, hb, q _ H3 (e2.trans e3) ?_⟩
    rw [hn]
    exact src_rng)
theorem vi_S {w : Str} (h : VE X σ H iter (.str w)) : VI X σ H tg iter w.cps.size fun i x _ => ∃ c, w.cps[i]? = some c ∧ x = .str ⟨#[c]⟩ := fun H1 e1 R q =>
  toI (pi_str we_pe) (h H1 e1 _ fun v H2 e2 p2 => by
    subst p2
    exact ⟨w, rfl, q _ H2 e2 ⟨fun i H' hi e' => hi, fun H' e' => Nat.le_refl _, fun i H' x H'' hi e' y => by
      obtain ⟨rfl, y⟩ := y
      exact ⟨Ex.refl _, y⟩⟩⟩)
theorem vi_enumL {n : Nat} {Y : Nat → VPd} {elts : List Expr} {kk : Nat} {tpos : Pos} (m : ∀ i, Mono (Y i)) (hm : X.mg "enumerate" = none) (h : VP X σ H e (LstP X.K n Y)) (hg : Gl X "enumerate" := by rfl) (hs : starEach [e] X.env = [(false, eval e X.env)] := by rfl) :
    VI X σ H (.Tuple elts kk tpos) (.Call (.Name "enumerate" p) [e] [] pos) n fun i v H' => ∃ T x, v = .ref T ∧ H' T = some (.tup [.int (i : Nat), x]) ∧ Y i x H' := fun H1 e1 R q =>
  toI (pi_enum hg hm (pa_cons we_pe pa_nil hs) hs) (h H1 e1 _ fun v H2 e2 p2 => by
    obtain ⟨a, xs, rfl, hx, hl, hY⟩ := p2
    refine ⟨a, xs, rfl, hx, q _ H2 e2 ⟨fun i H' hi e' => ?_, fun H' e' => ⟨xs, ex_l e' hx, Nat.le_of_eq hl⟩, fun i H' x H'' hi e' y => ?_⟩⟩
    · obtain ⟨x, ex⟩ := get_at hl hi
      exact ⟨xs, x, ex_l e' hx, ex⟩
    · obtain ⟨T, w, rfl, hT, rfl, y⟩ := y
      exact ⟨Ex.new hT, T, w, rfl, upd_same, m i _ _ _ (e'.trans (Ex.new hT)) (hY i w (y xs (ex_l e' hx)))⟩)
theorem vi_zipT {n : Nat} {Y Z : Nat → VPd} {elts : List Expr} {kk : Nat} {tpos : Pos} (m : ∀ i, Mono (Y i)) (m2 : ∀ i, Mono (Z i)) (hm : X.mg "zip" = none) (h : VP X σ H a (TupP X.K n Y)) (h2 : VP X σ H b (TupP X.K n Z)) (hg : Gl X "zip" := by rfl)
    (hs : starEach [a, b] X.env = (false, eval a X.env) :: starEach [b] X.env := by rfl) (hs2 : starEach [b] X.env = (false, eval b X.env) :: starEach [] X.env := by rfl) (hpl : (backTo pos (starEach [b] X.env)).any (·.1) = false := by rfl) :
    VI X σ H (.Tuple elts kk tpos) (.Call (.Name "zip" p) [a, b] [] pos) n fun i v H' => ∃ T x y, v = .ref T ∧ H' T = some (.tup [x, y]) ∧ Y i x H' ∧ Z i y H' := fun H1 e1 R q =>
  toI (RZ.pi_zipA hg hm (pa_cons we_pe (pa_cons we_pe pa_nil hs2) hs) hs hpl) (h H1 e1 _ fun v H2 e2 p2 => h2 H2 (e1.trans e2) _ fun v3 H3 e3 p3 => by
    obtain ⟨l, xs, rfl, hx0, hl, hY⟩ := p2
    have hx := ex_t e3 hx0
    obtain ⟨l2, ys, rfl, hy, hl2, hZ⟩ := p3
    refine ⟨l, l2, xs, ys, rfl, .inr ⟨hx, hy, q _ H3 (e2.trans e3) ⟨fun i H' hi e' => ?_, fun H' e' => ⟨xs, ys, ex_t e' hx, ex_t e' hy, .inl (Nat.le_of_eq hl)⟩, fun i H' x H'' hi e' y => ?_⟩⟩⟩
    · obtain ⟨x, ex⟩ := get_at hl hi
      obtain ⟨y, ey⟩ := get_at hl2 hi
      exact ⟨xs, ys, x, y, ex_t e' hx, ex_t e' hy, ex, ey⟩
    · obtain ⟨T, x1, y1, rfl, hT, rfl, w1, w2⟩ := y
      exact ⟨Ex.new hT, T, x1, y1, rfl, upd_same, m i _ _ _ ((e3.trans e').trans (Ex.new hT)) (hY i x1 (w1 xs (ex_t e' hx))), m2 i _ _ _ (e'.trans (Ex.new hT)) (hZ i y1 (w2 ys (ex_t e' hy)))⟩)

/-! ### list comprehensions -/
def BE (X : Cx) (scope : Scope) (e : Expr) : TE := fun σ H Q => ∀ (s : Shared) (H0 : Hp) (C : Addr) (cl : List (Str × Addr)) (fp : List Addr), WE (X.blk s H0 scope (compEnvC scope cl C X.env) fp) e σ H Q
def BG (X : Cx) (scope : Scope) (tg : Expr) : TG := fun v σ H Q => ∀ (s : Shared) (H0 : Hp) (C : Addr) (cl : List (Str × Addr)) (fp : List Addr), WG (X.blk s H0 scope (compEnvC scope cl C X.env) fp) tg v σ H Q
def WTs (X : Cx) (ifs : List Expr) : TT := fun σ H Q => ∀ pins s, Inv X pins σ H s →
  wpAny (model X.prog X.w) X.A (forIn ifs true fun c r => if r = true then do let ok ← isTrue c X.env (eval c X.env); pure (ForInStep.yield ok) else pure (ForInStep.yield r)) (TP X pins σ Q) X.xe s
theorem toTs {t : TT} (h : PTs X ifs t) {σ : L2.St} {H : Hp} {Q : Bool → Hp → Prop} (q : t σ H Q) : WTs X ifs σ H Q := fun pins s I => h.run pins s σ H Q I q
def BT (X : Cx) (scope : Scope) (ifs : List Expr) : TT := fun σ H Q => ∀ (s : Shared) (H0 : Hp) (C : Addr) (cl : List (Str × Addr)) (fp : List Addr), WTs (X.blk s H0 scope (compEnvC scope cl C X.env) fp) ifs σ H Q
/-- the tests of a clause answer t -/
def VTs (X : Cx) (σ : L2.St) (H : Hp) (ifs : List Expr) (t : Bool) : Prop := ∀ H1, Ex H H1 → ∀ Q : Bool → Hp → Prop, (∀ H2, Ex H1 H2 → Q t H2) → WTs X ifs σ H1 Q
theorem ts_nil : VTs X σ H [] true := fun H1 e1 Q q => toTs pts_nil (q H1 (Ex.refl H1))
theorem ts_one {t : Bool} (h : VT X σ H c t) : VTs X σ H [c] t := fun H1 e1 Q q => toTs (pts_one wt_pt) (h H1 e1 Q q)
abbrev Blk (X : Cx) (scope : Scope) (F : Cx → Prop) : Prop := ∀ (s : Shared) (H0 : Hp) (C : Addr) (cl : List (Str × Addr)) (fp : List Addr), F (X.blk s H0 scope (compEnvC scope cl C X.env) fp)
/-- a turn of a block: the target, the tests, the element -/
def Turns (X : Cx) (scope : Scope) (tg elt : Expr) (ifs : List Expr) (vs : List Nat) (σ : L2.St) (H : Hp) (x : V) (t : Bool) (P : VPd) : Prop :=
  ∀ Q : L2.St → Hp → Prop, (∀ σ2 H2, Ex H H2 → wipe σ2 vs = wipe σ vs → (Blk X scope fun X' => VTs X' σ2 H2 ifs t) → (t = true → Blk X scope fun X' => VP X' σ2 H2 elt P) → Q σ2 H2) → BG X scope tg x (wipe σ vs) H Q
def Outs (keep : Nat → Bool) (P : Nat → VPd) (n : Nat) (ys : List V) (H : Hp) : Prop := Paired (fun i y => P i y H) ((List.range n).filter keep) ys
theorem paired_snoc {α β : Type} {F : α → β → Prop} : ∀ {l : List α} {r : List β} {a : α} {b : β}, Paired F l r → F a b → Paired F (l ++ [a]) (r ++ [b])
  | _, _, _, _, .nil, h => .cons h .nil
  | _, _, _, _, .cons q t, h => .cons q (paired_snoc t h)
theorem outs_yes {keep : Nat → Bool} {P : Nat → VPd} {n : Nat} {ys : List V} {y : V} (h : keep n = true) (o : Outs keep P n ys H) (p : P n y H) : Outs keep P (n + 1) (ys ++ [y]) H := by
  show Paired _ ((List.range (n + 1)).filter keep) _
  rw [List.range_succ, List.filter_append, List.filter_cons, if_pos h]
  exact paired_snoc o p
theorem outs_no {keep : Nat → Bool} {P : Nat → VPd} {n : Nat} {ys : List V} (h : keep n = false) (o : Outs keep P n ys H) : Outs keep P (n + 1) ys H := by
  show Paired _ ((List.range (n + 1)).filter keep) _
  rw [List.range_succ, List.filter_append, List.filter_cons, if_neg (by rw [h]; exact Bool.false_ne_true), List.filter_nil, List.append_nil]
  exact o
theorem Outs.ex {keep : Nat → Bool} {P : Nat → VPd} (m : ∀ i, Mono (P i)) {n : Nat} {ys : List V} (o : Outs keep P n ys H) (e : Ex H H') : Outs keep P n ys H' := Paired.mapP o fun i y p => m i y _ _ e p
theorem Outs.kl {keep : Nat → Bool} {P : Nat → VPd} (m : ∀ i, Imm (P i)) {n : Nat} {ys : List V} (o : Outs keep P n ys H) (e : KL H H') : Outs keep P n ys H' := Paired.mapP o fun i y p => m i y _ _ e p
theorem Outs.len {keep : Nat → Bool} {P : Nat → VPd} {n : Nat} {ys : List V} (o : Outs keep P n ys H) : ys.length ≤ n := by
  have h1 := Paired.length o
  have h2 := List.length_filter_le keep (List.range n)
  rw [List.length_range] at h2
  omega
/-- what a block gives: a new list -/
def NewL (H : Hp) (keep : Nat → Bool) (P : Nat → VPd) (n : Nat) : VPd := fun v H' => ∃ q ys, v = .ref q ∧ H q = none ∧ H' q = some (.lst ys) ∧ Outs keep P n ys H'
variable {scope : Scope} {own : List (Str × Nat)} {n : Nat} {Y P0 : Nat → VPd} {keep : Nat → Bool}
/-- the block's reading -/
theorem lc_read {H1 : Hp} (e1 : Ex H H1) {Q : VK} (mo : ∀ i, Imm (P0 i)) (hi : VI X σ H tg iter n Y) (hz : n ≤ 100000)
    (step : ∀ i x H2, i < n → Ex H H2 → Y i x H2 → Turns X scope tg elt ifs (own.map (·.2)) σ H2 x (keep i) (P0 i)) (q : ∀ v H2, Ex H1 H2 → NewL H keep P0 n v H2 → Q v H2) :
    tLc (WI X tg iter) (BG X scope tg) (BT X scope ifs) (BE X scope elt) (own.map (·.2)) σ H1 Q := by
  refine hi H1 e1 _ fun J H2 e2 S D hD => ?_
  have hDH : H D = none := fresh_back (e1.trans e2) hD
  refine ⟨fun i k H' => k = n - i ∧ i ≤ n ∧ Ex H2 H' ∧ ∃ ys, H' D = some (.lst ys) ∧ Outs keep P0 i ys H', ⟨n, by omega, Nat.zero_le _, Ex.new hD, [], upd_same, .nil⟩, ?_⟩
  rintro i k H' ⟨rfl, hin, e3, ys, hys, ho⟩
  by_cases hlt : i < n
  · refine .inr ⟨S.go i H' hlt e3, fun H4 => i + 1 ≤ n ∧ Ex H2 H4 ∧ ∃ ys, H4 D = some (.lst ys) ∧ Outs keep P0 (i + 1) ys H4, fun H4 ⟨a, b⟩ => ⟨n - (i + 1), by omega, rfl, a, b⟩, fun x H4 y => ?_⟩
    obtain ⟨e4, y4⟩ := S.yld i H' x H4 hlt e3 y
    refine step i x H4 hlt (((e1.trans e2).trans e3).trans e4) y4 _ fun σ2 H5 e5 w t v => ⟨w, fun s1 H01 C1 cl1 fp1 => ?_⟩
    refine t s1 H01 C1 cl1 fp1 H5 (Ex.refl _) _ fun H6 e6 => ?_
    have e46 := (e4.trans e5).trans e6
    cases hk : keep i with
    | true =>
      show BE X scope elt σ2 H6 _
      intro s2 H02 C2 cl2 fp2
      refine v hk s2 H02 C2 cl2 fp2 H6 e6 _ fun u H7 e7 p7 => ?_
      have h7 := e7 D _ (e46 D _ hys)
      refine ⟨ys, h7, sz_lt (by have := ho.len; omega), hlt, ((e3.trans e46).trans e7).mut hD, ys ++ [u], upd_same, ?_⟩
      have kl : KL H7 (upd H7 D (.lst (ys ++ [u]))) := kl_lst h7
      exact outs_yes hk ((ho.ex (fun j => (mo j).mono) (e46.trans e7)).kl mo kl) (mo i _ _ _ kl p7)
    | false => exact ⟨hlt, e3.trans e46, ys, e46 D _ hys, outs_no hk (ho.ex (fun j => (mo j).mono) e46)⟩
  · have e : i = n := by omega
    subst e
    exact .inl ⟨S.stop H' e3, q _ _ (e2.trans e3) ⟨D, ys, rfl, hDH, hys, ho⟩⟩
theorem vp_lc (own : List (Str × Nat)) (hN : X.N.Nodup) (ok : BlkOk X.N X.env.scope scope own) (mo : ∀ i, Imm (P0 i)) (hi : VI X σ H tg iter n Y) (hz : n ≤ 100000)
    (step : ∀ i x H2, i < n → Ex H H2 → Y i x H2 → Turns X scope tg elt ifs (own.map (·.2)) σ H2 x (keep i) (P0 i)) (hc : X.calm = true := by rfl) (hs : ∀ x, foldedSetIterable iter X.env x = pure x := by intro _; rfl) :
    VP X σ H (.ListComp elt [⟨tg, iter, ifs, 0⟩] scope pos) (NewL H keep P0 n) := fun H1 e1 Q q =>
  toE (pe_lc hc hN wi_pi ok (fun s H0 C cl fp => ⟨fun pins s' σ' H' v u Q I r h => h s H0 C cl fp pins s' u I r⟩) (fun s H0 C cl fp => ⟨fun pins s' σ' H' Q I h => h s H0 C cl fp pins s' I⟩) (fun s H0 C cl fp => ⟨fun pins s' σ' H' Q I h => h s H0 C cl fp pins s' I⟩) hs)
    (lc_read e1 mo hi hz step q)
/-- y = [..] -/
theorem wb_lc {D : Ends} {sts : List Stmt} {y : Str} {py spos : Pos} (i : Nat) (own : List (Str × Nat)) (hN : X.N.Nodup) (ok : BlkOk X.N X.env.scope scope own) (mo : ∀ i, Imm (P0 i)) (hi : VI X σ H tg iter n Y) (hz : n ≤ 100000)
    (step : ∀ i x H2, i < n → Ex H H2 → Y i x H2 → Turns X scope tg elt ifs (own.map (·.2)) σ H2 x (keep i) (P0 i)) (k : ∀ v H1, Ex H H1 → NewL H keep P0 n v H1 → WB X sts D (σ.set i (some v)) H1)
    (hsw : swapsWith (.ListComp elt [⟨tg, iter, ifs, 0⟩] scope pos) (some (.Name y py)) spos.line X.env = pure true) (hc : X.calm = true := by rfl) (hy : X.N[i]? = some y := by rfl) (hyl : X.env.scope.names.lookup y = some .local := by rfl)
    (hs : ∀ x, foldedSetIterable iter X.env x = pure x := by intro _; rfl) : WB X (.Assign [.Name y py] (.ListComp elt [⟨tg, iter, ifs, 0⟩] scope pos) spos :: sts) D σ H :=
  wb_cons (toS (ps_setLc hc hN hy hyl hsw wi_pi ok (fun s H0 C cl fp => ⟨fun pins s' σ' H' v u Q I r h => h s H0 C cl fp pins s' u I r⟩) (fun s H0 C cl fp => ⟨fun pins s' σ' H' Q I h => h s H0 C cl fp pins s' I⟩) (fun s H0 C cl fp => ⟨fun pins s' σ' H' Q I h => h s H0 C cl fp pins s' I⟩) hs)
    (lc_read (Q := fun v H1 => gName i v σ H1 fun σ' H' => WB X sts D σ' H') (Ex.refl H) mo hi hz step k))
/-- the target is one name -/
theorem turn_nm (j : Nat) {nm : Str} {vs : List Nat} {t : Bool} {P : VPd} (hN : X.N.Nodup) (hi : X.N[j]? = some nm) (hw : wipe ((wipe σ vs).set j (some x)) vs = wipe σ vs) (hx : (relabel scope X.env).names.lookup nm = some .local)
    (ht : Blk X scope fun X' => VTs X' ((wipe σ vs).set j (some x)) H ifs t) (he : t = true → Blk X scope fun X' => VP X' ((wipe σ vs).set j (some x)) H elt P) : Turns X scope (.Name nm p) elt ifs vs σ H x t P := fun Q q s H0 C cl fp =>
  toG (X := X.blk s H0 scope (compEnvC scope cl C X.env) fp) (pg_name hN hi (.inl hx) (.inr hx)) (q _ _ (Ex.refl H) hw ht he)
/-- a tuple of two names, of three -/
theorem turn_two (j1 j2 : Nat) {n1 n2 : Str} {p1 p2 : Pos} {k : Nat} {vs : List Nat} {t : Bool} {P : VPd} {l : Addr} {x1 x2 : V} (hc : X.calm = true) (hN : X.N.Nodup) (h1 : X.N[j1]? = some n1) (h2 : X.N[j2]? = some n2) (hl : SqT X.K H l [x1, x2])
    (hw : wipe (((wipe σ vs).set j1 (some x1)).set j2 (some x2)) vs = wipe σ vs) (l1 : (relabel scope X.env).names.lookup n1 = some .local) (l2 : (relabel scope X.env).names.lookup n2 = some .local)
    (ht : Blk X scope fun X' => VTs X' (((wipe σ vs).set j1 (some x1)).set j2 (some x2)) H ifs t) (he : t = true → Blk X scope fun X' => VP X' (((wipe σ vs).set j1 (some x1)).set j2 (some x2)) H elt P) : Turns X scope (.Tuple [.Name n1 p1, .Name n2 p2] k p) elt ifs vs σ H (.ref l) t P := fun Q q s H0 C cl fp =>
  toG (X := X.blk s H0 scope (compEnvC scope cl C X.env) fp) (pg_tup hc (pgs_cons (pg_name hN h1 (.inl l1) (.inr l1)) (pgs_cons (pg_name hN h2 (.inl l2) (.inr l2)) pgs_nil))) ⟨l, _, rfl, hl, rfl, _, _, rfl, _, _, rfl, rfl, q _ _ (Ex.refl H) hw ht he⟩
end
end Vw
end
section
/-! The program's defs by their places in the text, and their names by slot (printed by gen_text.py). -/
namespace Vw
open PySem PySem.Spec PyProof.Rows L2 Evl
def top (i : Nat) : Stmt := PySem.Challenge.pw_vectorwidths_k31_whole_known_stores.main.body.getD i (.Pass ⟨0, 0, 0, 0⟩)
abbrev s_is_integer : Stmt := top 16
abbrev n_is_integer : List Str := ["value"]
theorem sc_is_integer : FnScope n_is_integer ["value"] (defScope s_is_integer) := ⟨rfl, rfl, rfl, by decide +kernel, rfl, by decide +kernel, by decide +kernel⟩
abbrev s_is_between : Stmt := top 17
abbrev n_is_between : List Str := ["value", "low", "high"]
theorem sc_is_between : FnScope n_is_between ["value", "low", "high"] (defScope s_is_between) := ⟨rfl, rfl, rfl, by decide +kernel, rfl, by decide +kernel, by decide +kernel⟩
abbrev s_is_name : Stmt := top 19
abbrev n_is_name : List Str := ["value", "sign"]
theorem sc_is_name : FnScope n_is_name ["value"] (defScope s_is_name) := ⟨rfl, rfl, rfl, by decide +kernel, rfl, by decide +kernel, by decide +kernel⟩
abbrev s_is_offset : Stmt := top 20
abbrev n_is_offset : List Str := ["value"]
theorem sc_is_offset : FnScope n_is_offset ["value"] (defScope s_is_offset) := ⟨rfl, rfl, rfl, by decide +kernel, rfl, by decide +kernel, by decide +kernel⟩
abbrev s_is_ref : Stmt := top 21
abbrev n_is_ref : List Str := ["value"]
theorem sc_is_ref : FnScope n_is_ref ["value"] (defScope s_is_ref) := ⟨rfl, rfl, rfl, by decide +kernel, rfl, by decide +kernel, by decide +kernel⟩
abbrev s_are_unlike : Stmt := top 22
abbrev n_are_unlike : List Str := ["values", "at", "value"]
theorem sc_are_unlike : FnScope n_are_unlike ["values"] (defScope s_are_unlike) := ⟨rfl, rfl, rfl, by decide +kernel, rfl, by decide +kernel, by decide +kernel⟩
abbrev s_Line_init : Stmt := inClass (top 23) 0
abbrev n_Line_init : List Str := ["self", "name", "stride"]
theorem sc_Line_init : FnScope n_Line_init ["self", "name", "stride"] (defScope s_Line_init) := ⟨rfl, rfl, rfl, by decide +kernel, rfl, by decide +kernel, by decide +kernel⟩
abbrev s_Line_name : Stmt := inClass (top 23) 1
abbrev n_Line_name : List Str := ["self"]
theorem sc_Line_name : FnScope n_Line_name ["self"] (defScope s_Line_name) := ⟨rfl, rfl, rfl, by decide +kernel, rfl, by decide +kernel, by decide +kernel⟩
abbrev s_Line_stride : Stmt := inClass (top 23) 2
abbrev n_Line_stride : List Str := ["self"]
theorem sc_Line_stride : FnScope n_Line_stride ["self"] (defScope s_Line_stride) := ⟨rfl, rfl, rfl, by decide +kernel, rfl, by decide +kernel, by decide +kernel⟩
abbrev s_Line_distance : Stmt := inClass (top 23) 6
abbrev n_Line_distance : List Str := ["self", "first", "second", "offset"]
theorem sc_Line_distance : FnScope n_Line_distance ["self", "first", "second"] (defScope s_Line_distance) := ⟨rfl, rfl, rfl, by decide +kernel, rfl, by decide +kernel, by decide +kernel⟩
abbrev s_loads_of : Stmt := top 25
abbrev n_loads_of : List Str := ["loop", "number", "at", "source"]
theorem sc_loads_of : FnScope n_loads_of ["loop", "number", "at"] (defScope s_loads_of) := ⟨rfl, rfl, rfl, by decide +kernel, rfl, by decide +kernel, by decide +kernel⟩
abbrev s_end_of : Stmt := top 26
abbrev n_end_of : List Str := ["loop", "number", "at"]
theorem sc_end_of : FnScope n_end_of ["loop", "number", "at"] (defScope s_end_of) := ⟨rfl, rfl, rfl, by decide +kernel, rfl, by decide +kernel, by decide +kernel⟩
abbrev s_iteration_events : Stmt := top 27
abbrev n_iteration_events : List Str := ["loop", "at", "numbers", "found", "number"]
theorem sc_iteration_events : FnScope n_iteration_events ["loop", "at", "numbers"] (defScope s_iteration_events) := ⟨rfl, rfl, rfl, by decide +kernel, rfl, by decide +kernel, by decide +kernel⟩
abbrev s_plain_list : Stmt := top 28
abbrev n_plain_list : List Str := ["loop", "count", "found", "at"]
theorem sc_plain_list : FnScope n_plain_list ["loop", "count"] (defScope s_plain_list) := ⟨rfl, rfl, rfl, by decide +kernel, rfl, by decide +kernel, by decide +kernel⟩
abbrev s_cell_of : Stmt := top 29
abbrev n_cell_of : List Str := ["loop", "event", "word", "number", "at", "source", "statement"]
theorem sc_cell_of : FnScope n_cell_of ["loop", "event"] (defScope s_cell_of) := ⟨rfl, rfl, rfl, by decide +kernel, rfl, by decide +kernel, by decide +kernel⟩
abbrev s_flow : Stmt := top 30
abbrev n_flow : List Str := ["loop", "events", "origins", "writers", "event"]
theorem sc_flow : FnScope n_flow ["loop", "events"] (defScope s_flow) := ⟨rfl, rfl, rfl, by decide +kernel, rfl, by decide +kernel, by decide +kernel⟩
abbrev s_check_way : Stmt := top 32
abbrev n_check_way : List Str := ["loop", "way"]
theorem sc_check_way : FnScope n_check_way ["loop", "way"] (defScope s_check_way) := ⟨rfl, rfl, rfl, by decide +kernel, rfl, by decide +kernel, by decide +kernel⟩
abbrev s_block_number : Stmt := top 33
abbrev n_block_number : List Str := ["way", "width", "count"]
theorem sc_block_number : FnScope n_block_number ["way", "width", "count"] (defScope s_block_number) := ⟨rfl, rfl, rfl, by decide +kernel, rfl, by decide +kernel, by decide +kernel⟩
abbrev s_block_lanes : Stmt := top 34
abbrev n_block_lanes : List Str := ["way", "width", "count", "block", "found", "at"]
theorem sc_block_lanes : FnScope n_block_lanes ["way", "width", "count", "block"] (defScope s_block_lanes) := ⟨rfl, rfl, rfl, by decide +kernel, rfl, by decide +kernel, by decide +kernel⟩
abbrev s_groups : Stmt := top 35
abbrev n_groups : List Str := ["loop", "bundles", "found", "number", "ends", "first", "last"]
theorem sc_groups : FnScope n_groups ["loop", "bundles"] (defScope s_groups) := ⟨rfl, rfl, rfl, by decide +kernel, rfl, by decide +kernel, by decide +kernel⟩
abbrev s_Weaver_init : Stmt := inClass (top 36) 0
abbrev n_Weaver_init : List Str := ["self", "loop", "way", "width", "count"]
theorem sc_Weaver_init : FnScope n_Weaver_init ["self", "loop", "way", "width", "count"] (defScope s_Weaver_init) := ⟨rfl, rfl, rfl, by decide +kernel, rfl, by decide +kernel, by decide +kernel⟩
abbrev s_Weaver_lanes : Stmt := inClass (top 36) 1
abbrev n_Weaver_lanes : List Str := ["self", "block"]
theorem sc_Weaver_lanes : FnScope n_Weaver_lanes ["self", "block"] (defScope s_Weaver_lanes) := ⟨rfl, rfl, rfl, by decide +kernel, rfl, by decide +kernel, by decide +kernel⟩
abbrev s_Weaver_early : Stmt := inClass (top 36) 2
abbrev n_Weaver_early : List Str := ["self", "block", "found", "first", "last", "bundled", "at", "load"]
theorem sc_Weaver_early : FnScope n_Weaver_early ["self", "block"] (defScope s_Weaver_early) := ⟨rfl, rfl, rfl, by decide +kernel, rfl, by decide +kernel, by decide +kernel⟩
abbrev s_Weaver_beginning : Stmt := inClass (top 36) 3
abbrev n_Weaver_beginning : List Str := ["self", "block", "far", "targets", "target", "event"]
theorem sc_Weaver_beginning : FnScope n_Weaver_beginning ["self", "block"] (defScope s_Weaver_beginning) := ⟨rfl, rfl, rfl, by decide +kernel, rfl, by decide +kernel, by decide +kernel⟩
abbrev s_Weaver_group : Stmt := inClass (top 36) 4
abbrev n_Weaver_group : List Str := ["self", "first", "last", "bundled", "lanes", "numbers", "found", "at", "event"]
theorem sc_Weaver_group : FnScope n_Weaver_group ["self", "first", "last", "bundled", "lanes"] (defScope s_Weaver_group) := ⟨rfl, rfl, rfl, by decide +kernel, rfl, by decide +kernel, by decide +kernel⟩
abbrev s_Weaver_events : Stmt := inClass (top 36) 5
abbrev n_Weaver_events : List Str := ["self", "found", "block", "first", "last", "bundled"]
theorem sc_Weaver_events : FnScope n_Weaver_events ["self"] (defScope s_Weaver_events) := ⟨rfl, rfl, rfl, by decide +kernel, rfl, by decide +kernel, by decide +kernel⟩
abbrev s_wide_list : Stmt := top 37
abbrev n_wide_list : List Str := ["loop", "way", "width", "count"]
theorem sc_wide_list : FnScope n_wide_list ["loop", "way", "width", "count"] (defScope s_wide_list) := ⟨rfl, rfl, rfl, by decide +kernel, rfl, by decide +kernel, by decide +kernel⟩
abbrev s_numbered_refs : Stmt := top 39
abbrev n_numbered_refs : List Str := ["loop", "found", "number", "statement", "at", "source"]
theorem sc_numbered_refs : FnScope n_numbered_refs ["loop"] (defScope s_numbered_refs) := ⟨rfl, rfl, rfl, by decide +kernel, rfl, by decide +kernel, by decide +kernel⟩
abbrev s_meets : Stmt := top 40
abbrev n_meets : List Str := ["loop", "found", "refs", "at", "one", "other", "distance"]
theorem sc_meets : FnScope n_meets ["loop"] (defScope s_meets) := ⟨rfl, rfl, rfl, by decide +kernel, rfl, by decide +kernel, by decide +kernel⟩
abbrev s_reach : Stmt := top 41
abbrev n_reach : List Str := ["loop", "row"]
theorem sc_reach : FnScope n_reach ["loop"] (defScope s_reach) := ⟨rfl, rfl, rfl, by decide +kernel, rfl, by decide +kernel, by decide +kernel⟩
abbrev s_found_differences : Stmt := top 43
abbrev n_found_differences : List Str := ["loop", "way", "width", "count", "origins", "writers", "others", "last", "loads", "cells", "load", "cell"]
theorem sc_found_differences : FnScope n_found_differences ["loop", "way", "width", "count"] (defScope s_found_differences) := ⟨rfl, rfl, rfl, by decide +kernel, rfl, by decide +kernel, by decide +kernel⟩
abbrev s_greatest_count : Stmt := top 45
abbrev n_greatest_count : List Str := ["loop", "width"]
theorem sc_greatest_count : FnScope n_greatest_count ["loop", "width"] (defScope s_greatest_count) := ⟨rfl, rfl, rfl, by decide +kernel, rfl, by decide +kernel, by decide +kernel⟩
abbrev s_greatest_width : Stmt := top 46
abbrev n_greatest_width : List Str := ["loop"]
theorem sc_greatest_width : FnScope n_greatest_width ["loop"] (defScope s_greatest_width) := ⟨rfl, rfl, rfl, by decide +kernel, rfl, by decide +kernel, by decide +kernel⟩
abbrev s_least_count : Stmt := top 47
abbrev n_least_count : List Str := ["loop", "way", "width", "count"]
theorem sc_least_count : FnScope n_least_count ["loop", "way", "width"] (defScope s_least_count) := ⟨rfl, rfl, rfl, by decide +kernel, rfl, by decide +kernel, by decide +kernel⟩
abbrev s_least_wrong : Stmt := top 48
abbrev n_least_wrong : List Str := ["loop", "way", "width"]
theorem sc_least_wrong : FnScope n_least_wrong ["loop", "way"] (defScope s_least_wrong) := ⟨rfl, rfl, rfl, by decide +kernel, rfl, by decide +kernel, by decide +kernel⟩
abbrev s_first_wrong : Stmt := top 49
abbrev n_first_wrong : List Str := ["loop", "way", "width", "count"]
theorem sc_first_wrong : FnScope n_first_wrong ["loop", "way"] (defScope s_first_wrong) := ⟨rfl, rfl, rfl, by decide +kernel, rfl, by decide +kernel, by decide +kernel⟩
abbrev s_is_safe : Stmt := top 50
abbrev n_is_safe : List Str := ["loop", "way"]
theorem sc_is_safe : FnScope n_is_safe ["loop", "way"] (defScope s_is_safe) := ⟨rfl, rfl, rfl, by decide +kernel, rfl, by decide +kernel, by decide +kernel⟩
abbrev s_greatest_safe : Stmt := top 51
abbrev n_greatest_safe : List Str := ["loop", "way", "wrong"]
theorem sc_greatest_safe : FnScope n_greatest_safe ["loop", "way"] (defScope s_greatest_safe) := ⟨rfl, rfl, rfl, by decide +kernel, rfl, by decide +kernel, by decide +kernel⟩
abbrev s_Statement_init : Stmt := inClass (top 54) 0
abbrev n_Statement_init : List Str := ["self", "name", "target", "sources", "source"]
theorem sc_Statement_init : FnScope n_Statement_init ["self", "name", "target", "sources"] (defScope s_Statement_init) := ⟨rfl, rfl, rfl, by decide +kernel, rfl, by decide +kernel, by decide +kernel⟩
abbrev s_Statement_name : Stmt := inClass (top 54) 1
abbrev n_Statement_name : List Str := ["self"]
theorem sc_Statement_name : FnScope n_Statement_name ["self"] (defScope s_Statement_name) := ⟨rfl, rfl, rfl, by decide +kernel, rfl, by decide +kernel, by decide +kernel⟩
abbrev s_Statement_target : Stmt := inClass (top 54) 2
abbrev n_Statement_target : List Str := ["self"]
theorem sc_Statement_target : FnScope n_Statement_target ["self"] (defScope s_Statement_target) := ⟨rfl, rfl, rfl, by decide +kernel, rfl, by decide +kernel, by decide +kernel⟩
abbrev s_Statement_sources : Stmt := inClass (top 54) 3
abbrev n_Statement_sources : List Str := ["self"]
theorem sc_Statement_sources : FnScope n_Statement_sources ["self"] (defScope s_Statement_sources) := ⟨rfl, rfl, rfl, by decide +kernel, rfl, by decide +kernel, by decide +kernel⟩
abbrev s_Statement_refs : Stmt := inClass (top 54) 5
abbrev n_Statement_refs : List Str := ["self", "found"]
theorem sc_Statement_refs : FnScope n_Statement_refs ["self"] (defScope s_Statement_refs) := ⟨rfl, rfl, rfl, by decide +kernel, rfl, by decide +kernel, by decide +kernel⟩
abbrev s_are_lines : Stmt := top 58
abbrev n_are_lines : List Str := ["value", "line"]
theorem sc_are_lines : FnScope n_are_lines ["value"] (defScope s_are_lines) := ⟨rfl, rfl, rfl, by decide +kernel, rfl, by decide +kernel, by decide +kernel⟩
abbrev s_are_statements : Stmt := top 59
abbrev n_are_statements : List Str := ["value", "one"]
theorem sc_are_statements : FnScope n_are_statements ["value"] (defScope s_are_statements) := ⟨rfl, rfl, rfl, by decide +kernel, rfl, by decide +kernel, by decide +kernel⟩
abbrev s_Loop_init : Stmt := inClass (top 60) 0
abbrev n_Loop_init : List Str := ["self", "lines", "statements", "names", "statement", "line", "ref"]
theorem sc_Loop_init : FnScope n_Loop_init ["self", "lines", "statements"] (defScope s_Loop_init) := ⟨rfl, rfl, rfl, by decide +kernel, rfl, by decide +kernel, by decide +kernel⟩
abbrev s_Loop_statements : Stmt := inClass (top 60) 2
abbrev n_Loop_statements : List Str := ["self"]
theorem sc_Loop_statements : FnScope n_Loop_statements ["self"] (defScope s_Loop_statements) := ⟨rfl, rfl, rfl, by decide +kernel, rfl, by decide +kernel, by decide +kernel⟩
abbrev s_Loop_len : Stmt := inClass (top 60) 4
abbrev n_Loop_len : List Str := ["self"]
theorem sc_Loop_len : FnScope n_Loop_len ["self"] (defScope s_Loop_len) := ⟨rfl, rfl, rfl, by decide +kernel, rfl, by decide +kernel, by decide +kernel⟩
abbrev s_Loop_add : Stmt := inClass (top 60) 9
abbrev n_Loop_add : List Str := ["self", "statement", "statements"]
theorem sc_Loop_add : FnScope n_Loop_add ["self", "statement"] (defScope s_Loop_add) := ⟨rfl, rfl, rfl, by decide +kernel, rfl, by decide +kernel, by decide +kernel⟩
abbrev s_Loop_line : Stmt := inClass (top 60) 10
abbrev n_Loop_line : List Str := ["self", "name", "line"]
theorem sc_Loop_line : FnScope n_Loop_line ["self", "name"] (defScope s_Loop_line) := ⟨rfl, rfl, rfl, by decide +kernel, rfl, by decide +kernel, by decide +kernel⟩
abbrev s_Loop_place : Stmt := inClass (top 60) 11
abbrev n_Loop_place : List Str := ["self", "ref", "at"]
theorem sc_Loop_place : FnScope n_Loop_place ["self", "ref", "at"] (defScope s_Loop_place) := ⟨rfl, rfl, rfl, by decide +kernel, rfl, by decide +kernel, by decide +kernel⟩
abbrev s_is_bundle : Stmt := top 67
abbrev n_is_bundle : List Str := ["value"]
theorem sc_is_bundle : FnScope n_is_bundle ["value"] (defScope s_is_bundle) := ⟨rfl, rfl, rfl, by decide +kernel, rfl, by decide +kernel, by decide +kernel⟩
abbrev s_are_bundles : Stmt := top 68
abbrev n_are_bundles : List Str := ["value", "bundle", "one", "other"]
theorem sc_are_bundles : FnScope n_are_bundles ["value"] (defScope s_are_bundles) := ⟨rfl, rfl, rfl, by decide +kernel, rfl, by decide +kernel, by decide +kernel⟩
abbrev s_is_value : Stmt := top 69
abbrev n_is_value : List Str := ["part", "value"]
theorem sc_is_value : FnScope n_is_value ["part", "value"] (defScope s_is_value) := ⟨rfl, rfl, rfl, by decide +kernel, rfl, by decide +kernel, by decide +kernel⟩
abbrev s_Way_init : Stmt := inClass (top 70) 0
abbrev n_Way_init : List Str := ["self", "tail", "ahead", "guard", "bundles", "joining", "values", "part", "value"]
theorem sc_Way_init : FnScope n_Way_init ["self", "tail", "ahead", "guard", "bundles", "joining"] (defScope s_Way_init) := ⟨rfl, rfl, rfl, by decide +kernel, rfl, by decide +kernel, by decide +kernel⟩
abbrev s_Way_tail : Stmt := inClass (top 70) 2
abbrev n_Way_tail : List Str := ["self"]
theorem sc_Way_tail : FnScope n_Way_tail ["self"] (defScope s_Way_tail) := ⟨rfl, rfl, rfl, by decide +kernel, rfl, by decide +kernel, by decide +kernel⟩
abbrev s_Way_ahead : Stmt := inClass (top 70) 4
abbrev n_Way_ahead : List Str := ["self"]
theorem sc_Way_ahead : FnScope n_Way_ahead ["self"] (defScope s_Way_ahead) := ⟨rfl, rfl, rfl, by decide +kernel, rfl, by decide +kernel, by decide +kernel⟩
abbrev s_Way_guard : Stmt := inClass (top 70) 6
abbrev n_Way_guard : List Str := ["self"]
theorem sc_Way_guard : FnScope n_Way_guard ["self"] (defScope s_Way_guard) := ⟨rfl, rfl, rfl, by decide +kernel, rfl, by decide +kernel, by decide +kernel⟩
abbrev s_Way_bundles : Stmt := inClass (top 70) 8
abbrev n_Way_bundles : List Str := ["self"]
theorem sc_Way_bundles : FnScope n_Way_bundles ["self"] (defScope s_Way_bundles) := ⟨rfl, rfl, rfl, by decide +kernel, rfl, by decide +kernel, by decide +kernel⟩
abbrev s_Way_joining : Stmt := inClass (top 70) 10
abbrev n_Way_joining : List Str := ["self"]
theorem sc_Way_joining : FnScope n_Way_joining ["self"] (defScope s_Way_joining) := ⟨rfl, rfl, rfl, by decide +kernel, rfl, by decide +kernel, by decide +kernel⟩
abbrev s_Way_goes_with : Stmt := inClass (top 70) 19
abbrev n_Way_goes_with : List Str := ["self", "loop", "first", "last"]
theorem sc_Way_goes_with : FnScope n_Way_goes_with ["self", "loop"] (defScope s_Way_goes_with) := ⟨rfl, rfl, rfl, by decide +kernel, rfl, by decide +kernel, by decide +kernel⟩
abbrev s_Way_careful : Stmt := inClass (top 70) 20
abbrev n_Way_careful : List Str := ["loop"]
theorem sc_Way_careful : FnScope n_Way_careful ["loop"] (defScope s_Way_careful) := ⟨rfl, rfl, rfl, by decide +kernel, rfl, by decide +kernel, by decide +kernel⟩
abbrev s_law_begin : Stmt := top 72
abbrev n_law_begin : List Str := ["script"]
theorem sc_law_begin : FnScope n_law_begin ["script"] (defScope s_law_begin) := ⟨rfl, rfl, rfl, by decide +kernel, rfl, by decide +kernel, by decide +kernel⟩
abbrev s_law_draw : Stmt := top 73
abbrev n_law_draw : List Str := ["source", "limit", "cell", "digit"]
theorem sc_law_draw : FnScope n_law_draw ["source", "limit"] (defScope s_law_draw) := ⟨rfl, rfl, rfl, by decide +kernel, rfl, by decide +kernel, by decide +kernel⟩
abbrev s_law_pick : Stmt := top 74
abbrev n_law_pick : List Str := ["source", "items"]
theorem sc_law_pick : FnScope n_law_pick ["source", "items"] (defScope s_law_pick) := ⟨rfl, rfl, rfl, by decide +kernel, rfl, by decide +kernel, by decide +kernel⟩
abbrev s_law_mixed : Stmt := top 75
abbrev n_law_mixed : List Str := ["source", "items", "left", "found"]
theorem sc_law_mixed : FnScope n_law_mixed ["source", "items"] (defScope s_law_mixed) := ⟨rfl, rfl, rfl, by decide +kernel, rfl, by decide +kernel, by decide +kernel⟩
abbrev s_law_stem : Stmt := top 76
abbrev n_law_stem : List Str := ["source", "letters"]
theorem sc_law_stem : FnScope n_law_stem ["source"] (defScope s_law_stem) := ⟨rfl, rfl, rfl, by decide +kernel, rfl, by decide +kernel, by decide +kernel⟩
abbrev s_law_names : Stmt := top 77
abbrev n_law_names : List Str := ["source", "many", "stem", "letters", "letter"]
theorem sc_law_names : FnScope n_law_names ["source", "many"] (defScope s_law_names) := ⟨rfl, rfl, rfl, by decide +kernel, rfl, by decide +kernel, by decide +kernel⟩
abbrev s_law : Stmt := top 78
abbrev n_law : List Str := ["script", "source", "turn", "words", "step", "d", "low", "one", "other", "rows", "first", "second", "way", "added"]
theorem sc_law : FnScope n_law ["script"] (defScope s_law) := ⟨rfl, rfl, rfl, by decide +kernel, rfl, by decide +kernel, by decide +kernel⟩
end Vw
end
section
/-! What the program's top leaves: the facts that the defs lean on. -/
namespace Vw
open PySem PySem.Spec PyProof.Rows L2 Evl
/-- a class whose own instances are told by isinstance -/
structure IsiT (K : PySem.W.Frag) (C : Addr) : Prop where
  ha : PySem.W.findIn K (.ref C) "__class__" = some (some (.builtin "object.__class__"))
  hn : PySem.W.specialIn K (.builtin "object.__class__") "__get__" = some (some (.builtin "getset_descriptor.__get__"))
  ht : PySem.W.takesIn K (.builtin "object.__class__") = some true
  hm : PySem.W.mroIn K C (.type "object") = some true
  kit : PySem.W.kitOne K (.ref C) (.ref C) = some true
/-- a module's constant that is a tuple of texts -/
def TupC (K : PySem.W.Frag) (mg : Str → Option Value) (n : Str) (xs : List V) : Prop := ∃ a, mg n = some (.ref a) ∧ ∀ H, SqT K H a xs
def IntC (mg : Str → Option Value) (n : Str) (i : Int) : Prop := ∃ t, mg n = some (.int i t)
def StrC (mg : Str → Option Value) (n z : Str) : Prop := ∃ t, mg n = some (.str z t)
def letters : Str := "abcdefghijklmnopqrstuvwxyz"
structure Txt (K : PySem.W.Frag) (mg : Str → Option Value) (CL CS CO CV CW : Addr) : Prop where
  len : mg "len" = none
  isi : mg "isinstance" = none
  int : mg "int" = none
  bool : mg "bool" = none
  str : mg "str" = none
  tuple : mg "tuple" = none
  list : mg "list" = none
  all : mg "all" = none
  range : mg "range" = none
  enumerate : mg "enumerate" = none
  zip : mg "zip" = none
  sorted : mg "sorted" = none
  max : mg "max" = none
  abs : mg "abs" = none
  lett : StrC mg "LETTERS" letters
  mLet : IntC mg "MOST_LETTERS" 8
  mStr : IntC mg "MOST_STRIDE" 6
  mOff : IntC mg "MOST_OFFSET" 9
  mSou : IntC mg "MOST_SOURCES" 3
  mLin : IntC mg "MOST_LINES" 3
  mSta : IntC mg "MOST_STATEMENTS" 5
  mAhe : IntC mg "MOST_AHEAD" 3
  mBun : IntC mg "MOST_BUNDLES" 5
  parts : TupC K mg "PARTS" [.str "tail", .str "ahead", .str "guard", .str "bundles", .str "joining"]
  tails : TupC K mg "TAILS" [.str "mask", .str "rest", .str "whole"]
  joins : TupC K mg "JOININGS" [.str "row", .str "parts", .str "tree"]
  gL : mg "Line" = some (.ref CL)
  gS : mg "Statement" = some (.ref CS)
  gO : mg "Loop" = some (.ref CO)
  gV : mg "Weaver" = some (.ref CV)
  gW : mg "Way" = some (.ref CW)
  cL : Cls K CL
  cS : Cls K CS
  cO : Cls K CO
  cV : Cls K CV
  cW : Cls K CW
  iL : IsiT K CL
  iS : IsiT K CS
  nLn : NoAttr K CL "kept_name"
  nLs : NoAttr K CL "kept_stride"
  nSn : NoAttr K CS "kept_name"
  nSt : NoAttr K CS "kept_target"
  nSs : NoAttr K CS "kept_sources"
  nOl : NoAttr K CO "kept_lines"
  nOs : NoAttr K CO "kept_statements"
  nOr : NoAttr K CO "strides"
  nVl : NoAttr K CV "loop"
  nVw : NoAttr K CV "kept_way"
  nVk : NoAttr K CV "kept_width"
  nVc : NoAttr K CV "count"
  nVm : NoAttr K CV "many"
  nVg : NoAttr K CV "groups"
  nWp : NoAttr K CW "kept_parts"

section
variable {X : Cx} {σ : L2.St} {H H' : Hp} {a b c e o : Expr} {v x y : V} {P : VPd} {pos p : Pos}
theorem v_int_c {n : Str} {i : Int} (h : IntC X.mg n i) (hg : Gl X n := by rfl) (hd : (n == ("__debug__" : Str)) = false := by decide) : VE X σ H (.Name n pos) (.int i) := by
  obtain ⟨t, h⟩ := h
  exact v_gl h ⟨t, rfl⟩ hg hd
theorem v_str_c {n z : Str} (h : StrC X.mg n z) (hg : Gl X n := by rfl) (hd : (n == ("__debug__" : Str)) = false := by decide) : VE X σ H (.Name n pos) (.str z) := by
  obtain ⟨t, h⟩ := h
  exact v_gl h ⟨t, rfl⟩ hg hd
theorem v_tup_c {n : Str} {xs : List V} (h : TupC X.K X.mg n xs) (hg : Gl X n := by rfl) (hd : (n == ("__debug__" : Str)) = false := by decide) : VP X σ H (.Name n pos) fun v _ => ∃ a, v = .ref a ∧ ∀ H, SqT X.K H a xs := by
  obtain ⟨q, h, s⟩ := h
  exact (v_gl (v := .ref q) h rfl hg hd).imp fun v H1 _ z => ⟨q, z, s⟩
/-- isinstance(x, T), T a built-in class -/
theorem v_isi {T t : String} {n : Str} {k : Bool} (hm : X.mg "isinstance" = none) (hT : X.mg n = none) (hv : bootBuiltins n = some (.type T)) (ha : VE X σ H a x) (ty : ∀ H', Ex H H' → TyX X.K H' x (.type t)) (hk : kitB t T = some k) (hg : Gl X "isinstance" := by rfl) (hgT : Gl X n := by rfl)
    (hn : n ≠ "__name__" := by decide) (hd : (n == ("__debug__" : Str)) = false := by decide) (h1 : starEach [a, .Name n p] X.env = (false, eval a X.env) :: starEach [.Name n p] X.env := by rfl) (h2 : starEach [.Name n p] X.env = (false, eval (.Name n p) X.env) :: starEach [] X.env := by rfl)
    (hpl : (backTo pos (starEach [.Name n p] X.env)).any (·.1) = false := by rfl) {p3 : Pos} : VE X σ H (.Call (.Name "isinstance" p3) [a, .Name n p] [] pos) (.bl k) :=
  vp_bi call_isi hm PyProof.Rows.boot_isinstance (va_cons ha (va_cons (v_ev (pe_bltn (v := .ty T) hgT hT hv rfl hn hd) ev_c) va_nil h2) h1) (fun vs H1 e1 q Q k1 => by
    subst q
    exact ⟨x, .ty T, .type t, .type T, k, rfl, .ty T, ty H1 e1, kit_ty hk, k1 _ H1 (Ex.refl _) rfl⟩) hg (by decide) (by decide) h1 hpl
/-- isinstance(x, C), C a class of the program -/
theorem v_isiC {n : Str} {C : Addr} (hm : X.mg "isinstance" = none) (hC : X.mg n = some (.ref C)) (cl : Cls X.K C) (i : IsiT X.K C) (ha : VE X σ H a x) (hx : ∃ p dx fs, x = .ref p ∧ H p = some (.ins C dx fs)) (hg : Gl X "isinstance" := by rfl) (hgT : Gl X n := by rfl)
    (hd : (n == ("__debug__" : Str)) = false := by decide) (h1 : starEach [a, .Name n p] X.env = (false, eval a X.env) :: starEach [.Name n p] X.env := by rfl) (h2 : starEach [.Name n p] X.env = (false, eval (.Name n p) X.env) :: starEach [] X.env := by rfl)
    (hpl : (backTo pos (starEach [.Name n p] X.env)).any (·.1) = false := by rfl) {p3 : Pos} : VE X σ H (.Call (.Name "isinstance" p3) [a, .Name n p] [] pos) (.bl true) :=
  vp_bi call_isi hm PyProof.Rows.boot_isinstance (va_cons ha (va_cons (v_gl (v := .ref C) hC rfl hgT hd) va_nil h2) h1) (fun vs H1 e1 q Q k1 => by
    subst q
    obtain ⟨pp, dx, fs, rfl, hp⟩ := hx
    exact ⟨.ref pp, .ref C, .ref C, .ref C, true, rfl, .own C, .base (.ins (e1 _ _ hp) cl i.ha i.hn i.ht i.hm), i.kit, k1 _ H1 (Ex.refl _) rfl⟩) hg (by decide) (by decide) h1 hpl
/-- len(x) of a list, a tuple, a text -/
theorem v_len {k : Nat} (hm : X.mg "len" = none) (ha : VE X σ H a x) (hx : ∀ H', Ex H H' → LenV X.K x H' k) (hg : Gl X "len" := by rfl) (h1 : starEach [a] X.env = (false, eval a X.env) :: starEach [] X.env := by rfl)
    (hpl : (backTo pos (starEach [] X.env)).any (·.1) = false := by rfl) : VE X σ H (.Call (.Name "len" p) [a] [] pos) (.int k) :=
  vp_bi call_len hm PySem.boot_len (va_cons ha va_nil h1) (fun vs H1 e1 q Q k1 => by
    subst q
    exact ⟨x, k, rfl, hx H1 e1, k1 _ H1 (Ex.refl _) rfl⟩) hg (by decide) (by decide) h1 hpl
theorem vp_len {k : Nat} (hm : X.mg "len" = none) (ha : VP X σ H a P) (hx : ∀ v H', Ex H H' → P v H' → LenV X.K v H' k) (hg : Gl X "len" := by rfl) (h1 : starEach [a] X.env = (false, eval a X.env) :: starEach [] X.env := by rfl)
    (hpl : (backTo pos (starEach [] X.env)).any (·.1) = false := by rfl) (mo : Mono P) : VE X σ H (.Call (.Name "len" p) [a] [] pos) (.int k) :=
  vp_bi call_len hm PySem.boot_len (vap_cons ha mo (fun _ _ _ _ => vap_nil) h1) (fun vs H1 e1 q Q k1 => by
    obtain ⟨v, r, rfl, p1, rfl⟩ := q
    exact ⟨v, k, rfl, hx v H1 e1 p1, k1 _ H1 (Ex.refl _) rfl⟩) hg (by decide) (by decide) h1 hpl
/-- all([..]) where each item is True -/
theorem v_all {n : Nat} {keep : Nat → Bool} (hm : X.mg "all" = none) (ha : VP X σ H a (NewL H keep (fun _ v _ => v = .bl true) n)) (hc : X.calm = true := by rfl) (hg : Gl X "all" := by rfl) (h1 : starEach [a] X.env = (false, eval a X.env) :: starEach [] X.env := by rfl)
    (hpl : (backTo pos (starEach [] X.env)).any (·.1) = false := by rfl) : VE X σ H (.Call (.Name "all" p) [a] [] pos) (.bl true) := fun H1 e1 Q q => by
  refine toE (pe_callB (cr_all hc) hg hm PyProof.Rows.boot_all (pa_cons we_pe pa_nil h1) (by decide) (by decide) h1 hpl) (ha H1 e1 _ fun v H2 e2 p2 => ?_)
  obtain ⟨l, ys, rfl, _, hl, ho⟩ := p2
  have key : ∀ (ks : List Nat) (ys : List V), Paired (fun (_ : Nat) (y : V) => y = .bl true) ks ys → ys = (ks.map fun _ => true).map V.bl := by
    intro ks
    induction ks with
    | nil => intro ys h; cases h; rfl
    | cons k ks ih =>
      intro ys h
      cases h with
      | cons r t => rw [List.map_cons, List.map_cons, r, ← ih _ t]
  refine ⟨l, _, rfl, sq_of (by rw [hl, key _ _ ho]), ?_⟩
  have z : ((((List.range n).filter keep).map fun _ => true).all id) = true := by rw [List.all_eq_true]; intro b hb; obtain ⟨_, _, rfl⟩ := List.mem_map.mp hb; rfl
  rw [z]
  exact q _ H2 e2 rfl
end
end Vw
end
section
/-! The kit, further: slices, in, instances made, fields. -/
namespace Vw
open PySem PySem.Spec PyProof.Rows L2 Evl
/-! ### a def of the text as it stands behind the top -/
abbrev Fd (K : PySem.W.Frag) (x qual : Str) (st : Stmt) (dvs : List V) (kws : List (Str × V)) (f : Addr) (fd : FuncData) : Prop := FunD K x qual (defArgs st) (defBody st) (defScope st) dvs kws f fd
theorem Fd.ok {P : Program} {w : World} {K : PySem.W.Frag} {mg : Str → Option Value} {base : Heap} {x qual : Str} {st : Stmt} {dvs : List V} {kws : List (Str × V)} {f : Addr} {fd : FuncData} {N ps : List Str} {k : Nat} {sp : Sp} (F : Fd K x qual st dvs kws f fd) (S : FnScope N ps (defScope st))
    (len : ∀ vs H Q E, sp vs H Q E → vs.length = ps.length)
    (hbody : ∀ (cdv : Value) (A : Around) (outer : List Env) (s : Shared) (H : Hp) (vs : List V) (Q : VK) (E : XK), Room k (A.deeper (envOfC qual (defScope st) s.heap.objs.size f cdv)) → sp vs H Q E →
      WB (cxOf CX0 P w K mg base N qual (defScope st) f cdv A outer s H E).nox (defBody st) { nx := fun _ H' => Q .non H', rt := Q } (start N vs) H) : FnOk P w K mg base CX0 (k + 1) f fd ps sp :=
  FunD.ok F S len fun cdv A outer s H vs Q E hr hsp => ⟨_, PSs.nox wb_pss, hbody cdv A outer s H vs Q E hr hsp⟩
/-- a def by its name -/
theorem has_of {P : Program} {w : World} {K : PySem.W.Frag} {mg : Str → Option Value} {base : Heap} {n qual : Str} {st : Stmt} {f : Addr} {fd : FuncData} {k : Nat} {ps : List Str} {sp : Sp} (F : Fd K n qual st [] [] f fd) (g : mg n = some (.ref f)) (ok : FnOk P w K mg base CX0 k f fd ps sp)
    (h : ∀ (kV doc pm : Value) (an : Option Addr) (cdv ct : Value) (us : List Value), us.length = ps.length → bindArgs (PySem.W.fnOf n qual (defArgs st) (defBody st) (defScope st) .none kV doc pm an cdv ct) ⟨us, []⟩ = pure (ps.zip us)) : Has P w K mg base n k ps sp :=
  ⟨f, fd, ok, g, F.kp, FunD.bindsN F h⟩
section
variable {X : Cx} {σ : L2.St} {H H' : Hp} {a b c e o : Expr} {es : List Expr} {v x y : V} {P PA PB : VPd} {pos p p2 : Pos} {S : List V → Hp → Prop}

/-! ### slices -/
def VO (X : Cx) (σ : L2.St) (H : Hp) (o : Option Expr) (i : Option Int) : Prop := ∃ t, PO X o t ∧ EvO t σ H i
theorem vo_none : VO X σ H none none := ⟨_, po_none, eo_none⟩
theorem vo_some {i : Int} (h : VE X σ H e (.int i)) : VO X σ H (some e) (some i) := ⟨_, po_some we_pe, eo_some (ve_ev h)⟩
theorem v_slL {pp : Addr} {xs : List V} {lo hi : Option Expr} {l u : Option Int} (ha : VE X σ H a (.ref pp)) (hx : SqL X.K H pp xs) (h1 : VO X σ H lo l) (h2 : VO X σ H hi u) :
    VP X σ H (.Subscript a (.Slice lo hi none p2) pos) fun v H' => ∃ q, v = .ref q ∧ H q = none ∧ H' q = some (.lst (cutV xs l u)) := by
  obtain ⟨t1, k1, g1⟩ := h1
  obtain ⟨t2, k2, g2⟩ := h2
  intro H1 e1 Q q
  refine toE (pe_slice sl_list we_pe k1 k2) (el_sl (ve_ev ha) g1 g2 hx H1 e1 Q fun p H2 hp e2 h2 => q _ H2 e2 ⟨p, rfl, fresh_back e1 hp, h2⟩)
theorem v_slT {pp : Addr} {xs : List V} {lo hi : Option Expr} {l u : Option Int} (ha : VE X σ H a (.ref pp)) (hx : SqT X.K H pp xs) (h1 : VO X σ H lo l) (h2 : VO X σ H hi u) (hw : ¬ (HT.sIx xs.length 0 l = 0 ∧ HT.sIx xs.length xs.length u = xs.length)) :
    VP X σ H (.Subscript a (.Slice lo hi none p2) pos) fun v H' => ∃ q, v = .ref q ∧ H q = none ∧ H' q = some (.tup (cutV xs l u)) := by
  obtain ⟨t1, k1, g1⟩ := h1
  obtain ⟨t2, k2, g2⟩ := h2
  intro H1 e1 Q q
  refine toE (pe_slice sl_tup we_pe k1 k2) (ve_ev ha H1 e1 _ fun H2 e2 => g1 H2 (e1.trans e2) _ fun H3 e3 => g2 H3 ((e1.trans e2).trans e3) _ fun H4 e4 => ?_)
  exact ⟨pp, xs, rfl, ex_t (((e1.trans e2).trans e3).trans e4) hx, hw, fun p hp => q _ _ (((e2.trans e3).trans e4).trans (Ex.new hp)) ⟨p, rfl, fresh_back (((e1.trans e2).trans e3).trans e4) hp, upd_same⟩⟩

/-! ### in a list or tuple of flat things that is made on the way -/
theorem v_notInL {xs : List V} (ha : VE X σ H a x) (hb : VP X σ H b fun v H' => ∃ q, v = .ref q ∧ H q = none ∧ H' q = some (.lst xs)) (fx : flatV x = true) (fs : xs.all flatV = true) (hm : behindInMarks .NotIn b = false := by rfl) : VE X σ H (.Compare a [.NotIn] [b] pos) (.bl (!inV x xs)) :=
  vp_cmp op_notIn_seq ha (fun x1 H1 e1 p1 => (hb.mono e1)) (fun x1 H1 y H2 e1 p1 e2 p2 Q k => by
    subst p1
    obtain ⟨q, rfl, _, hq⟩ := p2
    exact ⟨q, xs, rfl, .inl (sq_of hq), fx, fs, k _ H2 (Ex.refl _) rfl⟩) hm
theorem v_inT {xs : List V} (ha : VE X σ H a x) (hb : VP X σ H b fun v H' => ∃ q, v = .ref q ∧ SqT X.K H' q xs) (fx : flatV x = true) (fs : xs.all flatV = true) (hm : behindInMarks .In b = false := by rfl) : VE X σ H (.Compare a [.In] [b] pos) (.bl (inV x xs)) :=
  vp_cmp op_in_seq ha (fun x1 H1 e1 p1 => (hb.mono e1)) (fun x1 H1 y H2 e1 p1 e2 p2 Q k => by
    subst p1
    obtain ⟨q, rfl, hq⟩ := p2
    exact ⟨q, xs, rfl, .inr hq, fx, fs, k _ H2 (Ex.refl _) rfl⟩) hm

theorem cut_to (xs : List V) (i : Nat) : cutV xs none (some (i : Int)) = xs.take i := by
  unfold cutV
  rw [HT.sIx_nat, HT.sIx_none, List.drop_zero, Nat.sub_zero]
  by_cases h : i ≤ xs.length
  · rw [Nat.min_eq_left h]
  · rw [Nat.min_eq_right (by omega), List.take_length, List.take_of_length_le (by omega)]
theorem cut_from (xs : List V) (i : Nat) : cutV xs (some (i : Int)) none = xs.drop i := by
  unfold cutV
  rw [HT.sIx_nat, HT.sIx_none]
  by_cases h : i ≤ xs.length
  · rw [Nat.min_eq_left h, List.take_of_length_le (by rw [List.length_drop]; exact Nat.le_refl _)]
  · rw [Nat.min_eq_right (by omega), List.drop_of_length_le (Nat.le_refl _), List.drop_of_length_le (by omega), List.take_nil]
theorem flat_strs (ns : List Str) : (ns.map V.str).all flatV = true := by
  rw [List.all_eq_true]
  intro x hx
  obtain ⟨z, _, rfl⟩ := List.mem_map.mp hx
  rfl
theorem inV_strs (z : Str) (ns : List Str) : inV (.str z) (ns.map V.str) = decide (z ∈ ns) := by
  unfold inV
  rw [Bool.eq_iff_iff, List.any_eq_true, decide_eq_true_eq]
  constructor
  · rintro ⟨x, hx, e⟩
    obtain ⟨y, hy, rfl⟩ := List.mem_map.mp hx
    have e' : (y == z) = true := e
    rw [← beq_iff_eq.mp e']
    exact hy
  · intro h
    exact ⟨.str z, List.mem_map.mpr ⟨z, h, rfl⟩, beq_self_eq_true z⟩

/-! ### instances -/
/-- all but the object at x as it stood -/
def ExB (x : Addr) (H H' : Hp) : Prop := ∀ a o, a ≠ x → H a = some o → H' a = some o
theorem exb_upd {x : Addr} {u : HO} (e : Ex H H') : ExB x H (upd H' x u) := fun a o h q => by
  rw [upd_ne h]
  exact e a o q
theorem ExB.trans {x : Addr} {H1 H2 : Hp} (a : ExB x H H1) (b : ExB x H1 H2) : ExB x H H2 := fun c o h q => b c o h (a c o h q)
theorem ExB.ex {x : Addr} {H1 : Hp} (a : ExB x H H1) {H2 : Hp} (b : Ex H1 H2) : ExB x H H2 := fun c o h q => b c o (a c o h q)
theorem ExB.upd {x : Addr} {H1 : Hp} {u : HO} (a : ExB x H H1) : ExB x H (upd H1 x u) := fun c o h q => by
  rw [upd_ne h]
  exact a c o h q
theorem exb_refl {x : Addr} : ExB x H H := fun _ _ _ q => q
/-- an __init__: what it needs, and with which fields it leaves the new instance -/
def InSp {G : Type} (C : Addr) (pre : G → List V → Hp → Prop) (post : G → List (Str × V) → Hp → Prop) : Sp := fun vs H Q _ => ∃ (g : G) (x dx : Addr) (r : List V), vs = .ref x :: r ∧ H x = some (.ins C dx []) ∧ pre g r H ∧
  ∀ H' fs, ExB x H H' → H' x = some (.ins C dx fs) → post g fs H' → Q .non H'
structure HasI (P : Program) (w : World) (K : PySem.W.Frag) (mg : Str → Option Value) (base : Heap) (C : Addr) (k : Nat) (ps : List Str) (sp : Sp) : Prop where
  ex : ∃ (f : Addr) (fd : FuncData), FnOk P w K mg base CX0 k f fd ps sp ∧ Mk K C f ∧ Binds K fd ps []
theorem vp_make {G : Type} {C : Addr} {pre : G → List V → Hp → Prop} {post : G → List (Str × V) → Hp → Prop} {n : Str} {k : Nat} {ps : List Str} (F : HasI X.prog X.w X.K X.mg X.base C k ps (InSp C pre post)) (hC : X.mg n = some (.ref C)) (hr : Room (k + 1) X.A) (g : G)
    (ha : VAP X σ H (e :: es) S) (hp : ∀ vs H1 H2, Ex H H1 → S vs H1 → Ex H1 H2 → pre g vs H2)
    (hk : ∀ H' x dx fs, Ex H H' → H x = none → H' x = some (.ins C dx fs) → post g fs H' → P (.ref x) H') (hg : Gl X n := by rfl) (hdb : (n == ("__debug__" : Str)) = false := by decide)
    (he : starEach (e :: es) X.env = (false, eval e X.env) :: starEach es X.env := by rfl) (hpl : (backTo pos (starEach es X.env)).any (·.1) = false := by rfl) : VP X σ H (.Call (.Name n p) (e :: es) [] pos) P := by
  obtain ⟨f, fd, F1, F2, F3⟩ := F.ex
  intro H1 e1 Q q
  refine toE (pe_make F2 F1 hr hg hC F3 .nil pass0 wa_pa hdb he hpl) (ha H1 e1 _ fun vs H2 e2 p2 x dx hx hdx hne => ?_)
  show InSp C pre post (.ref x :: (vs ++ [])) _ _ E0
  rw [List.append_nil]
  have ee : Ex H2 (upd (upd H2 dx (.own x)) x (.ins C dx [])) := (Ex.new hdx).trans (Ex.new (by rw [upd_ne hne.symm]; exact hx))
  refine ⟨g, x, dx, vs, rfl, upd_same, hp vs H2 _ (e1.trans e2) p2 ee, fun H3 fs b hi po => ⟨rfl, ?_⟩⟩
  have e3 : Ex H2 H3 := fun a o h => b a o (ne_of_none h hx) (ee a o h)
  exact q _ H3 (e2.trans e3) (hk H3 x dx fs ((e1.trans e2).trans e3) (fresh_back (e1.trans e2) hx) hi po)
end
end Vw
end
section
/-! The module lines: the checks. -/
namespace Vw
open PySem PySem.Spec PyProof.Rows L2 Evl
section
variable {P : Program} {w : World} {K : PySem.W.Frag} {mg : Str → Option Value} {base : Heap} {CL CS CO CV CW : Addr}

abbrev spInt : Sp := PuSp (fun (i : Int) vs _ => vs = [.int i]) fun _ v _ => v = .bl true
theorem ok_is_integer {f : Addr} {fd : FuncData} (F : Fd K "is_integer" "is_integer" s_is_integer [] [] f fd) (T : Txt K mg CL CS CO CV CW) : FnOk P w K mg base CX0 1 f fd ["value"] spInt := by
  refine F.ok sc_is_integer (fun vs H Q E h => ?_) (fun cdv A outer s H vs Q E hr h => ?_)
  · obtain ⟨g, rfl, _⟩ := h
    rfl
  · obtain ⟨g, rfl, k⟩ := h
    exact wb_ret (v_and (v_isi T.isi T.int boot_int (v_nm 0 rfl) (fun H' _ => .base (.int g)) (by decide +kernel : kitB "int" "int" = some true)) fun _ => v_one (v_not (v_isi T.isi T.bool boot_bool (v_nm 0 rfl) (fun H' _ => .base (.int g)) (by decide +kernel : kitB "int" "bool" = some false)))) k

abbrev spBetween : Sp := PuSp (fun (g : Int × Int × Int) vs _ => vs = [.int g.1, .int g.2.1, .int g.2.2]) fun g v _ => v = .bl (decide (g.2.1 ≤ g.1) && decide (g.1 ≤ g.2.2))
theorem ok_is_between {f : Addr} {fd : FuncData} (F : Fd K "is_between" "is_between" s_is_between [] [] f fd) (T : Txt K mg CL CS CO CV CW) (h1 : Has P w K mg base "is_integer" 1 ["value"] spInt) : FnOk P w K mg base CX0 2 f fd ["value", "low", "high"] spBetween := by
  refine F.ok sc_is_between (fun vs H Q E h => ?_) (fun cdv A outer s H vs Q E hr h => ?_)
  · obtain ⟨g, rfl, _⟩ := h
    rfl
  · obtain ⟨⟨i, lo, hi⟩, rfl, k⟩ := h
    refine wb_ret ?_ k
    exact VE.is (v_and (s := true) (vp_call h1 hr i (va_cons (v_nm 0 rfl) va_nil) (fun vs H1 _ q => q) fun _ _ _ q => q) fun _ => v_one (v_chain op_le op_le (v_nm 1 rfl) (v_nm 0 rfl) (v_nm 2 rfl) rv_I0 rv_I0)) (by simp)

/-! ### names, refs -/
structure NmOk (z : Str) : Prop where
  lo : 1 ≤ z.length
  hi : z.length ≤ 8
  let_ : ∀ c ∈ z.cps.toList, c ∈ letters.cps.toList
abbrev spName : Sp := PuSp (fun (z : Str) vs _ => vs = [.str z] ∧ NmOk z) fun _ v _ => v = .bl true
theorem ok_is_name {f : Addr} {fd : FuncData} (F : Fd K "is_name" "is_name" s_is_name [] [] f fd) (T : Txt K mg CL CS CO CV CW) : FnOk P w K mg base CX0 1 f fd ["value"] spName := by
  refine F.ok sc_is_name (fun vs H Q E h => ?_) (fun cdv A outer s H vs Q E hr h => ?_)
  · obtain ⟨g, ⟨rfl, _⟩, _⟩ := h
    rfl
  · obtain ⟨z, ⟨rfl, hz⟩, k⟩ := h
    have hl := hz.lo
    have hu := hz.hi
    refine wb_no (VT.is (w_t (w_or (t_not (t_val (v_isi T.isi T.str boot_str (v_nm 0 rfl) (fun H' _ => .base (.str z)) (by decide +kernel : kitB "str" "str" = some true)))) fun _ =>
      w_or1 (t_not (t_chain op_le op_le v_int (v_len (k := z.length) T.len (v_nm 0 rfl) fun H' _ => ⟨sz_of (by omega), rfl⟩) (v_int_c T.mLet) rv_I0 rv_I0)))) ?_) fun H1 e1 => ?_
    · simp; omega
    · refine wb_ret (VE.is (v_all T.all (vp_lc [("sign", 1)] sc_is_name.nd (blkOk_by (N := n_is_name) (sc := defScope s_is_name) (by decide +kernel)) (fun i => imm_eq) (vi_S (v_nm 0 rfl)) (by show z.length ≤ 100000; omega) (keep := fun _ => true) fun i x H2 hi e2 hx => ?_)) rfl) fun v H2 e2 q => k v H2 (e1.trans e2) q
      obtain ⟨c, hc, rfl⟩ := hx
      refine turn_nm 1 sc_is_name.nd rfl rfl rfl (fun s H0 C cl fp => ts_nil) fun _ s H0 C cl fp => ?_
      have hm : c ∈ letters.cps.toList := hz.let_ c (by rw [← Array.getElem?_toList] at hc; exact List.mem_of_getElem? hc)
      exact VE.is (v_cmp op_in_sign (v_nm 1 rfl) (v_str_c T.lett) (fun H1 _ Q q => ⟨c, letters, rfl, rfl, q H1 (Ex.refl _)⟩) rfl) (by rw [decide_eq_true hm])
abbrev spOffset : Sp := PuSp (fun (i : Int) vs _ => vs = [.int i]) fun i v _ => v = .bl (decide (-9 ≤ i) && decide (i ≤ 9))
theorem ok_is_offset {f : Addr} {fd : FuncData} (F : Fd K "is_offset" "is_offset" s_is_offset [] [] f fd) (T : Txt K mg CL CS CO CV CW) (h1 : Has P w K mg base "is_between" 2 ["value", "low", "high"] spBetween) : FnOk P w K mg base CX0 3 f fd ["value"] spOffset := by
  refine F.ok sc_is_offset (fun vs H Q E h => ?_) (fun cdv A outer s H vs Q E hr h => ?_)
  · obtain ⟨g, rfl, _⟩ := h
    rfl
  · obtain ⟨i, rfl, k⟩ := h
    exact wb_ret (vp_call h1 hr (i, -9, 9) (va_cons (v_nm 0 rfl) (va_cons (v_neg (v_int_c T.mOff)) (va_cons (v_int_c T.mOff) va_nil))) (fun vs H1 _ q => q) fun _ _ _ q => q) k
/-- a tuple (name, offset) -/
abbrev spRef : Sp := PuSp (fun (g : Addr × Str × Int) vs H => vs = [.ref g.1] ∧ H g.1 = some (.tup [.str g.2.1, .int g.2.2]) ∧ NmOk g.2.1 ∧ -9 ≤ g.2.2 ∧ g.2.2 ≤ 9) fun _ v _ => v = .bl true
theorem ok_is_ref {f : Addr} {fd : FuncData} (F : Fd K "is_ref" "is_ref" s_is_ref [] [] f fd) (T : Txt K mg CL CS CO CV CW) (h1 : Has P w K mg base "is_name" 1 ["value"] spName) (h2 : Has P w K mg base "is_offset" 3 ["value"] spOffset) : FnOk P w K mg base CX0 4 f fd ["value"] spRef := by
  refine F.ok sc_is_ref (fun vs H Q E h => ?_) (fun cdv A outer s H vs Q E hr h => ?_)
  · obtain ⟨g, ⟨rfl, _⟩, _⟩ := h
    rfl
  · obtain ⟨⟨p, z, i⟩, ⟨rfl, hp, hz, h9, h9'⟩, k⟩ := h
    have hx : SqT K H p [.str z, .int i] := SqT.of hp
    refine wb_ret ?_ k
    exact VE.is (v_and (v_isi T.isi T.tuple boot_tuple (v_nm 0 rfl) (fun H' e' => .base (.tup (e' _ _ hp))) (by decide +kernel : kitB "tuple" "tuple" = some true)) fun _ =>
      v_and (v_eq (v_len (k := 2) T.len (v_nm 0 rfl) fun H' e' => .inr ⟨_, ex_t e' hx, rfl⟩) v_int) fun _ =>
      v_and (s := true) (vp_call h1 (hr.mono (by decide)) z (va_cons (v_ixT (v_nm 0 rfl) v_int hx rfl) va_nil) (fun vs H1 _ q => ⟨q, hz⟩) fun _ _ _ q => q) fun _ =>
      v_one (vp_call h2 hr i (va_cons (v_ixT (v_nm 0 rfl) v_int hx rfl) va_nil) (fun vs H1 _ q => q) fun _ _ _ q => q)) (by simp [h9, h9'])
/-- a list of texts of which no two are alike -/
abbrev spUnlike : Sp := PuSp (fun (g : Addr × List Str) vs H => vs = [.ref g.1] ∧ SqL K H g.1 (g.2.map V.str) ∧ g.2.Nodup ∧ g.2.length ≤ 100) fun _ v _ => v = .bl true
theorem ok_are_unlike {f : Addr} {fd : FuncData} (F : Fd K "are_unlike" "are_unlike" s_are_unlike [] [] f fd) (T : Txt K mg CL CS CO CV CW) : FnOk P w K mg base CX0 1 f fd ["values"] (spUnlike (K := K)) := by
  refine F.ok sc_are_unlike (fun vs H Q E h => ?_) (fun cdv A outer s H vs Q E hr h => ?_)
  · obtain ⟨g, ⟨rfl, _⟩, _⟩ := h
    rfl
  · obtain ⟨⟨p, ns⟩, ⟨rfl, hp, hn, hl⟩, k⟩ := h
    refine wb_ret (VE.is (v_all T.all (vp_lc [("at", 1), ("value", 2)] sc_are_unlike.nd (blkOk_by (N := n_are_unlike) (sc := defScope s_are_unlike) (by decide +kernel)) (fun i => imm_eq)
      (vi_enumL (n := ns.length) (Y := fun i v _ => ∃ z, ns[i]? = some z ∧ v = .str z) (fun i _ _ _ _ q => q) T.enumerate ((v_nm (v := .ref p) 0 rfl).imp fun v H1 e1 q => ⟨p, _, q, ex_l e1 hp, by simp, fun i x hx => ?_⟩)) (Nat.le_trans hl (by decide)) (keep := fun _ => true) fun i x H2 hi e2 hx => ?_)) rfl) k
    · rw [List.getElem?_map] at hx
      obtain ⟨z, h1, h2⟩ := Option.map_eq_some_iff.mp hx
      exact ⟨z, h1, h2.symm⟩
    · obtain ⟨t, v, rfl, ht, z, hz, rfl⟩ := hx
      refine turn_two 1 2 rfl sc_are_unlike.nd rfl rfl (SqT.of ht) rfl rfl rfl (fun s H0 C cl fp => ts_nil) fun _ s H0 C cl fp => ?_
      have c : cutV (ns.map V.str) none (some (i : Int)) = (ns.take i).map V.str := by rw [cut_to, List.map_take]
      refine VE.is (v_notInL (v_nm 2 rfl) (v_slL (v_nm 0 rfl) (ex_l e2 hp) vo_none (vo_some (v_nm 1 rfl))) rfl (by rw [c]; exact flat_strs _) rfl) ?_
      rw [c, inV_strs]
      have no : z ∉ ns.take i := fun hm => by
        obtain ⟨j, hj, ej⟩ := List.getElem_of_mem hm
        rw [List.getElem_take] at ej
        rw [List.length_take] at hj
        obtain ⟨hi', ei⟩ := List.getElem?_eq_some_iff.mp hz
        have := (List.getElem_inj hn).mp (ej.trans ei.symm)
        omega
      rw [decide_eq_false no]
      rfl
end
end Vw
end
section
/-! The class Line. -/
namespace Vw
open PySem PySem.Spec PyProof.Rows L2 Evl

/-! ### a line -/
def fsL (z : Str) (st : Int) : List (Str × V) := putF "kept_stride" (.int st) (putF "kept_name" (.str z) [])
theorem fsL_name (z : Str) (st : Int) : (fsL z st).lookup ("kept_name" : Str) = some (.str z) := by
  unfold fsL
  rw [lookup_putF, if_neg (by decide +kernel), lookup_putF, if_pos rfl]
theorem fsL_stride (z : Str) (st : Int) : (fsL z st).lookup ("kept_stride" : Str) = some (.int st) := by
  unfold fsL
  rw [lookup_putF, if_pos rfl]
theorem fsL_no (z : Str) (st : Int) {m : Str} (h1 : ¬ m = "kept_stride") (h2 : ¬ m = "kept_name") : (fsL z st).lookup m = none := by
  unfold fsL
  rw [lookup_putF, if_neg h1, lookup_putF, if_neg h2]
  rfl
def LineAt (C : Addr) (H : Hp) (a : Addr) (z : Str) (st : Int) : Prop := ∃ dx, H a = some (.ins C dx (fsL z st))
theorem LineAt.ex {C : Addr} {H H' : Hp} {a : Addr} {z : Str} {st : Int} (h : LineAt C H a z st) (e : Ex H H') : LineAt C H' a z st := let ⟨dx, q⟩ := h; ⟨dx, e _ _ q⟩
theorem LineAt.kl {C : Addr} {H H' : Hp} {a : Addr} {z : Str} {st : Int} (h : LineAt C H a z st) (e : KL H H') : LineAt C H' a z st := let ⟨dx, q⟩ := h; ⟨dx, e _ _ q fun _ z => nomatch z⟩
section
variable {P : Program} {w : World} {K : PySem.W.Frag} {mg : Str → Option Value} {base : Heap} {CL CS CO CV CW : Addr}
abbrev spLineInit (CL : Addr) : Sp := InSp CL (fun (g : Str × Int) r _ => r = [.str g.1, .int g.2] ∧ NmOk g.1 ∧ 1 ≤ g.2 ∧ g.2 ≤ 6) fun g fs _ => fs = fsL g.1 g.2
theorem ok_Line_init {f : Addr} {fd : FuncData} (F : Fd K "__init__" "Line.__init__" s_Line_init [.int 1] [] f fd) (T : Txt K mg CL CS CO CV CW) (h1 : Has P w K mg base "is_name" 1 ["value"] spName) (h2 : Has P w K mg base "is_between" 2 ["value", "low", "high"] spBetween) :
    FnOk P w K mg base CX0 3 f fd ["self", "name", "stride"] (spLineInit CL) := by
  refine F.ok sc_Line_init (fun vs H Q E h => ?_) (fun cdv A outer s H vs Q E hr h => ?_)
  · obtain ⟨g, x, dx, r, rfl, _, ⟨rfl, _⟩, _⟩ := h
    rfl
  · obtain ⟨⟨z, st⟩, x, dx, r, rfl, hx, ⟨rfl, hz, h1', h6⟩, k⟩ := h
    refine wb_no (VT.is (t_not (t_val (vp_call h1 (hr.mono (by decide)) z (va_cons (v_nm 1 rfl) va_nil) (fun vs H1 _ q => ⟨q, hz⟩) fun _ _ _ q => q))) rfl) fun H1 e1 => ?_
    refine wb_no (VT.is (t_not (t_val (vp_call h2 hr (st, 1, 6) (va_cons (v_nm 2 rfl) (va_cons v_int (va_cons (v_int_c T.mStr) va_nil))) (fun vs H1 _ q => q) fun _ _ _ q => q))) (by simp [h1', h6])) fun H2 e2 => ?_
    have e12 := e1.trans e2
    refine wb_fld T.cL T.nLn (v_nm 1 rfl) (v_nm 0 rfl) (e12 _ _ hx) (by decide) fun v H3 e3 q H4 e4 => ?_
    subst q
    refine wb_fld T.cL T.nLs (v_nm 2 rfl) (v_nm 0 rfl) upd_same (by show 1 < 1000; decide) fun v H5 e5 q H6 e6 => ?_
    subst q
    exact wb_nil (k _ _ (((exb_upd ((e12.trans e3).trans e4)).ex (e5.trans e6)).upd) upd_same rfl)
abbrev spGetV (C : Addr) (f : Str) : Sp := PuSp (fun (g : Addr × Addr × List (Str × V) × V) vs H => vs = [.ref g.1] ∧ H g.1 = some (.ins C g.2.1 g.2.2.1) ∧ g.2.2.1.lookup f = some g.2.2.2) fun g v _ => v = g.2.2.2
/-- a getter that hands back a field -/
theorem ok_get {f C : Addr} {fd : FuncData} {x qual fn : Str} {st : Stmt} {p1 p2 p3 : Pos} (F : Fd K x qual st [] [] f fd) (S : FnScope ["self"] ["self"] (defScope st)) (hb : defBody st = [.Return (some (.Attribute (.Name "self" p1) fn p2)) p3]) (c : Cls K C) (n : NoAttr K C fn) :
    FnOk P w K mg base CX0 1 f fd ["self"] (spGetV C fn) := by
  refine F.ok S (fun vs H Q E h => ?_) (fun cdv A outer s H vs Q E hr h => ?_)
  · obtain ⟨g, ⟨rfl, _⟩, _⟩ := h
    rfl
  · obtain ⟨⟨a, dx, fs, v⟩, ⟨rfl, ha, hl⟩, k⟩ := h
    rw [hb]
    refine wb_ret ?_ k
    exact v_fld c n (v_nm 0 rfl rfl ((S.par "self" (List.Mem.head _)).elim (fun z => .inl z) fun z => .inr (.inl z))) ha hl rfl
theorem ok_Line_name {f : Addr} {fd : FuncData} (F : Fd K "name" "Line.name" s_Line_name [] [] f fd) (T : Txt K mg CL CS CO CV CW) : FnOk P w K mg base CX0 1 f fd ["self"] (spGetV CL "kept_name") := ok_get F sc_Line_name rfl T.cL T.nLn
theorem ok_Line_stride {f : Addr} {fd : FuncData} (F : Fd K "stride" "Line.stride" s_Line_stride [] [] f fd) (T : Txt K mg CL CS CO CV CW) : FnOk P w K mg base CX0 1 f fd ["self"] (spGetV CL "kept_stride") := ok_get F sc_Line_stride rfl T.cL T.nLs
/-- what distance answers -/
def distV (i j st : Int) : V := if (i - j) % st = 0 then .int ((i - j) / st) else .non
abbrev spDistance (CL : Addr) : Sp := PuSp (fun (g : Addr × Str × Int × Int × Int) vs H => vs = [.ref g.1, .int g.2.2.2.1, .int g.2.2.2.2] ∧ LineAt CL H g.1 g.2.1 g.2.2.1 ∧ 1 ≤ g.2.2.1 ∧ g.2.2.1 ≤ 6 ∧ (-9 ≤ g.2.2.2.1 ∧ g.2.2.2.1 ≤ 9) ∧ (-9 ≤ g.2.2.2.2 ∧ g.2.2.2.2 ≤ 9))
  fun g v _ => v = distV g.2.2.2.1 g.2.2.2.2 g.2.2.1
theorem ok_Line_distance {f : Addr} {fd : FuncData} (F : Fd K "distance" "Line.distance" s_Line_distance [] [] f fd) (T : Txt K mg CL CS CO CV CW) (h1 : Has P w K mg base "is_offset" 3 ["value"] spOffset) :
    FnOk P w K mg base CX0 4 f fd ["self", "first", "second"] (spDistance CL) := by
  refine F.ok sc_Line_distance (fun vs H Q E h => ?_) (fun cdv A outer s H vs Q E hr h => ?_)
  · obtain ⟨g, ⟨rfl, _⟩, _⟩ := h
    rfl
  · obtain ⟨⟨a, z, st, i, j⟩, ⟨rfl, ⟨dx, ha⟩, s1, s6, hi, hj⟩, k⟩ := h
    dsimp only at ha s1 s6 hi hj
    refine wb_cons (toS (ps_for PassesOwn.never rfl (pi_tup we_pe) wg_pg wb_pss) ?_)
    refine v_tup (va_cons (v_nm 1 rfl) (va_cons (v_nm 2 rfl) va_nil)) (by simp) H (Ex.refl H) _ fun v H1 e1 p1 => ?_
    obtain ⟨q, rfl, hq0, hq⟩ := p1
    refine ⟨q, rfl, ⟨_, SqT.of hq⟩, for_tup (K := K) (a := q) (xs := [.int i, .int j]) (fun n σ' H' => Ex H1 H' ∧ ∃ o, σ' = [some (.ref a), some (.int i), some (.int j), o]) ⟨Ex.refl _, _, rfl⟩ (fun n σ' H' _ r => SqT.of (r.1 _ _ hq)) (fun n x σ' H' hx r => ?_) fun σ' H' r => ?_⟩
    · obtain ⟨eH, o, rfl⟩ := r
      have hb : ∃ u : Int, x = .int u ∧ -9 ≤ u ∧ u ≤ 9 := by
        have hm := List.mem_of_getElem? hx
        rcases List.mem_cons.mp hm with rfl | hm
        · exact ⟨_, rfl, hi.1, hi.2⟩
        · rw [List.mem_singleton.mp hm]
          exact ⟨_, rfl, hj.1, hj.2⟩
      obtain ⟨u, rfl, u1, u2⟩ := hb
      refine wg_nm 3 sc_Line_distance.nd ?_
      refine wb_no (VT.is (t_not (t_val (vp_call h1 hr u (va_cons (v_nm 3 rfl) va_nil) (fun vs H1 _ q => q) fun _ _ _ q => q))) (by simp [u1, u2])) fun H2 e2 => wb_nil ⟨eH.trans e2, _, rfl⟩
    · obtain ⟨eH, o, rfl⟩ := r
      have ha' := eH _ _ (e1 _ _ ha)
      have hs0 : (0 : Int) < st := by omega
      refine wb_if (t_ne (v_mod (v_sub (v_nm 1 rfl) (v_nm 2 rfl)) (v_fld T.cL T.nLs (v_nm 0 rfl) ha' (fsL_stride z st)) hs0) v_int) (fun ht H2 e2 => ?_) fun ht H2 e2 => ?_
      · refine wb_ret v_non fun v H3 e3 q => k v H3 (e1.trans (eH.trans (e2.trans e3))) ?_
        rw [q]
        show V.non = distV i j st
        unfold distV
        rw [if_neg]
        intro h0
        simp [h0] at ht
      · refine wb_nil ?_
        refine wb_ret (v_fdiv (v_sub (v_nm 1 rfl) (v_nm 2 rfl)) (v_fld T.cL T.nLs (v_nm 0 rfl) (e2 _ _ ha') (fsL_stride z st)) ⟨hs0, by show st < 1073741824; omega⟩) fun v H3 e3 q => k v H3 (e1.trans (eH.trans (e2.trans e3))) ?_
        rw [q]
        show _ = distV i j st
        unfold distV
        rw [if_pos]
        simpa using ht
end
end Vw
end
section
/-! Instances made by an __init__ with a star parameter, also by a call with a star. -/
namespace Vw
open PySem PySem.Spec PyProof.Rows L2 Evl
/-- a promise of a def with a star parameter behind n others, from the promise of its body -/
def StSp (n : Nat) (sp : Sp) : Sp := fun vs H Q E => ∃ ws rest, vs = ws ++ rest ∧ ws.length = n ∧ rest.length ≤ sizeLine ∧ ∀ p, H p = none → sp (ws ++ [V.ref p]) (upd H p (.tup rest)) Q E
structure HasIR (P : Program) (w : World) (K : PySem.W.Frag) (mg : Str → Option Value) (base : Heap) (C : Addr) (k : Nat) (sp : Sp) : Prop where
  ex : ∃ f : Addr, FnR P w K mg base CX0 k f sp ∧ Mk K C f
/-- such a def keeps its promise -/
theorem Fd.okStar {P : Program} {w : World} {K : PySem.W.Frag} {mg : Str → Option Value} {base : Heap} {x qual pv : Str} {st : Stmt} {kws : List (Str × V)} {f : Addr} {fd : FuncData} {N ps : List Str} {k : Nat} {sp : Sp} (F : Fd K x qual st [] kws f fd) (S : FnScope N (ps ++ [pv]) (defScope st))
    (hb : ∀ (kV doc pm : Value) (an : Option Addr) (cdv ct : Value) (us rest : List Value), us.length = ps.length → bindArgs (PySem.W.fnOf x qual (defArgs st) (defBody st) (defScope st) .none kV doc pm an cdv ct) ⟨us ++ rest, []⟩ = (newTuple rest >>= fun t => pure (ps.zip us ++ [(pv, t)])))
    (hbody : ∀ (cdv : Value) (A : Around) (outer : List Env) (s : Shared) (H : Hp) (vs : List V) (Q : VK) (E : XK), Room k (A.deeper (envOfC qual (defScope st) s.heap.objs.size f cdv)) → sp vs H Q E →
      WB (cxOf CX0 P w K mg base N qual (defScope st) f cdv A outer s H E).nox (defBody st) { nx := fun _ H' => Q .non H', rt := Q } (start N vs) H) : FnR P w K mg base CX0 (k + 1) f (StSp ps.length sp) := by
  obtain ⟨oc, od, dV, kV, doc, pm, an, cdv, ct, osl, rfl, lk, hcd, hD, _⟩ := FunD.ex F
  obtain rfl : dV = .none := by
    rcases hD with ⟨_, e⟩ | ⟨e, _⟩
    · exact e
    · exact absurd rfl e
  exact StX.fn_star lk hcd S StX.cxUp_none (hb kV doc pm an cdv ct) fun A outer s H vs Q E hr hsp => ⟨_, PSs.nox wb_pss, hbody cdv A outer s H vs Q E hr hsp⟩
/-- the same of a def with defaults, where all parameters ahead of the star are written -/
theorem Fd.okStarD {P : Program} {w : World} {K : PySem.W.Frag} {mg : Str → Option Value} {base : Heap} {x qual pv : Str} {st : Stmt} {dvs : List V} {kws : List (Str × V)} {f : Addr} {fd : FuncData} {N ps : List Str} {k : Nat} {sp : Sp} (F : Fd K x qual st dvs kws f fd) (hd : dvs ≠ []) (S : FnScope N (ps ++ [pv]) (defScope st))
    (hb : ∀ (T : Addr) (kV doc pm : Value) (an : Option Addr) (cdv ct : Value) (us its rest : List Value), us.length = ps.length → its.length = dvs.length →
      ∃ g, bindArgs (PySem.W.fnOf x qual (defArgs st) (defBody st) (defScope st) (.ref T) kV doc pm an cdv ct) ⟨us ++ rest, []⟩ = seqItems? (.ref T) >>= g ∧ g (some its.toArray) = (newTuple rest >>= fun t => pure (ps.zip us ++ [(pv, t)])))
    (hbody : ∀ (cdv : Value) (A : Around) (outer : List Env) (s : Shared) (H : Hp) (vs : List V) (Q : VK) (E : XK), Room k (A.deeper (envOfC qual (defScope st) s.heap.objs.size f cdv)) → sp vs H Q E →
      WB (cxOf CX0 P w K mg base N qual (defScope st) f cdv A outer s H E).nox (defBody st) { nx := fun _ H' => Q .non H', rt := Q } (start N vs) H) : FnR P w K mg base CX0 (k + 1) f (StSp ps.length sp) := by
  obtain ⟨oc, od, dV, kV, doc, pm, an, cdv, ct, osl, rfl, lk, hcd, hD, _⟩ := FunD.ex F
  obtain ⟨T, o, its, m, eT, lT, oT, rT⟩ : ∃ T o its m, dV = .ref T ∧ K.lookup T = some o ∧ o.data = .seq (List.toArray its) m ∧ Vals dvs its := by
    rcases hD with ⟨e, _⟩ | ⟨_, T, o, its, m, a, b, c, d⟩
    · exact absurd e hd
    · exact ⟨T, o, its, m, a, b, c, d⟩
  subst eT
  intro A outer s H us vs Q E hr e0 r hsp
  obtain ⟨ws, rest, rfl, hl, hz, hq⟩ := hsp
  obtain ⟨u1, u2, rfl, r1, r2⟩ := StX.vals_split r
  have fr : H s.heap.objs.size = Option.none := e0.hok.fresh (Nat.le_refl _)
  have l1 : u1.length = ps.length := r1.length.symm.trans hl
  have l2 : u2.length ≤ sizeLine := Nat.le_trans (Nat.le_of_eq r2.length.symm) hz
  obtain ⟨g, g1, g2⟩ := hb T kV doc pm an cdv ct u1 its u2 l1 rT.length.symm
  refine StX.run_bnd (G := fun xs H2 => ∃ p, H p = Option.none ∧ xs = ws ++ [V.ref p] ∧ H2 = upd H p (.tup rest)) lk hcd S hr e0 ?_ ?_
  · intro A' Ex' Q' h
    rw [g1]
    have KX : K.In s.heap := e0.mod.kin.keeps fun b o e => (e0.bs b o e).1
    refine wpAny_bind (wpAny_seqItems (KX _ _ lT) oT ?_)
    rw [g2]
    have obj : ObjOk P w (upd H s.heap.objs.size (.tup rest)) (s.heap.push ({ cls := .type "tuple", data := .seq u2.toArray } : Obj)) s.heap.objs.size (.tup rest) := ⟨hz, u2, r2, ⟨_, Heap.get?_push_size _ rfl, rfl, _, rfl⟩⟩
    have un := StX.un_laid (fs := frs outer) (s := s) (o := ({ cls := .type "tuple", data := .seq u2.toArray } : Obj)) (u := .tup rest) fr
    have fin := h _ _ (ws ++ [V.ref s.heap.objs.size]) (u1 ++ [Value.ref s.heap.objs.size]) (StX.env0_laid e0 obj) un rfl (fun _ _ z => z) (r1.append (.cons rfl .nil)) (by simp [hl]) ⟨_, fr, rfl, rfl⟩
    rw [List.zip_append l1.symm] at fin
    exact wpAny_bind (wpAny_newTuple (wpAny_pure fin) l2)
  · rintro s2 H2 xs ⟨p, hp, rfl, rfl⟩ hr'
    exact ⟨_, PSs.nox wb_pss, hbody cdv A outer s2 _ _ Q E hr' (hq p hp)⟩
section
variable {X : Cx} {σ : L2.St} {H H' : Hp} {a b c e e2 o : Expr} {es : List Expr} {v x y : V} {P : VPd} {pos p p2 : Pos} {S : List V → Hp → Prop}
variable {G : Type} {C : Addr} {pre : G → List V → Hp → Prop} {post : G → List (Str × V) → Hp → Prop} {n : Str} {k m : Nat}
/-- what such a call asks of the values -/
theorem make_read {H1 H2 : Hp} {Q : VK} {vs : List V} {po : List (Str × V) → Hp → Prop} (e1 : Ex H H1) (e2 : Ex H1 H2) (hp : ∃ ws rest, vs = ws ++ rest ∧ ws.length + 1 = m ∧ rest.length ≤ sizeLine ∧ ∀ H3 q, Ex H2 H3 → H3 q = some (.tup rest) → ∃ g, pre g (ws ++ [.ref q]) H3 ∧ ∀ fs H4, post g fs H4 → po fs H4)
    (hk : ∀ H' x dx fs, Ex H H' → H x = none → H' x = some (.ins C dx fs) → po fs H' → P (.ref x) H') (q : ∀ v H2, Ex H1 H2 → P v H2 → Q v H2) : ∀ x dx, H2 x = Option.none → H2 dx = Option.none → dx ≠ x →
    StSp m (InSp C pre post) (V.ref x :: vs) (upd (upd H2 dx (.own x)) x (.ins C dx [])) (fun v H2 => v = .non ∧ Q (.ref x) H2) E0 := by
  intro x dx hx hdx hne
  obtain ⟨ws, rest, rfl, hl, hz, hpre⟩ := hp
  have ee : Ex H2 (upd (upd H2 dx (.own x)) x (.ins C dx [])) := (Ex.new hdx).trans (Ex.new (by rw [upd_ne hne.symm]; exact hx))
  refine ⟨.ref x :: ws, rest, rfl, by rw [List.length_cons]; exact hl, hz, fun q0 hq => ?_⟩
  have hxq : x ≠ q0 := ne_of_none upd_same hq
  have e3 : Ex H2 (upd (upd (upd H2 dx (.own x)) x (.ins C dx [])) q0 (.tup rest)) := ee.trans (Ex.new hq)
  obtain ⟨g, hg1, hg2⟩ := hpre _ q0 e3 upd_same
  refine ⟨g, x, dx, ws ++ [.ref q0], rfl, (by rw [upd_ne hxq]; exact upd_same), hg1, fun H3 fs b hi ps => ⟨rfl, ?_⟩⟩
  have e4 : Ex H2 H3 := fun a o h => b a o (ne_of_none h hx) (e3 a o h)
  exact q _ H3 (e2.trans e4) (hk H3 x dx fs ((e1.trans e2).trans e4) (fresh_back (e1.trans e2) hx) hi (hg2 _ _ ps))
theorem vp_makeR (F : HasIR X.prog X.w X.K X.mg X.base C k (StSp m (InSp C pre post))) (hC : X.mg n = some (.ref C)) (hr : Room (k + 1) X.A) {po : List (Str × V) → Hp → Prop} (ha : VAP X σ H (e :: es) S)
    (hp : ∀ vs H1, Ex H H1 → S vs H1 → ∃ ws rest, vs = ws ++ rest ∧ ws.length + 1 = m ∧ rest.length ≤ sizeLine ∧ ∀ H2 q, Ex H1 H2 → H2 q = some (.tup rest) → ∃ g, pre g (ws ++ [.ref q]) H2 ∧ ∀ fs H4, post g fs H4 → po fs H4)
    (hk : ∀ H' x dx fs, Ex H H' → H x = none → H' x = some (.ins C dx fs) → po fs H' → P (.ref x) H') (hg : Gl X n := by rfl) (hdb : (n == ("__debug__" : Str)) = false := by decide)
    (he : starEach (e :: es) X.env = (false, eval e X.env) :: starEach es X.env := by rfl) (hpl : (backTo pos (starEach es X.env)).any (·.1) = false := by rfl) : VP X σ H (.Call (.Name n p) (e :: es) [] pos) P := by
  obtain ⟨f, F1, F2⟩ := F.ex
  intro H1 e1 Q q
  exact toE (StX.pe_makeR F2 F1 hr hg hC pass0 wa_pa hdb he hpl) (ha H1 e1 _ fun vs H2 e2 p2 => make_read e1 e2 (hp vs H2 (e1.trans e2) p2) hk q)
/-- C(e, .., *ys) -/
theorem pe_makeS {f : Addr} {sp : Sp} {t : TA} (M : Mk X.K C f) (F : FnR X.prog X.w X.K X.mg X.base CX0 k f sp) (hr : Room (k + 1) X.A) (hg : Gl X n) (hm : X.mg n = some (.ref C)) (ha : PA X (e :: es) t) (hdb : (n == ("__debug__" : Str)) = false := by decide)
    (he : starEach (e :: es) X.env = (false, eval e X.env) :: starEach es X.env := by rfl) (hst : (backTo pos (starEach es X.env)).any (·.1) = true := by rfl) : PE X (.Call (.Name n p) (e :: es) [] pos) (StX.tMakeR C sp E0 t) := by
  refine ⟨fun pins s σ H Q I h => ?_⟩
  refine wpAny_Call_Name_kw (ld_glob I hg hm ?_ hdb)
  refine PySem.W.callWith_S2 (h₀ := X.base) I.ok.mod.kin M.kp (thn (ha.run pos pins s σ H _ I h) fun us s1 ⟨vs, H1, I1, r, q⟩ => ⟨I1.kIn, ?_⟩) he hst
  exact StX.run_makeR M F hr pass0 I1 r q
theorem vp_makeS (F : HasIR X.prog X.w X.K X.mg X.base C k (StSp m (InSp C pre post))) (hC : X.mg n = some (.ref C)) (hr : Room (k + 1) X.A) {po : List (Str × V) → Hp → Prop} (ha : VAP X σ H (e :: es) S)
    (hp : ∀ vs H1, Ex H H1 → S vs H1 → ∃ ws rest, vs = ws ++ rest ∧ ws.length + 1 = m ∧ rest.length ≤ sizeLine ∧ ∀ H2 q, Ex H1 H2 → H2 q = some (.tup rest) → ∃ g, pre g (ws ++ [.ref q]) H2 ∧ ∀ fs H4, post g fs H4 → po fs H4)
    (hk : ∀ H' x dx fs, Ex H H' → H x = none → H' x = some (.ins C dx fs) → po fs H' → P (.ref x) H') (hg : Gl X n := by rfl) (hdb : (n == ("__debug__" : Str)) = false := by decide)
    (he : starEach (e :: es) X.env = (false, eval e X.env) :: starEach es X.env := by rfl) (hst : (backTo pos (starEach es X.env)).any (·.1) = true := by rfl) : VP X σ H (.Call (.Name n p) (e :: es) [] pos) P := by
  obtain ⟨f, F1, F2⟩ := F.ex
  intro H1 e1 Q q
  exact toE (pe_makeS F2 F1 hr hg hC wa_pa hdb he hst) (ha H1 e1 _ fun vs H2 e2 p2 => make_read e1 e2 (hp vs H2 (e1.trans e2) p2) hk q)
/-- *ys at the end of an argument list, ys a tuple -/
theorem va_star {l : Addr} {xs : List V} (h : VE X σ H e (.ref l)) (hx : SqT X.K H l xs) (hs : starEach [.Starred e p] X.env = (true, eval e X.env) :: starEach [] X.env := by rfl) : VA X σ H [.Starred e p] xs := fun H1 e1 Q q =>
  toA (StX.pa_star we_pe pa_nil hs) (h H1 e1 _ fun u H2 e2 p2 => by
    subst p2
    refine ⟨l, xs, rfl, .inl (ex_t (e1.trans e2) hx), ?_⟩
    show Q (xs ++ []) H2
    rw [List.append_nil]
    exact q xs H2 e2 rfl)
theorem v_tupN {x1 : Nat} {vs : List V} (ha : VA X σ H es vs) (hl : vs.length ≤ 100000) : VP X σ H (.Tuple es x1 pos) fun v H' => ∃ p, v = .ref p ∧ H' p = some (.tup vs) := (v_tup ha hl).imp fun v H1 e1 ⟨p, a, b, c⟩ => ⟨p, a, c⟩
theorem v_lstN {vs : List V} (ha : VA X σ H es vs) (hl : vs.length ≤ 100000) : VP X σ H (.List es pos) fun v H' => ∃ p, v = .ref p ∧ H' p = some (.lst vs) := (v_lst ha hl).imp fun v H1 e1 ⟨p, a, b, c⟩ => ⟨p, a, c⟩
theorem mono_at {o : HO} : Mono fun v H' => ∃ p, v = .ref p ∧ H' p = some o := fun _ _ _ e ⟨p, a, b⟩ => ⟨p, a, e _ _ b⟩
end
end Vw
end
section
/-! The kit, further: for loops as statements of a block. -/
namespace Vw
open PySem PySem.Spec PyProof.Rows L2 Evl
section
variable {X : Cx} {σ : L2.St} {H H' : Hp} {a b e iter tg : Expr} {v x y : V} {P : VPd} {pos p : Pos} {D : Ends} {sts body : List Stmt}
abbrev Lp (X : Cx) (D : Ends) (sts : List Stmt) (N : L2.St → Hp → Prop) : Ends := { D with nx := N, ct := N, bk := fun σ' H' => WB X sts D σ' H' }
/-- over a tuple that is known ahead -/
theorem wb_forT {l : Addr} {xs : List V} (h : VP X σ H iter P) (hP : ∀ v H1, Ex H H1 → P v H1 → v = .ref l ∧ SqT X.K H1 l xs) (Pv : Nat → L2.St → Hp → Prop) (h0 : ∀ v H1, Ex H H1 → P v H1 → Pv 0 σ H1) (hl : ∀ i σ' H', i ≤ xs.length → Pv i σ' H' → SqT X.K H' l xs)
    (hs : ∀ i x σ' H', xs[i]? = some x → Pv i σ' H' → WG X tg x σ' H' fun σ2 H2 => WB X body (Lp X D sts (Pv (i + 1))) σ2 H2) (hd : ∀ σ' H', Pv xs.length σ' H' → WB X sts D σ' H') (hp : PassesOwn (model X.prog X.w) X.A X.env X.xe := by exact PassesOwn.never) (hc : X.calm = true := by rfl)
    (hf : ∀ x, foldedSetIterable iter X.env x = pure x := by intro _; rfl) : WB X (.For tg iter body [] pos :: sts) D σ H :=
  wb_cons (toS (ps_for hp hc (pi_tup we_pe) wg_pg wb_pss hf) (h H (Ex.refl H) _ fun v H1 e1 p1 => by
    obtain ⟨rfl, hx⟩ := hP v H1 e1 p1
    exact ⟨l, rfl, ⟨xs, hx⟩, for_tup (K := X.K) (a := l) (xs := xs) Pv (h0 _ H1 e1 p1) hl hs hd⟩))
/-- over a tuple of n items, found on the way -/
theorem wb_forTn (h : VP X σ H iter P) (k : ∀ v H1, Ex H H1 → P v H1 → ∃ (l : Addr) (xs : List V) (Pv : Nat → L2.St → Hp → Prop), v = .ref l ∧ SqT X.K H1 l xs ∧ Pv 0 σ H1 ∧ (∀ i σ' H', i ≤ xs.length → Pv i σ' H' → SqT X.K H' l xs) ∧
      (∀ i x σ' H', xs[i]? = some x → Pv i σ' H' → WG X tg x σ' H' fun σ2 H2 => WB X body (Lp X D sts (Pv (i + 1))) σ2 H2) ∧ ∀ σ' H', Pv xs.length σ' H' → WB X sts D σ' H') (hp : PassesOwn (model X.prog X.w) X.A X.env X.xe := by exact PassesOwn.never) (hc : X.calm = true := by rfl)
    (hf : ∀ x, foldedSetIterable iter X.env x = pure x := by intro _; rfl) : WB X (.For tg iter body [] pos :: sts) D σ H :=
  wb_cons (toS (ps_for hp hc (pi_tup we_pe) wg_pg wb_pss hf) (h H (Ex.refl H) _ fun v H1 e1 p1 => by
    obtain ⟨l, xs, Pv, rfl, hx, h0, hl, hs, hd⟩ := k v H1 e1 p1
    exact ⟨l, rfl, ⟨xs, hx⟩, for_tup (K := X.K) (a := l) (xs := xs) Pv h0 hl hs hd⟩))
/-- over a list -/
theorem wb_forL (h : VP X σ H iter P) (k : ∀ v H1, Ex H H1 → P v H1 → ∃ (l : Addr) (xs : List V) (Pv : Nat → L2.St → Hp → Prop), v = .ref l ∧ SqL X.K H1 l xs ∧ Pv 0 σ H1 ∧ (∀ i σ' H', i ≤ xs.length → Pv i σ' H' → SqL X.K H' l xs) ∧
      (∀ i x σ' H', xs[i]? = some x → Pv i σ' H' → WG X tg x σ' H' fun σ2 H2 => WB X body (Lp X D sts (Pv (i + 1))) σ2 H2) ∧ ∀ σ' H', Pv xs.length σ' H' → WB X sts D σ' H') (hp : PassesOwn (model X.prog X.w) X.A X.env X.xe := by exact PassesOwn.never) (hc : X.calm = true := by rfl)
    (hf : ∀ x, foldedSetIterable iter X.env x = pure x := by intro _; rfl) : WB X (.For tg iter body [] pos :: sts) D σ H :=
  wb_cons (toS (ps_for hp hc (pi_list we_pe) wg_pg wb_pss hf) (h H (Ex.refl H) _ fun v H1 e1 p1 => by
    obtain ⟨l, xs, Pv, rfl, hx, h0, hl, hs, hd⟩ := k v H1 e1 p1
    exact ⟨l, rfl, ⟨xs, hx⟩, for_list (K := X.K) (a := l) (xs := xs) Pv h0 hl hs hd⟩))
/-- over range(k) -/
theorem wb_forR {k : Int} (hm : X.mg "range" = none) (h : VE X σ H a (.int k)) (h0 : -(2 ^ 62) ≤ k) (hk : k < 2 ^ 62) (Pv : Nat → L2.St → Hp → Prop) (hz : ∀ H1, Ex H H1 → Pv 0 σ H1)
    (hs : ∀ (i : Nat) σ' H', i < k.toNat → Pv i σ' H' → WG X tg (.int (i : Int)) σ' H' fun σ2 H2 => WB X body (Lp X D sts (Pv (i + 1))) σ2 H2) (hd : ∀ σ' H', Pv k.toNat σ' H' → WB X sts D σ' H') (hp : PassesOwn (model X.prog X.w) X.A X.env X.xe := by exact PassesOwn.never) (hc : X.calm = true := by rfl)
    (hg : Gl X "range" := by rfl) (hst : starEach [a] X.env = [(false, eval a X.env)] := by rfl) (hf : ∀ x, foldedSetIterable (.Call (.Name "range" p) [a] [] pos) X.env x = pure x := by intro _; rfl) {pos2 : Pos} : WB X (.For tg (.Call (.Name "range" p) [a] [] pos) body [] pos2 :: sts) D σ H :=
  wb_cons (toS (ps_for hp hc (pi_range1 hg hm (pa_cons we_pe pa_nil hst) hst) wg_pg wb_pss hf) (h H (Ex.refl H) _ fun v H1 e1 p1 => by
    subst p1
    exact ⟨k, rfl, h0, hk, for_range (lo := 0) (n := k.toNat) Pv (hz H1 e1) (fun i σ' H' hi pr => by
      have e0 : (0 : Int) + (i : Int) = (i : Int) := Int.zero_add _
      rw [e0]
      exact hs i σ' H' hi pr) hd⟩))
/-- for (..) in enumerate(l), l a list -/
theorem wb_forE {elts : List Expr} {kk : Nat} {tpos : Pos} (hm : X.mg "enumerate" = none) (h : VP X σ H e P) (k : ∀ v H1, Ex H H1 → P v H1 → ∃ (l : Addr) (xs : List V) (Pv : Nat → L2.St → Hp → Prop), v = .ref l ∧ SqL X.K H1 l xs ∧ Pv 0 σ H1 ∧ (∀ i σ' H', i ≤ xs.length → Pv i σ' H' → SqL X.K H' l xs) ∧
      (∀ i x σ' H' t, xs[i]? = some x → Pv i σ' H' → H' t = none → WG X (.Tuple elts kk tpos) (.ref t) σ' (upd H' t (.tup [.int (i : Nat), x])) fun σ2 H2 => WB X body (Lp X D sts (Pv (i + 1))) σ2 H2) ∧ ∀ σ' H', Pv xs.length σ' H' → WB X sts D σ' H')
    (hp : PassesOwn (model X.prog X.w) X.A X.env X.xe := by exact PassesOwn.never) (hc : X.calm = true := by rfl) (hg : Gl X "enumerate" := by rfl) (hst : starEach [e] X.env = [(false, eval e X.env)] := by rfl)
    (hf : ∀ x, foldedSetIterable (.Call (.Name "enumerate" p) [e] [] pos) X.env x = pure x := by intro _; rfl) {pos2 : Pos} : WB X (.For (.Tuple elts kk tpos) (.Call (.Name "enumerate" p) [e] [] pos) body [] pos2 :: sts) D σ H :=
  wb_cons (toS (ps_for hp hc (pi_enum hg hm (pa_cons we_pe pa_nil hst) hst) wg_pg wb_pss hf) (h H (Ex.refl H) _ fun v H1 e1 p1 => by
    obtain ⟨l, xs, Pv, rfl, hx, h0, hl, hs, hd⟩ := k v H1 e1 p1
    refine ⟨l, xs, rfl, hx, fun i m σ' H' => m = xs.length - i ∧ i ≤ xs.length ∧ Pv i σ' H', ⟨xs.length, by simp, Nat.zero_le _, h0⟩, ?_⟩
    rintro i m σ' H' ⟨rfl, hi, pv⟩
    have q := hl i σ' H' hi pv
    by_cases hlt : i < xs.length
    · refine .inr ⟨⟨xs, xs[i], q, List.getElem?_eq_getElem hlt⟩, Pv (i + 1), fun σ2 H2 p2 => ⟨xs.length - (i + 1), by omega, rfl, hlt, p2⟩, fun x H2 y => ?_⟩
      obtain ⟨t, z, rfl, ht, rfl, y⟩ := y
      exact hs i z σ' H' t (y xs q) pv ht
    · have e : i = xs.length := by omega
      subst e
      exact .inl ⟨⟨xs, q, Nat.le_refl _⟩, hd σ' H' pv⟩))
/-- while c: body -/
theorem wb_while {c : Expr} (W : Nat → L2.St → Hp → Prop) (m0 : Nat) (h0 : W m0 σ H)
    (hs : ∀ m σ' H', W m σ' H' → ∃ t, VT X σ' H' c t ∧ (t = true → ∀ H1, Ex H' H1 → ∃ N : L2.St → Hp → Prop, (∀ σ2 H2, N σ2 H2 → ∃ m', m' < m ∧ W m' σ2 H2) ∧ WB X body (Lp X D sts N) σ' H1) ∧ (t = false → ∀ H1, Ex H' H1 → WB X sts D σ' H1))
    (hp : PassesOwn (model X.prog X.w) X.A X.env X.xe := by exact PassesOwn.never) : WB X (.While c body [] pos :: sts) D σ H :=
  wb_cons (toS (ps_while hp wt_pt wb_pss) (s_while W m0 h0 fun m σ' H' w => hs m σ' H' w))
/-! ### calls whose ghost is found behind the arguments -/
variable {G : Type} {pre : G → List V → Hp → Prop} {post : G → VPd} {n m : Str} {k : Nat} {ps : List Str} {es : List Expr} {S : List V → Hp → Prop} {o : Expr}
theorem vp_callD (F : Has X.prog X.w X.K X.mg X.base n k ps (PuSp pre post)) (hr : Room k X.A) (ha : VAP X σ H (e :: es) S) (hp : ∀ vs H1, Ex H H1 → S vs H1 → ∃ g, pre g vs H1 ∧ ∀ v H', Ex H1 H' → post g v H' → P v H') (hg : Gl X n := by rfl) (hdb : (n == ("__debug__" : Str)) = false := by decide)
    (he : starEach (e :: es) X.env = (false, eval e X.env) :: starEach es X.env := by rfl) (hpl : (backTo pos (starEach es X.env)).any (·.1) = false := by rfl) : VP X σ H (.Call (.Name n p) (e :: es) [] pos) P := by
  obtain ⟨f, fd, F1, F2, F3, F4⟩ := F.ex
  intro H1 e1 Q q
  refine toE (pe_call F1 hr hg F2 F3 F4 .nil pass0 wa_pa hdb he hpl) (ha H1 e1 _ fun vs H2 e2 p2 => ?_)
  show PuSp pre post (vs ++ []) H2 Q E0
  rw [List.append_nil]
  obtain ⟨g, h1, h2⟩ := hp vs H2 (e1.trans e2) p2
  exact ⟨g, h1, fun v H3 e3 p3 => q v H3 (e2.trans e3) (h2 v H3 e3 p3)⟩
theorem vp_methD {C : Addr} {pp dx : Addr} {fs : List (Str × V)} {apos : Pos} {pl : Sem Bool} (F : HasM X.prog X.w X.K X.mg X.base C m k ps (PuSp pre post)) (c : Cls X.K C) (hr : Room k X.A) (ho : VE X σ H o (.ref pp)) (hi : H pp = some (.ins C dx fs)) (hl : fs.lookup m = none)
    (ha : VAP X σ H (e :: es) S) (hp : ∀ vs H1, Ex H H1 → S vs H1 → ∃ g, pre g (.ref pp :: vs) H1 ∧ ∀ v H', Ex H1 H' → post g v H' → P v H') (hst : starEach (e :: es) X.env = (false, eval e X.env) :: starEach es X.env := by rfl) (hpl : (backTo pos (starEach es X.env)).any (·.1) = false := by rfl)
    (ht : eval (.Call (.Attribute o m apos) (e :: es) [] pos) X.env = (do
      let ov ← eval o X.env
      standAt apos.atName
      let (f, first) ← holding [ov] (getMethod ov m pl)
      callWith pos f first (backTo pos (starEach (e :: es) X.env)) (backToKw pos (keywordEach [] X.env))) := by rfl) : VP X σ H (.Call (.Attribute o m apos) (e :: es) [] pos) P := by
  obtain ⟨f, fd, F1, F2, F3⟩ := F.ex
  intro H1 e1 Q q
  refine toE (pe_meth (pl := pl) we_pe c F2 F1 hr F3 .nil pass0 wa_pa hst hpl ht) (ho H1 e1 _ fun u H2 e2 p2 => ?_)
  subst p2
  refine ⟨pp, dx, fs, rfl, e2 _ _ (e1 _ _ hi), hl, ha H2 (e1.trans e2) _ fun vs H3 e3 p3 => ?_⟩
  show PuSp pre post (.ref pp :: (vs ++ [])) H3 Q E0
  rw [List.append_nil]
  obtain ⟨g, h1, h2⟩ := hp vs H3 ((e1.trans e2).trans e3) p3
  exact ⟨g, h1, fun v H4 e4 p4 => q v H4 ((e2.trans e3).trans e4) (h2 v H4 e4 p4)⟩
theorem mono_newL {keep : Nat → Bool} {P0 : Nat → VPd} {n : Nat} (m : ∀ i, Mono (P0 i)) : Mono (NewL H keep P0 n) := fun v H1 H2 e ⟨q, ys, a, b, c, d⟩ => ⟨q, ys, a, b, e _ _ c, d.ex m e⟩
end
end Vw
end
section
/-! The class Statement. -/
namespace Vw
open PySem PySem.Spec PyProof.Rows L2 Evl
/-! ### a statement whose refs are on one line -/
structure Stm where
  name : Str
  tgt : Option Int
  srcs : List Int
def refD (z : Str) (o : Int) : PyData := .tuple [.str z, .int o]
def tgtD (z : Str) : Option Int → PyData
  | none => .none
  | some o => refD z o
def srcD (z : Str) (l : List Int) : PyData := .tuple (l.map (refD z))
def OffOk (o : Int) : Prop := -9 ≤ o ∧ o ≤ 9
structure StmOk (s : Stm) : Prop where
  nm : NmOk s.name
  tgt : ∀ o, s.tgt = some o → OffOk o
  few : s.srcs.length ≤ 3
  srcs : ∀ o ∈ s.srcs, OffOk o
theorem tp_ref {H : Hp} {v : V} {z : Str} {o : Int} (h : Tp H v (refD z o)) : ∃ p, v = .ref p ∧ H p = some (.tup [.str z, .int o]) := by
  unfold refD at h
  cases h with
  | @tup a xs _ e t =>
    cases t with
    | cons h1 t =>
      cases t with
      | cons h2 t =>
        cases t
        cases h1
        cases h2
        exact ⟨a, rfl, e⟩
theorem tp_tup {H : Hp} {v : V} {ds : List PyData} (h : Tp H v (.tuple ds)) : ∃ p xs, v = .ref p ∧ H p = some (.tup xs) ∧ TpAll H xs ds := by
  cases h with
  | @tup a xs _ e t => exact ⟨a, xs, rfl, e, t⟩
theorem tpAll_get {H : Hp} : ∀ {vs : List V} {ds : List PyData} {i : Nat} {v : V}, TpAll H vs ds → vs[i]? = some v → ∃ d, ds[i]? = some d ∧ Tp H v d
  | _, _, i, v, .nil, e => by cases e
  | _, _, 0, v, .cons a b, e => by
    have e' := Option.some.inj e
    subst e'
    exact ⟨_, rfl, a⟩
  | _, _, i + 1, v, .cons a b, e => tpAll_get (i := i) b e
def fsS (z : Str) (vt vs : V) : List (Str × V) := putF "kept_sources" vs (putF "kept_target" vt (putF "kept_name" (.str z) []))
theorem fsS_name (z : Str) (vt vs : V) : (fsS z vt vs).lookup ("kept_name" : Str) = some (.str z) := by
  unfold fsS
  rw [lookup_putF, if_neg (by decide +kernel), lookup_putF, if_neg (by decide +kernel), lookup_putF, if_pos rfl]
theorem fsS_target (z : Str) (vt vs : V) : (fsS z vt vs).lookup ("kept_target" : Str) = some vt := by
  unfold fsS
  rw [lookup_putF, if_neg (by decide +kernel), lookup_putF, if_pos rfl]
theorem fsS_sources (z : Str) (vt vs : V) : (fsS z vt vs).lookup ("kept_sources" : Str) = some vs := by
  unfold fsS
  rw [lookup_putF, if_pos rfl]
theorem fsS_no (z : Str) (vt vs : V) {m : Str} (h1 : ¬ m = "kept_sources") (h2 : ¬ m = "kept_target") (h3 : ¬ m = "kept_name") : (fsS z vt vs).lookup m = none := by
  unfold fsS
  rw [lookup_putF, if_neg h1, lookup_putF, if_neg h2, lookup_putF, if_neg h3]
  rfl
/-- the statement s, its refs on the line z, stands at a -/
def StmAt (C : Addr) (H : Hp) (a : Addr) (z : Str) (s : Stm) : Prop := ∃ dx vt vs, H a = some (.ins C dx (fsS s.name vt vs)) ∧ Tp H vt (tgtD z s.tgt) ∧ Tp H vs (srcD z s.srcs)
theorem StmAt.kl {C : Addr} {H H' : Hp} {a : Addr} {z : Str} {s : Stm} (h : StmAt C H a z s) (k : KL H H') : StmAt C H' a z s := let ⟨dx, vt, vs, q, t1, t2⟩ := h; ⟨dx, vt, vs, k _ _ q (fun _ z => nomatch z), t1.kt k.kt, t2.kt k.kt⟩
theorem StmAt.ex {C : Addr} {H H' : Hp} {a : Addr} {z : Str} {s : Stm} (h : StmAt C H a z s) (e : Ex H H') : StmAt C H' a z s := h.kl (kl_ex e)
section
variable {P : Program} {w : World} {K : PySem.W.Frag} {mg : Str → Option Value} {base : Heap} {CL CS CO CV CW : Addr}
abbrev preStm : (Str × Stm) → List V → Hp → Prop := fun g r H => ∃ vt q, r = [.str g.2.name, vt, .ref q] ∧ NmOk g.1 ∧ StmOk g.2 ∧ Tp H vt (tgtD g.1 g.2.tgt) ∧ Tp H (.ref q) (srcD g.1 g.2.srcs)
abbrev postStm : (Str × Stm) → List (Str × V) → Hp → Prop := fun g fs H => ∃ vt vs, fs = fsS g.2.name vt vs ∧ Tp H vt (tgtD g.1 g.2.tgt) ∧ Tp H vs (srcD g.1 g.2.srcs)
abbrev spStmInit (CS : Addr) : Sp := InSp CS preStm postStm
theorem tp_exb {x : Addr} {H H' : Hp} {v : V} {d : PyData} (hx : ∀ xs, H x ≠ some (.tup xs)) (b : ExB x H H') (t : Tp H v d) : Tp H' v d := t.kt fun a xs h => b a _ (fun e => hx xs (e ▸ h)) h
theorem ok_Stm_init {f : Addr} {fd : FuncData} (F : Fd K "__init__" "Statement.__init__" s_Statement_init [.non] [] f fd) (T : Txt K mg CL CS CO CV CW) (h1 : Has P w K mg base "is_name" 1 ["value"] spName) (h2 : Has P w K mg base "is_ref" 4 ["value"] spRef) :
    FnR P w K mg base CX0 5 f (StSp 3 (spStmInit CS)) := by
  refine Fd.okStarD (ps := ["self", "name", "target"]) (pv := "sources") F (by simp) sc_Statement_init (fun T kV doc pm an cdv ct us its rest hl hi => ?_) (fun cdv A outer s H vs Q E hr h => ?_)
  · match us, its, rest, hl, hi with
    | [_, _, _], [_], [], _, _ => exact ⟨_, rfl, rfl⟩
    | [_, _, _], [_], _ :: _, _, _ => exact ⟨_, rfl, rfl⟩
  · obtain ⟨⟨z, st⟩, x, dx, r, rfl, hx, ⟨vt, q, rfl, hz, ok, t1, t2⟩, k⟩ := h
    dsimp only at hz ok t1 t2 k
    obtain ⟨q', xs, eq, hq, tx⟩ := tp_tup t2
    cases eq
    have hlen : xs.length ≤ 3 := by rw [tx.length, List.length_map]; exact ok.few
    refine wb_no (VT.is (t_not (t_val (vp_call h1 (hr.mono (by decide)) st.name (va_cons (v_nm 1 rfl) va_nil) (fun vs H1 _ q => ⟨q, ok.nm⟩) fun _ _ _ q => q))) rfl) fun H1 e1 => ?_
    refine wb_no ?_ fun H2 e2 => ?_
    · cases ht : st.tgt with
      | none =>
        rw [ht] at t1
        cases t1
        exact VT.is (w_t (w_and (t := false) (t_notN (v_nm 2 rfl)) fun z => nomatch z)) rfl
      | some o =>
        rw [ht] at t1
        obtain ⟨p, rfl, hp⟩ := tp_ref t1
        have ho := ok.tgt o ht
        exact VT.is (w_t (w_and (t_notN (v_nm 2 rfl)) fun _ => w_and1 (t_not (t_val (vp_call h2 hr (p, z, o) (va_cons (v_nm 2 rfl) va_nil) (fun vs H3 e3 q => ⟨q, e3 _ _ (e1 _ _ hp), hz, ho.1, ho.2⟩) fun _ _ _ q => q))))) rfl
    refine wb_no (VT.is (t_gt (v_len (k := xs.length) T.len (v_nm 3 rfl) fun H' e' => .inr ⟨xs, SqT.of (e' _ _ (e2 _ _ (e1 _ _ hq))), rfl⟩) (v_int_c T.mSou)) (by simp; omega)) fun H3 e3 => ?_
    have e13 := (e1.trans e2).trans e3
    refine wb_forT (l := q) (xs := xs) (v_nm (v := .ref q) 3 rfl) (fun v H4 e4 p4 => ⟨p4, SqT.of (e4 _ _ (e13 _ _ hq))⟩) (fun n σ' H' => Ex H3 H' ∧ ∃ o, σ' = [some (.ref x), some (.str st.name), some vt, some (.ref q), o]) (fun v H4 e4 _ => ⟨e4, _, rfl⟩)
      (fun i σ' H' _ r => SqT.of (r.1 _ _ (e13 _ _ hq))) (fun i u σ' H' hu r => ?_) (fun σ' H' r => ?_)
    · obtain ⟨eH, o, rfl⟩ := r
      obtain ⟨d, hd, td⟩ := tpAll_get tx hu
      rw [List.getElem?_map] at hd
      obtain ⟨off, ho, rfl⟩ := Option.map_eq_some_iff.mp hd
      obtain ⟨p, rfl, hp⟩ := tp_ref td
      have hb := ok.srcs off (List.mem_of_getElem? ho)
      refine wg_nm 4 sc_Statement_init.nd ?_
      refine wb_no (VT.is (t_not (t_val (vp_call h2 hr (p, z, off) (va_cons (v_nm 4 rfl) va_nil) (fun vs H5 e5 q => ⟨q, e5 _ _ (eH _ _ (e13 _ _ hp)), hz, hb.1, hb.2⟩) fun _ _ _ q => q))) rfl) fun H2 e2 => wb_nil ⟨eH.trans e2, _, rfl⟩
    · obtain ⟨eH, o, rfl⟩ := r
      have e0 := e13.trans eH
      refine wb_fld T.cS T.nSn (v_nm 1 rfl) (v_nm 0 rfl) (e0 _ _ hx) (by decide) fun v H4 e4 p4 H5 e5 => ?_
      subst p4
      refine wb_fld T.cS T.nSt (v_nm (v := vt) 2 rfl) (v_nm 0 rfl) upd_same (by show 1 < 1000; decide) fun v H6 e6 p6 H7 e7 => ?_
      obtain rfl : vt = v := p6.symm
      have b5 : ExB x H _ := (((exb_upd ((e0.trans e4).trans e5)).ex (e6.trans e7)).upd (u := .ins CS dx (putF "kept_target" vt (putF "kept_name" (.str st.name) []))))
      have hxq : q ≠ x := fun e => by rw [e, hx] at hq; cases hq
      refine wb_fld T.cS T.nSs (vp_ty (P := fun v _ => v = .ref q) call_tuple_of T.tuple boot_tuple (va_cons (v_nm 3 rfl) va_nil) (fun vs H8 e8 p8 Q k8 => ?_)) (v_nm 0 rfl) upd_same (by show 2 < 1000; decide) fun v H8 e8 p8 H9 e9 => ?_
      · subst p8
        exact ⟨q, xs, rfl, .inr ⟨SqT.of (e8 _ _ (b5 _ _ hxq hq)), k8 _ H8 (Ex.refl _) rfl⟩⟩
      · subst p8
        have b9 : ExB x H _ := ((b5.ex (e8.trans e9)).upd (u := .ins CS dx (fsS st.name vt (.ref q))))
        have nt : ∀ xs, H x ≠ some (.tup xs) := fun ys e => by rw [hx] at e; cases e
        exact wb_nil (k _ _ b9 upd_same ⟨vt, .ref q, rfl, tp_exb nt b9 t1, tp_exb nt b9 t2⟩)
end
end Vw
end
section
/-! Statement: getters, refs. -/
namespace Vw
open PySem PySem.Spec PyProof.Rows L2 Evl
def refsD (z : Str) (s : Stm) : List PyData := s.srcs.map (refD z) ++ (match s.tgt with
  | none => []
  | some o => [refD z o])
section
variable {P : Program} {w : World} {K : PySem.W.Frag} {mg : Str → Option Value} {base : Heap} {CL CS CO CV CW : Addr}
theorem ok_Stm_name {f : Addr} {fd : FuncData} (F : Fd K "name" "Statement.name" s_Statement_name [] [] f fd) (T : Txt K mg CL CS CO CV CW) : FnOk P w K mg base CX0 1 f fd ["self"] (spGetV CS "kept_name") := ok_get F sc_Statement_name rfl T.cS T.nSn
theorem ok_Stm_target {f : Addr} {fd : FuncData} (F : Fd K "target" "Statement.target" s_Statement_target [] [] f fd) (T : Txt K mg CL CS CO CV CW) : FnOk P w K mg base CX0 1 f fd ["self"] (spGetV CS "kept_target") := ok_get F sc_Statement_target rfl T.cS T.nSt
theorem ok_Stm_sources {f : Addr} {fd : FuncData} (F : Fd K "sources" "Statement.sources" s_Statement_sources [] [] f fd) (T : Txt K mg CL CS CO CV CW) : FnOk P w K mg base CX0 1 f fd ["self"] (spGetV CS "kept_sources") := ok_get F sc_Statement_sources rfl T.cS T.nSs
abbrev spRefs (CS : Addr) : Sp := PuSp (fun (g : Addr × Str × Stm) vs H => vs = [.ref g.1] ∧ StmAt CS H g.1 g.2.1 g.2.2 ∧ g.2.2.srcs.length ≤ 3) fun g v H' => ∃ q xs, v = .ref q ∧ H' q = some (.lst xs) ∧ TpAll H' xs (refsD g.2.1 g.2.2)
theorem ok_Stm_refs {f : Addr} {fd : FuncData} (F : Fd K "refs" "Statement.refs" s_Statement_refs [] [] f fd) (T : Txt K mg CL CS CO CV CW) : FnOk P w K mg base CX0 1 f fd ["self"] (spRefs CS) := by
  refine F.ok sc_Statement_refs (fun vs H Q E h => ?_) (fun cdv A outer s H vs Q E hr h => ?_)
  · obtain ⟨g, ⟨rfl, _⟩, _⟩ := h
    rfl
  · obtain ⟨⟨a, z, st⟩, ⟨rfl, ⟨dx, vt, vs, ha, t1, t2⟩, hf⟩, k⟩ := h
    dsimp only at ha t1 t2 hf k
    obtain ⟨q, xs, rfl, hq, tx⟩ := tp_tup t2
    have hlen : xs.length ≤ 3 := by rw [tx.length, List.length_map]; exact hf
    refine wb_set 1 sc_Statement_refs.nd (vp_ty (P := fun v H' => ∃ l, v = .ref l ∧ H l = none ∧ H' l = some (.lst xs)) call_list_of T.list boot_list (va_cons (v_fld T.cS T.nSs (v_nm 0 rfl) ha (fsS_sources _ _ _)) va_nil) (fun vs H1 e1 p1 Q k1 => ?_)) fun v H1 e1 p1 => ?_
    · subst p1
      exact ⟨q, xs, rfl, .inr (SqT.of (e1 _ _ hq)), fun l hl => k1 _ _ (Ex.new hl) ⟨l, rfl, fresh_back e1 hl, upd_same⟩⟩
    · obtain ⟨l, rfl, hl0, hl⟩ := p1
      have ha1 := e1 _ _ ha
      refine wb_if (t_notN (v_fld T.cS T.nSt (v_nm 0 rfl) ha1 (fsS_target _ _ _))) (fun ht H2 e2 => ?_) (fun ht H2 e2 => ?_)
      · refine wb_app (xs := xs) (e2 _ _ hl) (v_nm (v := .ref l) 1 rfl) (v_fld T.cS T.nSt (v_nm 0 rfl) (e2 _ _ ha1) (fsS_target _ _ _)) (by omega) fun v H3 e3 p3 => wb_nil ?_
        subst p3
        have e13 := (e1.trans e2).trans e3
        refine wb_ret (v_nm (v := .ref l) 1 rfl) fun v H4 e4 p4 => k v H4 ((e13.mut hl0).trans e4) ?_
        subst p4
        have ks : Kt H3 (upd H3 l (.lst (xs ++ [v]))) := kt_lst (e3 _ _ (e2 _ _ hl))
        refine ⟨l, xs ++ [v], rfl, e4 _ _ upd_same, ?_⟩
        have tt : ∃ o, st.tgt = some o := by
          cases hh : st.tgt with
          | none =>
            rw [hh] at t1
            cases t1
            simp at ht
          | some o => exact ⟨o, rfl⟩
        obtain ⟨o, ho⟩ := tt
        unfold refsD
        rw [ho] at t1 ⊢
        exact ((((tx.ex e13).kt ks).ex e4).append (.cons (((t1.ex e13).kt ks).ex e4) .nil))
      · refine wb_nil ?_
        refine wb_ret (v_nm (v := .ref l) 1 rfl) fun v H4 e4 p4 => k v H4 ((e1.trans e2).trans e4) ?_
        subst p4
        refine ⟨l, xs, rfl, e4 _ _ (e2 _ _ hl), ?_⟩
        have tt : st.tgt = none := by
          cases hh : st.tgt with
          | none => rfl
          | some o =>
            rw [hh] at t1
            obtain ⟨p, rfl, _⟩ := tp_ref t1
            simp at ht
        unfold refsD
        rw [tt, List.append_nil]
        exact tx.ex ((e1.trans e2).trans e4)
end
end Vw
end
section
/-! The class Loop: the checks. -/
namespace Vw
open PySem PySem.Spec PyProof.Rows L2 Evl
section
variable {X : Cx} {σ : L2.St} {H H' : Hp} {a b e iter tg : Expr} {v x y : V} {P : VPd} {pos p : Pos}
/-- a list or a tuple, read -/
def SqA (H : Hp) (l : Addr) (xs : List V) : Prop := H l = some (.lst xs) ∨ H l = some (.tup xs)
theorem SqA.ex {l : Addr} {xs : List V} (h : SqA H l xs) (e : Ex H H') : SqA H' l xs := by
  rcases h with h | h
  · exact .inl (e _ _ h)
  · exact .inr (e _ _ h)
theorem vi_A {n : Nat} {Y : Nat → VPd} {l : Addr} {xs : List V} (h : VE X σ H iter (.ref l)) (hx : SqA H l xs) (hl : xs.length = n) (hY : ∀ i x H', Ex H H' → xs[i]? = some x → Y i x H') (m : ∀ i, Mono (Y i)) : VI X σ H tg iter n Y := by
  rcases hx with hx | hx
  · exact vi_L m (h.imp fun v H1 e1 q => ⟨l, xs, q, sq_of (e1 _ _ hx), hl, fun i x hi => hY i x H1 e1 hi⟩)
  · exact vi_T m (h.imp fun v H1 e1 q => ⟨l, xs, q, st_of (e1 _ _ hx), hl, fun i x hi => hY i x H1 e1 hi⟩)
theorem kitAny_nil {K : PySem.W.Frag} {t : Value} : PySem.W.kitAny K t [] = some false := rfl
/-- isinstance(x, (list, tuple)) -/
theorem v_isiLT {l : Addr} {xs : List V} {p1 p2 p3 tp : Pos} {kk : Nat} (hm : X.mg "isinstance" = none) (hL : X.mg "list" = none) (hT : X.mg "tuple" = none) (ha : VE X σ H a (.ref l)) (hx : SqA H l xs) (hg : Gl X "isinstance" := by rfl) (g1 : Gl X "list" := by rfl) (g2 : Gl X "tuple" := by rfl)
    (h1 : starEach [a, .Tuple [.Name "list" p1, .Name "tuple" p2] kk tp] X.env = (false, eval a X.env) :: starEach [.Tuple [.Name "list" p1, .Name "tuple" p2] kk tp] X.env := by rfl)
    (h2 : starEach [.Tuple [.Name "list" p1, .Name "tuple" p2] kk tp] X.env = (false, eval (.Tuple [.Name "list" p1, .Name "tuple" p2] kk tp) X.env) :: starEach [] X.env := by rfl)
    (h3 : starEach [.Name "list" p1, .Name "tuple" p2] X.env = (false, eval (.Name "list" p1) X.env) :: starEach [.Name "tuple" p2] X.env := by rfl) (h4 : starEach [.Name "tuple" p2] X.env = (false, eval (.Name "tuple" p2) X.env) :: starEach [] X.env := by rfl)
    (hpl : (backTo pos (starEach [.Tuple [.Name "list" p1, .Name "tuple" p2] kk tp] X.env)).any (·.1) = false := by rfl) : VE X σ H (.Call (.Name "isinstance" p3) [a, .Tuple [.Name "list" p1, .Name "tuple" p2] kk tp] [] pos) (.bl true) :=
  have tup : VP X σ H (.Tuple [.Name "list" p1, .Name "tuple" p2] kk tp) fun v H' => ∃ p, v = .ref p ∧ H' p = some (.tup [.ty "list", .ty "tuple"]) :=
    (v_tup (va_cons (v_ev (pe_bltn (v := .ty "list") g1 hL boot_list rfl) ev_c) (va_cons (v_ev (pe_bltn (v := .ty "tuple") g2 hT boot_tuple rfl) ev_c) va_nil h4) h3) (by simp)).imp fun v H1 e1 ⟨p, a, b, c⟩ => ⟨p, a, c⟩
  vp_bi call_isiT hm PyProof.Rows.boot_isinstance (vap_cons ha (fun _ _ _ _ q => q) (fun v H1 e1 q => vap_cons (tup.mono e1) (fun _ _ _ e ⟨p, a, c⟩ => ⟨p, a, e _ _ c⟩) (fun _ _ _ _ => vap_nil) h2) h1) (fun vs H1 e1 q Q k1 => by
    obtain ⟨v1, r1, rfl, rfl, v2, r2, rfl, ⟨t, rfl, ht⟩, rfl⟩ := q
    have fin := k1 (.bl true) H1 (Ex.refl _) rfl
    rcases hx with hx | hx
    · exact ⟨.ref l, t, _, .type "list", [.type "list", .type "tuple"], true, rfl, ht, .cons (.ty _) (.cons (.ty _) .nil), .base (.lst (e1 _ _ hx)), kitAny_cons (kit_ty (by decide +kernel : kitB "list" "list" = some true)) (fun z => nomatch z) (fun _ => rfl), fin⟩
    · exact ⟨.ref l, t, _, .type "tuple", [.type "list", .type "tuple"], true, rfl, ht, .cons (.ty _) (.cons (.ty _) .nil), .base (.tup (e1 _ _ hx)), kitAny_cons (kit_ty (by decide +kernel : kitB "tuple" "list" = some false)) (fun _ => kitAny_cons (kit_ty (by decide +kernel : kitB "tuple" "tuple" = some true)) (fun z => nomatch z) (fun _ => rfl)) (fun z => nomatch z), fin⟩) hg (by decide) (by decide) h1 hpl
theorem lenA {K : PySem.W.Frag} {l : Addr} {xs : List V} (h : SqA H l xs) : LenV K (.ref l) H xs.length := by
  rcases h with h | h
  · exact .inl ⟨xs, sq_of h, rfl⟩
  · exact .inr ⟨xs, st_of h, rfl⟩
/-- a comprehension's list whose items are known -/
theorem outs_all {f : Nat → V} {n : Nat} {ys : List V} (o : Outs (fun _ => true) (fun i v _ => v = f i) n ys H) : ys = (List.range n).map f := by
  have key : ∀ (ks : List Nat) (ys : List V), Paired (fun (i : Nat) (y : V) => y = f i) ks ys → ys = ks.map f := by
    intro ks
    induction ks with
    | nil => intro ys h; cases h; rfl
    | cons k ks ih =>
      intro ys h
      cases h with
      | cons r t => rw [List.map_cons, r, ← ih _ t]
  have z := key _ _ o
  rw [List.filter_eq_self.mpr (fun _ _ => rfl)] at z
  exact z
end
section
variable {P : Program} {w : World} {K : PySem.W.Frag} {mg : Str → Option Value} {base : Heap} {CL CS CO CV CW : Addr}
/-- the one line of a loop, in a list or a tuple -/
abbrev spAreLines (CL : Addr) : Sp := PuSp (fun (g : Addr × Addr × Str × Int) vs H => vs = [.ref g.1] ∧ SqA H g.1 [.ref g.2.1] ∧ LineAt CL H g.2.1 g.2.2.1 g.2.2.2) fun _ v _ => v = .bl true
theorem ok_are_lines {f : Addr} {fd : FuncData} (F : Fd K "are_lines" "are_lines" s_are_lines [] [] f fd) (T : Txt K mg CL CS CO CV CW) (h1 : Has P w K mg base "are_unlike" 1 ["values"] (spUnlike (K := K))) (g1 : HasG P w K mg base CL "name" 1 (spGetV CL "kept_name")) :
    FnOk P w K mg base CX0 3 f fd ["value"] (spAreLines CL) := by
  refine F.ok sc_are_lines (fun vs H Q E h => ?_) (fun cdv A outer s H vs Q E hr h => ?_)
  · obtain ⟨g, ⟨rfl, _⟩, _⟩ := h
    rfl
  · obtain ⟨⟨l, a, z, st⟩, ⟨rfl, hx, dx, ha⟩, k⟩ := h
    dsimp only at hx ha k
    refine wb_no (VT.is (w_t (w_or (t_not (t_val (v_isiLT T.isi T.list T.tuple (v_nm (v := .ref l) 0 rfl) hx))) fun _ =>
      w_or1 (t_not (t_chain op_le op_le v_int (v_len (k := 1) T.len (v_nm (v := .ref l) 0 rfl) fun H' e' => lenA (hx.ex e')) (v_int_c T.mLin) rv_I0 rv_I0)))) (by simp)) fun H1 e1 => ?_
    have hx1 := hx.ex e1
    have ha1 := e1 _ _ ha
    refine wb_ret ?_ fun v H2 e2 q => k v H2 (e1.trans e2) q
    refine VE.is (v_and (s := true) (v_all T.all (vp_lc [("line", 1)] sc_are_lines.nd (blkOk_by (N := n_are_lines) (sc := defScope s_are_lines) (by decide +kernel)) (fun i => imm_eq) (vi_A (n := 1) (Y := fun _ v _ => v = .ref a) (v_nm (v := .ref l) 0 rfl) hx1 rfl (fun i x H' e' hi => ?_) (fun i => mono_eq)) (by decide) (keep := fun _ => true) fun i x H2 hi e2 hx => ?_)) fun _ => ?_) rfl
    · match i, hi with
      | 0, hi => exact (Option.some.inj hi).symm
    · subst hx
      refine turn_nm 1 sc_are_lines.nd rfl rfl rfl (fun s H0 C cl fp => ts_nil) fun _ s H0 C cl fp => ?_
      exact v_isiC T.isi T.gL T.cL T.iL (v_nm 1 rfl) ⟨a, dx, _, rfl, e2 _ _ ha1⟩
    · refine v_one (vp_callD h1 (hr.mono (by decide)) (vap_cons (vp_lc [("line", 1)] sc_are_lines.nd (blkOk_by (N := n_are_lines) (sc := defScope s_are_lines) (by decide +kernel)) (fun i => imm_eq) (vi_A (n := 1) (Y := fun _ v _ => v = .ref a) (v_nm (v := .ref l) 0 rfl) hx1 rfl (fun i x H' e' hi => ?_) (fun i => mono_eq)) (by decide) (keep := fun _ => true) (P0 := fun _ v _ => v = .str z) fun i x H2 hi e2 hx => ?_) (mono_newL fun i => mono_eq) fun _ _ _ _ => vap_nil) fun vs H2 e2 q => ?_)
      · match i, hi with
        | 0, hi => exact (Option.some.inj hi).symm
      · subst hx
        refine turn_nm 1 sc_are_lines.nd rfl rfl rfl (fun s H0 C cl fp => ts_nil) fun _ s H0 C cl fp => ?_
        exact vp_prop g1 T.cL (hr.mono (by decide)) (v_nm 1 rfl) (e2 _ _ ha1) (a, dx, _, .str z) (fun H3 e3 => ⟨rfl, e3 _ _ (e2 _ _ ha1), fsL_name z st⟩) fun _ _ _ q => q
      · obtain ⟨v1, r, rfl, ⟨q, ys, rfl, _, hq, ho⟩, rfl⟩ := q
        have ey := outs_all ho
        exact ⟨(q, [z]), ⟨rfl, sq_of (by rw [hq, ey]; rfl), by simp, by simp⟩, fun _ _ _ q => q⟩
end
end Vw
end
section
/-! are_statements; dict comprehensions. -/
namespace Vw
open PySem PySem.Spec PyProof.Rows L2 Evl
/-- the statements ss stand at sa -/
def StmsAt (C : Addr) (H : Hp) (z : Str) (ss : List Stm) (sa : List Addr) : Prop := Paired (fun (s : Stm) (a : Addr) => StmAt C H a z s) ss sa
theorem StmsAt.kl {C : Addr} {H H' : Hp} {z : Str} {ss : List Stm} {sa : List Addr} (h : StmsAt C H z ss sa) (k : KL H H') : StmsAt C H' z ss sa := Paired.mapP h fun s a q => q.kl k
theorem StmsAt.ex {C : Addr} {H H' : Hp} {z : Str} {ss : List Stm} {sa : List Addr} (h : StmsAt C H z ss sa) (k : Ex H H') : StmsAt C H' z ss sa := h.kl (kl_ex k)
theorem StmsAt.len {C : Addr} {H : Hp} {z : Str} {ss : List Stm} {sa : List Addr} (h : StmsAt C H z ss sa) : sa.length = ss.length := (Paired.length h).symm
theorem paired_get {α β : Type} {F : α → β → Prop} : ∀ {l : List α} {r : List β} {i : Nat} {b : β}, Paired F l r → r[i]? = some b → ∃ a, l[i]? = some a ∧ F a b
  | _, _, i, b, .nil, e => by cases e
  | _, _, 0, b, .cons q t, e => by
    have e' := Option.some.inj e
    subst e'
    exact ⟨_, rfl, q⟩
  | _, _, i + 1, b, .cons q t, e => paired_get (i := i) t e
theorem paired_get1 {α β : Type} {F : α → β → Prop} : ∀ {l : List α} {r : List β} {i : Nat} {a : α}, Paired F l r → l[i]? = some a → ∃ b, r[i]? = some b ∧ F a b
  | _, _, i, b, .nil, e => by cases e
  | _, _, 0, b, .cons q t, e => by
    have e' := Option.some.inj e
    subst e'
    exact ⟨_, rfl, q⟩
  | _, _, i + 1, b, .cons q t, e => paired_get1 (i := i) t e
section
variable {P : Program} {w : World} {K : PySem.W.Frag} {mg : Str → Option Value} {base : Heap} {CL CS CO CV CW : Addr}
abbrev spAreStms (CS : Addr) : Sp := PuSp (fun (g : Addr × List Addr × Str × List Stm) vs H => vs = [.ref g.1] ∧ H g.1 = some (.tup (g.2.1.map V.ref)) ∧ StmsAt CS H g.2.2.1 g.2.2.2 g.2.1 ∧ (g.2.2.2.map Stm.name).Nodup ∧ 1 ≤ g.2.2.2.length ∧ g.2.2.2.length ≤ 5) fun _ v _ => v = .bl true
theorem ok_are_statements {f : Addr} {fd : FuncData} (F : Fd K "are_statements" "are_statements" s_are_statements [] [] f fd) (T : Txt K mg CL CS CO CV CW) (h1 : Has P w K mg base "are_unlike" 1 ["values"] (spUnlike (K := K))) (g1 : HasG P w K mg base CS "name" 1 (spGetV CS "kept_name")) :
    FnOk P w K mg base CX0 3 f fd ["value"] (spAreStms CS) := by
  refine F.ok sc_are_statements (fun vs H Q E h => ?_) (fun cdv A outer s H vs Q E hr h => ?_)
  · obtain ⟨g, ⟨rfl, _⟩, _⟩ := h
    rfl
  · obtain ⟨⟨l, sa, z, ss⟩, ⟨rfl, hx, hs, hn, h1', h5⟩, k⟩ := h
    dsimp only at hx hs hn h1' h5 k
    have hlen : (sa.map V.ref).length = ss.length := by rw [List.length_map, hs.len]
    have src : ∀ {H1 : Hp}, Ex H H1 → ∀ i x, (sa.map V.ref)[i]? = some x → ∃ (a : Addr) (s : Stm), ss[i]? = some s ∧ x = V.ref a ∧ StmAt CS H1 a z s := fun {H1} e i x hi => by
      rw [List.getElem?_map] at hi
      obtain ⟨a, ha, rfl⟩ := Option.map_eq_some_iff.mp hi
      obtain ⟨s, q1, q2⟩ := paired_get hs ha
      exact ⟨a, s, q1, rfl, q2.ex e⟩
    have mY : ∀ i : Nat, Mono (fun x H1 => ∃ (a : Addr) (s : Stm), ss[i]? = some s ∧ x = V.ref a ∧ StmAt CS H1 a z s) := fun i v H1 H2 e ⟨a, s, q1, q2, q3⟩ => ⟨a, s, q1, q2, q3.ex e⟩
    refine wb_no (VT.is (w_t (w_or (s := false) (VT.is (t_not (t_chain op_le op_le v_int (v_len (k := ss.length) T.len (v_nm (v := .ref l) 0 rfl) fun H' e' => .inr ⟨_, SqT.of (e' _ _ hx), hlen.symm⟩) (v_int_c T.mSta) rv_I0 rv_I0)) (by simp; omega)) fun _ =>
      w_or1 (t_not (t_val (v_all T.all (vp_lc [("one", 1)] sc_are_statements.nd (blkOk_by (N := n_are_statements) (sc := defScope s_are_statements) (by decide +kernel)) (fun i => imm_eq) (vi_T (n := ss.length) mY ((v_nm (v := .ref l) 0 rfl).imp fun v H1 e1 q => ⟨l, _, q, SqT.of (e1 _ _ hx), hlen, src e1⟩)) (by omega) (keep := fun _ => true) fun i x H2 hi e2 hx2 => ?_)))))) rfl) fun H1 e1 => ?_
    · obtain ⟨a, s, _, rfl, dx, vt, vs, ha, _⟩ := hx2
      refine turn_nm 1 sc_are_statements.nd rfl rfl rfl (fun s H0 C cl fp => ts_nil) fun _ s H0 C cl fp => ?_
      exact v_isiC T.isi T.gS T.cS T.iS (v_nm 1 rfl) ⟨a, dx, _, rfl, ha⟩
    · refine wb_ret ?_ fun v H2 e2 q => k v H2 (e1.trans e2) q
      refine vp_callD h1 (hr.mono (by decide)) (vap_cons (vp_lc [("one", 1)] sc_are_statements.nd (blkOk_by (N := n_are_statements) (sc := defScope s_are_statements) (by decide +kernel)) (fun i => imm_eq) (vi_T (n := ss.length) mY ((v_nm (v := .ref l) 0 rfl).imp fun v H1 e2 q => ⟨l, _, q, SqT.of (e2 _ _ (e1 _ _ hx)), hlen, src (e1.trans e2)⟩)) (by omega) (keep := fun _ => true) (P0 := fun i v _ => v = .str ((ss.map Stm.name).getD i Str.empty)) fun i x H2 hi e2 hx2 => ?_) (mono_newL fun i => mono_eq) fun _ _ _ _ => vap_nil) fun vs H2 e2 q => ?_
      · obtain ⟨a, s, hs2, rfl, dx, vt, vs, ha, _⟩ := hx2
        refine turn_nm 1 sc_are_statements.nd rfl rfl rfl (fun s H0 C cl fp => ts_nil) fun _ s0 H0 C cl fp => ?_
        refine vp_prop g1 T.cS (hr.mono (by decide)) (v_nm 1 rfl) ha (a, dx, _, .str s.name) (fun H3 e3 => ⟨rfl, e3 _ _ ha, fsS_name _ _ _⟩) fun v H3 e3 q => ?_
        have e : (ss.map Stm.name).getD i Str.empty = s.name := by rw [List.getD_eq_getElem?_getD, List.getElem?_map, hs2]; rfl
        rw [e]
        exact q
      · obtain ⟨v1, r, rfl, ⟨q, ys, rfl, _, hq, ho⟩, rfl⟩ := q
        have ey := outs_all ho
        have en : (List.range ss.length).map (fun i => V.str ((ss.map Stm.name).getD i Str.empty)) = (ss.map Stm.name).map V.str := by
          apply List.ext_getElem
          · simp
          · intro i h1 h2
            simp only [List.length_map, List.length_range] at h1
            simp [List.getD_eq_getElem?_getD, h1]
        exact ⟨(q, ss.map Stm.name), ⟨rfl, sq_of (by rw [hq, ey, en]), hn, by simp; omega⟩, fun _ _ _ q => q⟩
end
/-! ### dict comprehensions with keys that differ -/
section
variable {X : Cx} {σ : L2.St} {H H' : Hp} {kx vx tg iter : Expr} {x : V} {scope : Scope} {n : Nat} {Y : Nat → VPd} {ks : Nat → Key} {pos p : Pos}
/-- a turn: the target, then key and value -/
def TurnsD (X : Cx) (scope : Scope) (tg kx vx : Expr) (vs : List Nat) (σ : L2.St) (H : Hp) (x : V) (k : Key) (z : V) : Prop :=
  ∀ Q : L2.St → Hp → Prop, (∀ σ2 H2, Ex H H2 → wipe σ2 vs = wipe σ vs → (Blk X scope fun X' => VE X' σ2 H2 kx (kV k)) → (Blk X scope fun X' => VE X' σ2 H2 vx z) → Q σ2 H2) → BG X scope tg x (wipe σ vs) H Q
theorem putK_new {kvs : List (Key × V)} {k : Key} {z : V} (h : k ∉ kvs.map (·.1)) : putK kvs k z = kvs ++ [(k, z)] := by
  unfold putK
  rw [if_neg]
  intro e
  obtain ⟨kv, h1, h2⟩ := List.any_eq_true.mp e
  exact h (List.mem_map.mpr ⟨kv, h1, of_decide_eq_true h2⟩)
theorem vp_dc {f : Nat → V} (own : List (Str × Nat)) (hN : X.N.Nodup) (ok : BlkOk X.N X.env.scope scope own) (hi : VI X σ H tg iter n Y) (hz : n ≤ 100000) (hk : ∀ i j, i < j → j < n → ks i ≠ ks j)
    (step : ∀ i x H2, i < n → Ex H H2 → Y i x H2 → TurnsD X scope tg kx vx (own.map (·.2)) σ H2 x (ks i) (f i)) (hc : X.calm = true := by rfl) (hs : ∀ x, foldedSetIterable iter X.env x = pure x := by intro _; rfl) :
    VP X σ H (.DictComp kx vx [⟨tg, iter, [], 0⟩] scope pos) fun v H' => ∃ q, v = .ref q ∧ H q = none ∧ H' q = some (.dK ((List.range n).map fun i => (ks i, f i))) := fun H1 e1 Q q =>
  toE (pe_dc (g := BG X scope tg) (tt := tYes) (tk := BE X scope kx) (tv := BE X scope vx) hc hN wi_pi ok (fun s H0 C cl fp => ⟨fun pins s' σ' H' v u Q I r h => h s H0 C cl fp pins s' u I r⟩) (fun s H0 C cl fp => pts_nil) (fun s H0 C cl fp => ⟨fun pins s' σ' H' Q I h => h s H0 C cl fp pins s' I⟩) (fun s H0 C cl fp => ⟨fun pins s' σ' H' Q I h => h s H0 C cl fp pins s' I⟩) hs) (by
    refine hi H1 e1 _ fun J H2 e2 S D hD => ?_
    have hDH : H D = none := fresh_back (e1.trans e2) hD
    refine ⟨fun i k H' => k = n - i ∧ i ≤ n ∧ Ex H2 H' ∧ H' D = some (.dK ((List.range i).map fun i => (ks i, f i))), ⟨n, by omega, Nat.zero_le _, Ex.new hD, upd_same⟩, ?_⟩
    rintro i k H' ⟨rfl, hin, e3, hd⟩
    by_cases hlt : i < n
    · refine .inr ⟨S.go i H' hlt e3, fun H4 => i + 1 ≤ n ∧ Ex H2 H4 ∧ H4 D = some (.dK ((List.range (i + 1)).map fun i => (ks i, f i))), fun H4 ⟨a, b⟩ => ⟨n - (i + 1), by omega, rfl, a, b⟩, fun x H4 y => ?_⟩
      obtain ⟨e4, y4⟩ := S.yld i H' x H4 hlt e3 y
      refine step i x H4 hlt (((e1.trans e2).trans e3).trans e4) y4 _ fun σ2 H5 e5 w hkey hval => ⟨w, ?_⟩
      show BE X scope kx σ2 H5 _
      intro s1 H01 C1 cl1 fp1
      refine hkey s1 H01 C1 cl1 fp1 H5 (Ex.refl _) _ fun u H6 e6 p6 => ?_
      subst p6
      intro s2 H02 C2 cl2 fp2
      refine hval s2 H02 C2 cl2 fp2 H6 e6 _ fun z H7 e7 p7 => ?_
      subst p7
      have e47 := ((e4.trans e5).trans e6).trans e7
      refine ⟨_, ks i, rfl, e47 D _ hd, sz_lt (by simp; omega), hlt, (e3.trans e47).mut hD, ?_⟩
      rw [putK_new, List.range_succ, List.map_append]
      · exact upd_same
      · intro hm
        rw [List.map_map] at hm
        obtain ⟨j, hj, ej⟩ := List.mem_map.mp hm
        exact hk j i (List.mem_range.mp hj) hlt ej
    · have e : i = n := by omega
      subst e
      exact .inl ⟨S.stop H' e3, q _ _ (e2.trans e3) ⟨D, rfl, hDH, hd⟩⟩)
theorem turnD_nm (j : Nat) {nm : Str} {vs : List Nat} {k : Key} {z : V} (hN : X.N.Nodup) (hi : X.N[j]? = some nm) (hw : wipe ((wipe σ vs).set j (some x)) vs = wipe σ vs) (hx : (relabel scope X.env).names.lookup nm = some .local)
    (h1 : Blk X scope fun X' => VE X' ((wipe σ vs).set j (some x)) H kx (kV k)) (h2 : Blk X scope fun X' => VE X' ((wipe σ vs).set j (some x)) H vx z) : TurnsD X scope (.Name nm p) kx vx vs σ H x k z := fun Q q s H0 C cl fp =>
  toG (X := X.blk s H0 scope (compEnvC scope cl C X.env) fp) (pg_name hN hi (.inl hx) (.inr hx)) (q _ _ (Ex.refl H) hw h1 h2)
theorem turnD_two (j1 j2 : Nat) {n1 n2 : Str} {p1 p2 : Pos} {kk : Nat} {vs : List Nat} {k : Key} {z : V} {l : Addr} {x1 x2 : V} (hc : X.calm = true) (hN : X.N.Nodup) (h1 : X.N[j1]? = some n1) (h2 : X.N[j2]? = some n2) (hl : SqT X.K H l [x1, x2])
    (hw : wipe (((wipe σ vs).set j1 (some x1)).set j2 (some x2)) vs = wipe σ vs) (l1 : (relabel scope X.env).names.lookup n1 = some .local) (l2 : (relabel scope X.env).names.lookup n2 = some .local)
    (g1 : Blk X scope fun X' => VE X' (((wipe σ vs).set j1 (some x1)).set j2 (some x2)) H kx (kV k)) (g2 : Blk X scope fun X' => VE X' (((wipe σ vs).set j1 (some x1)).set j2 (some x2)) H vx z) : TurnsD X scope (.Tuple [.Name n1 p1, .Name n2 p2] kk p) kx vx vs σ H (.ref l) k z := fun Q q s H0 C cl fp =>
  toG (X := X.blk s H0 scope (compEnvC scope cl C X.env) fp) (pg_tup hc (pgs_cons (pg_name hN h1 (.inl l1) (.inr l1)) (pgs_cons (pg_name hN h2 (.inl l2) (.inr l2)) pgs_nil))) ⟨l, _, rfl, hl, rfl, _, _, rfl, _, _, rfl, rfl, q _ _ (Ex.refl H) hw g1 g2⟩
end
end Vw
end
section
/-! Loop.__init__ -/
namespace Vw
open PySem PySem.Spec PyProof.Rows L2 Evl
/-- a loop over one line -/
structure LoopD where
  z : Str
  st : Int
  ss : List Stm
structure LoopOk (L : LoopD) : Prop where
  nm : NmOk L.z
  s1 : 1 ≤ L.st
  s6 : L.st ≤ 6
  ok : ∀ s ∈ L.ss, StmOk s
  nd : (L.ss.map Stm.name).Nodup
  l1 : 1 ≤ L.ss.length
  l5 : L.ss.length ≤ 5
def fsO (ql qs d : Addr) : List (Str × V) := putF "strides" (.ref d) (putF "kept_statements" (.ref qs) (putF "kept_lines" (.ref ql) []))
theorem fsO_lines (ql qs d : Addr) : (fsO ql qs d).lookup ("kept_lines" : Str) = some (.ref ql) := by
  unfold fsO
  rw [lookup_putF, if_neg (by decide +kernel), lookup_putF, if_neg (by decide +kernel), lookup_putF, if_pos rfl]
theorem fsO_stms (ql qs d : Addr) : (fsO ql qs d).lookup ("kept_statements" : Str) = some (.ref qs) := by
  unfold fsO
  rw [lookup_putF, if_neg (by decide +kernel), lookup_putF, if_pos rfl]
theorem fsO_strides (ql qs d : Addr) : (fsO ql qs d).lookup ("strides" : Str) = some (.ref d) := by
  unfold fsO
  rw [lookup_putF, if_pos rfl]
theorem fsO_no (ql qs d : Addr) {m : Str} (h1 : ¬ m = "strides") (h2 : ¬ m = "kept_statements") (h3 : ¬ m = "kept_lines") : (fsO ql qs d).lookup m = none := by
  unfold fsO
  rw [lookup_putF, if_neg h1, lookup_putF, if_neg h2, lookup_putF, if_neg h3]
  rfl
/-- its parts -/
structure LoopIn (CL CS : Addr) (H : Hp) (L : LoopD) (ql qs d la : Addr) (sa : List Addr) : Prop where
  ln : H ql = some (.tup [.ref la])
  la : LineAt CL H la L.z L.st
  sn : H qs = some (.tup (sa.map V.ref))
  sa : StmsAt CS H L.z L.ss sa
  dn : H d = some (.dK [(Sum.inr L.z, V.int L.st)])
theorem LoopIn.kl {CL CS : Addr} {H H' : Hp} {L : LoopD} {ql qs d la : Addr} {sa : List Addr} (h : LoopIn CL CS H L ql qs d la sa) (k : KL H H') : LoopIn CL CS H' L ql qs d la sa :=
  ⟨k _ _ h.ln (fun _ z => nomatch z), h.la.kl k, k _ _ h.sn (fun _ z => nomatch z), h.sa.kl k, k _ _ h.dn fun _ z => nomatch z⟩
def LoopAt (CL CS CO : Addr) (H : Hp) (a : Addr) (L : LoopD) : Prop := ∃ dx ql qs d la sa, H a = some (.ins CO dx (fsO ql qs d)) ∧ LoopIn CL CS H L ql qs d la sa
theorem LoopAt.kl {CL CS CO : Addr} {H H' : Hp} {a : Addr} {L : LoopD} (h : LoopAt CL CS CO H a L) (k : KL H H') : LoopAt CL CS CO H' a L :=
  let ⟨dx, ql, qs, d, la, sa, h1, h2⟩ := h
  ⟨dx, ql, qs, d, la, sa, k _ _ h1 (fun _ z => nomatch z), h2.kl k⟩
theorem LoopAt.ex {CL CS CO : Addr} {H H' : Hp} {a : Addr} {L : LoopD} (h : LoopAt CL CS CO H a L) (k : Ex H H') : LoopAt CL CS CO H' a L := h.kl (kl_ex k)
section
variable {P : Program} {w : World} {K : PySem.W.Frag} {mg : Str → Option Value} {base : Heap} {CL CS CO CV CW : Addr}
/-- an instance without fields at x: what a change there cannot hurt -/
theorem ins_ne {x C Cx dx dx2 : Addr} {H : Hp} {a : Addr} {fs : List (Str × V)} {f : Str} {v : V} (hx : H x = some (.ins Cx dx [])) (h : H a = some (.ins C dx2 fs)) (hl : fs.lookup f = some v) : a ≠ x := fun e => by
  rw [e, hx] at h
  injection h with h
  injection h with _ _ h
  rw [← h] at hl
  cases hl
theorem LineAt.exb {x C Cx dx : Addr} {H H' : Hp} {a : Addr} {z : Str} {st : Int} (hx : H x = some (.ins Cx dx [])) (h : LineAt C H a z st) (b : ExB x H H') : LineAt C H' a z st := by
  obtain ⟨d2, q⟩ := h
  exact ⟨d2, b _ _ (ins_ne hx q (fsL_name _ _)) q⟩
theorem StmAt.exb {x C Cx dx : Addr} {H H' : Hp} {a : Addr} {z : Str} {s : Stm} (hx : H x = some (.ins Cx dx [])) (h : StmAt C H a z s) (b : ExB x H H') : StmAt C H' a z s := by
  obtain ⟨d2, vt, vs, q, t1, t2⟩ := h
  have nt : ∀ xs, H x ≠ some (.tup xs) := fun ys e => by rw [hx] at e; cases e
  exact ⟨d2, vt, vs, b _ _ (ins_ne hx q (fsS_name _ _ _)) q, tp_exb nt b t1, tp_exb nt b t2⟩
abbrev preLoop (CL CS : Addr) : (LoopD × Addr × Addr × Addr × List Addr) → List V → Hp → Prop := fun g r H => r = [.ref g.2.1, .ref g.2.2.2.1] ∧ LoopOk g.1 ∧ SqA H g.2.1 [.ref g.2.2.1] ∧ LineAt CL H g.2.2.1 g.1.z g.1.st ∧ H g.2.2.2.1 = some (.tup (g.2.2.2.2.map V.ref)) ∧ StmsAt CS H g.1.z g.1.ss g.2.2.2.2
abbrev postLoop (CL CS : Addr) : (LoopD × Addr × Addr × Addr × List Addr) → List (Str × V) → Hp → Prop := fun g fs H => ∃ ql qs d la sa, fs = fsO ql qs d ∧ LoopIn CL CS H g.1 ql qs d la sa
theorem ok_Loop_init {f : Addr} {fd : FuncData} (F : Fd K "__init__" "Loop.__init__" s_Loop_init [] [] f fd) (T : Txt K mg CL CS CO CV CW) (h1 : Has P w K mg base "are_lines" 3 ["value"] (spAreLines CL)) (h2 : Has P w K mg base "are_statements" 3 ["value"] (spAreStms CS))
    (g1 : HasG P w K mg base CL "name" 1 (spGetV CL "kept_name")) (g2 : HasG P w K mg base CL "stride" 1 (spGetV CL "kept_stride")) (m1 : HasM P w K mg base CS "refs" 1 ["self"] (spRefs CS)) :
    FnR P w K mg base CX0 4 f (StSp 2 (InSp CO (preLoop CL CS) (postLoop CL CS))) := by
  refine Fd.okStar (ps := ["self", "lines"]) (pv := "statements") F sc_Loop_init (fun kV doc pm an cdv ct us rest hl => ?_) (fun cdv A outer s H vs Q E hr h => ?_)
  · exact match us, rest, hl with
    | [_, _], [], _ => rfl
    | [_, _], _ :: _, _ => rfl
  · obtain ⟨⟨L, ll, la, qs, sa⟩, x, dx, r, rfl, hx, ⟨rfl, ok, hll, hla, hqs, hsa⟩, k⟩ := h
    dsimp only at ok hll hla hqs hsa k
    obtain ⟨dl, hla'⟩ := id hla
    refine wb_no (VT.is (t_not (t_val (vp_call h1 hr (ll, la, L.z, L.st) (va_cons (v_nm 1 rfl) va_nil) (fun vs H1 e q => ⟨q, hll.ex e, hla.ex e⟩) fun _ _ _ q => q))) rfl) fun H1 e1 => ?_
    refine wb_no (VT.is (t_not (t_val (vp_call h2 hr (qs, sa, L.z, L.ss) (va_cons (v_nm 2 rfl) va_nil) (fun vs H2 e q => ⟨q, e _ _ (e1 _ _ hqs), hsa.ex (e1.trans e), ok.nd, ok.l1, ok.l5⟩) fun _ _ _ q => q))) rfl) fun H2 e2 => ?_
    have e12 := e1.trans e2
    have hll2 := hll.ex e12
    refine wb_set 3 sc_Loop_init.nd (vp_lc [("line", 5)] sc_Loop_init.nd (blkOk_by (N := n_Loop_init) (sc := defScope s_Loop_init) (by decide +kernel)) (fun i => imm_eq) (vi_A (n := 1) (Y := fun _ v _ => v = .ref la) (v_nm (v := .ref ll) 1 rfl) hll2 rfl (fun i x H' e' hi => ?_) (fun i => mono_eq)) (by decide) (keep := fun _ => true) (P0 := fun _ v _ => v = .str L.z) fun i x H3 hi e3 hx => ?_) fun v H3 e3 p3 => ?_
    · match i, hi with
      | 0, hi => exact (Option.some.inj hi).symm
    · subst hx
      refine turn_nm 5 sc_Loop_init.nd rfl rfl rfl (fun s H0 C cl fp => ts_nil) fun _ s H0 C cl fp => ?_
      have q := e3 _ _ (e12 _ _ hla')
      exact vp_prop g1 T.cL (hr.mono (by decide)) (v_nm 5 rfl) q (la, dl, _, .str L.z) (fun H4 e4 => ⟨rfl, e4 _ _ q, fsL_name _ _⟩) fun _ _ _ q => q
    · obtain ⟨nl, ys, rfl, hnl0, hnl, ho⟩ := p3
      have ey := outs_all ho
      have hnl' : H3 nl = some (.lst [.str L.z]) := by rw [hnl, ey]; rfl
      have e13 := e12.trans e3
      refine wb_forT (l := qs) (xs := sa.map V.ref) (v_nm (v := .ref qs) 2 rfl) (fun v H4 e4 p4 => ⟨p4, SqT.of (e4 _ _ (e13 _ _ hqs))⟩) (fun n σ' H' => Ex H3 H' ∧ ∃ o, σ' = [some (.ref x), some (.ref ll), some (.ref qs), some (.ref nl), o, none, none]) (fun v H4 e4 _ => ⟨e4, _, rfl⟩)
        (fun i σ' H' _ r => SqT.of (r.1 _ _ (e13 _ _ hqs))) (fun i u σ' H' hu r => ?_) (fun σ' H' r => ?_)
      · obtain ⟨eH, o, rfl⟩ := r
        rw [List.getElem?_map] at hu
        obtain ⟨a, ha, rfl⟩ := Option.map_eq_some_iff.mp hu
        obtain ⟨st, hst, hat⟩ := paired_get hsa ha
        have hok := ok.ok st (List.mem_of_getElem? hst)
        have hat2 := hat.ex (e13.trans eH)
        obtain ⟨d2, vt, vs, hi, _, _⟩ := id hat2
        refine wg_nm 4 sc_Loop_init.nd ?_
        refine wb_no (VT.is (t_not (t_val (v_all T.all (vp_lc (n := (refsD L.z st).length) (Y := fun i v H' => ∃ o : Int, Tp H' v (refD L.z o)) [("ref", 6)] sc_Loop_init.nd (blkOk_by (N := n_Loop_init) (sc := defScope s_Loop_init) (by decide +kernel)) (fun i => imm_eq)
          (vi_L (fun i v H1 H2 e ⟨o, t⟩ => ⟨o, t.ex e⟩) (vp_meth0 m1 T.cS (hr.mono (by decide)) (v_nm 4 rfl) hi (fsS_no _ _ _ (by decide +kernel) (by decide +kernel) (by decide +kernel)) (a, L.z, st) (fun H5 e5 => ⟨rfl, hat2.ex e5, hok.few⟩) fun v H5 e5 ⟨q, xs, h1, h2, h3⟩ => ⟨q, xs, h1, sq_of h2, h3.length, fun j y hj => ?_⟩)) ?_ (keep := fun _ => true) fun j y H5 hj e5 hy => ?_)))) rfl) fun H5 e5 => wb_nil ⟨eH.trans e5, _, rfl⟩
        · obtain ⟨dd, hdd, ty⟩ := tpAll_get h3 hj
          have hm := List.mem_of_getElem? hdd
          unfold refsD at hm
          rcases List.mem_append.mp hm with hm | hm
          · obtain ⟨o2, _, rfl⟩ := List.mem_map.mp hm
            exact ⟨o2, ty⟩
          · cases ht : st.tgt with
            | none => rw [ht] at hm; cases hm
            | some o2 =>
              rw [ht] at hm
              rw [List.mem_singleton.mp hm] at ty
              exact ⟨o2, ty⟩
        · have := hok.few
          unfold refsD
          rw [List.length_append, List.length_map]
          cases st.tgt <;> simp <;> omega
        · obtain ⟨o2, t⟩ := hy
          obtain ⟨pp, rfl, hp⟩ := tp_ref t
          refine turn_nm 6 sc_Loop_init.nd rfl rfl rfl (fun s H0 C cl fp => ts_nil) fun _ s H0 C cl fp => ?_
          refine VE.is (v_cmp op_in_seq (v_ixT (v_nm 6 rfl) v_int (SqT.of hp) rfl) (v_nm (v := .ref nl) 3 rfl) (z := .bl true) (fun H6 e6 Q q => ⟨nl, [.str L.z], rfl, .inl (sq_of (e6 _ _ (e5 _ _ (eH _ _ hnl')))), rfl, rfl, ?_⟩) rfl) rfl
          have z := inV_strs L.z [L.z]
          rw [decide_eq_true (List.mem_singleton.mpr rfl)] at z
          show Q (.bl (inV (V.str L.z) [V.str L.z])) H6
          rw [show inV (V.str L.z) [V.str L.z] = true from z]
          exact q H6 (Ex.refl _)
      · obtain ⟨eH, o, rfl⟩ := r
        have e0 := e13.trans eH
        have nx : ∀ {q xs}, H q = some (.tup xs) → q ≠ x := fun {q xs} hq e => by rw [e, hx] at hq; cases hq
        refine wb_fld T.cO T.nOl (P := fun v H' => ∃ ql, v = .ref ql ∧ H' ql = some (.tup [.ref la])) (vp_ty call_tuple_of T.tuple boot_tuple (va_cons (v_nm (v := .ref ll) 1 rfl) va_nil) (fun vs H4 e4 p4 Q k4 => ?_)) (v_nm 0 rfl) (e0 _ _ hx) (by decide) fun v H4 e4 p4 H5 e5 => ?_
        · subst p4
          rcases hll.ex (e0.trans e4) with q | q
          · exact ⟨ll, _, rfl, .inl ⟨sq_of q, fun l hl => k4 _ _ (Ex.new hl) ⟨l, rfl, upd_same⟩⟩⟩
          · exact ⟨ll, _, rfl, .inr ⟨st_of q, k4 _ _ (Ex.refl _) ⟨ll, rfl, q⟩⟩⟩
        · obtain ⟨ql, rfl, hql⟩ := p4
          have nql : ql ≠ x := fun e => by rw [e, e4 _ _ (e0 _ _ hx)] at hql; cases hql
          have b5 : ExB x H (upd H5 x (.ins CO dx (putF "kept_lines" (.ref ql) []))) := exb_upd ((e0.trans e4).trans e5)
          have hql5 : (upd H5 x (.ins CO dx (putF "kept_lines" (.ref ql) []))) ql = some (.tup [.ref la]) := by rw [upd_ne nql]; exact e5 _ _ hql
          refine wb_fld T.cO T.nOs (P := fun v _ => v = .ref qs) (vp_ty call_tuple_of T.tuple boot_tuple (va_cons (v_nm (v := .ref qs) 2 rfl) va_nil) (fun vs H6 e6 p6 Q k6 => ?_)) (v_nm 0 rfl) upd_same (by show 1 < 1000; decide) fun v H6 e6 p6 H7 e7 => ?_
          · subst p6
            exact ⟨qs, _, rfl, .inr ⟨SqT.of (e6 _ _ (b5 _ _ (nx hqs) hqs)), k6 _ _ (Ex.refl _) rfl⟩⟩
          · subst p6
            have b7 : ExB x H (upd H7 x (.ins CO dx (putF "kept_statements" (.ref qs) (putF "kept_lines" (.ref ql) [])))) := (b5.ex (e6.trans e7)).upd
            have hql7 : (upd H7 x (.ins CO dx (putF "kept_statements" (.ref qs) (putF "kept_lines" (.ref ql) [])))) ql = some (.tup [.ref la]) := by rw [upd_ne nql]; exact e7 _ _ (e6 _ _ hql5)
            have nll : ll ≠ x := fun e => by
              rcases hll with q | q <;> (rw [e, hx] at q; cases q)
            have hll7 : SqA (upd H7 x (.ins CO dx (putF "kept_statements" (.ref qs) (putF "kept_lines" (.ref ql) [])))) ll [.ref la] := by
              rcases hll with q | q
              · exact .inl (b7 _ _ nll q)
              · exact .inr (b7 _ _ nll q)
            obtain ⟨d7, hla7⟩ := hla.exb hx b7
            refine wb_fld T.cO T.nOr (vp_dc (n := 1) (ks := fun _ => Sum.inr L.z) (f := fun _ => .int L.st) [("line", 5)] sc_Loop_init.nd (blkOk_by (N := n_Loop_init) (sc := defScope s_Loop_init) (by decide +kernel)) (vi_A (n := 1) (Y := fun _ v _ => v = .ref la) (v_nm (v := .ref ll) 1 rfl) hll7 rfl (fun i x H' e' hi => ?_) (fun i => mono_eq)) (by decide) (fun i j h1 h2 => by omega) fun i y H8 hi e8 hy => ?_) (v_nm 0 rfl) upd_same (by show 2 < 1000; decide) fun v H8 e8 p8 H9 e9 => ?_
            · match i, hi with
              | 0, hi => exact (Option.some.inj hi).symm
            · subst hy
              have q := e8 _ _ hla7
              refine turnD_nm 5 sc_Loop_init.nd rfl rfl rfl (fun s H0 C cl fp => ?_) (fun s H0 C cl fp => ?_)
              · exact vp_prop g1 T.cL (hr.mono (by decide)) (v_nm 5 rfl) q (la, d7, _, .str L.z) (fun H4 e4 => ⟨rfl, e4 _ _ q, fsL_name _ _⟩) fun _ _ _ q => q
              · exact vp_prop g2 T.cL (hr.mono (by decide)) (v_nm 5 rfl) q (la, d7, _, .int L.st) (fun H4 e4 => ⟨rfl, e4 _ _ q, fsL_stride _ _⟩) fun _ _ _ q => q
            · obtain ⟨dd, rfl, hd0, hd⟩ := p8
              have b9 : ExB x H (upd H9 x (.ins CO dx (fsO ql qs dd))) := (b7.ex (e8.trans e9)).upd
              have ndd : dd ≠ x := fun e => by rw [e, upd_same] at hd0; cases hd0
              refine wb_nil (k _ _ b9 upd_same ⟨ql, qs, dd, la, sa, rfl, ⟨?_, hla.exb hx b9, b9 _ _ (nx hqs) hqs, Paired.mapP hsa fun s a q => q.exb hx b9, ?_⟩⟩)
              · rw [upd_ne nql]
                exact e9 _ _ (e8 _ _ hql7)
              · rw [upd_ne ndd]
                exact e9 _ _ hd
end
end Vw
end
section
/-! len(o) by an own __len__; o + y by an own __add__, y an instance of another class. -/
namespace Vw
open PySem PySem.Spec PyProof.Rows L2 Evl
/-! ### the callee, from within a built-in -/
section
variable {X : Cx} {pins : List (Addr × Obj)} {σ : L2.St} {H : Hp} {s : Shared}
theorem run_in1 {k : Nat} {f : Addr} {fd : FuncData} {ps : List Str} {sp : Sp} {Q : VK} {us : List Value} {vs : List V} (F : FnOk X.prog X.w X.K X.mg X.base CX0 k f fd ps sp) (hr : Room (k + 1) X.A) (hb : Binds X.K fd ps []) (I : Inv X pins σ H s) (r : Vals vs us) (h : sp vs H Q E0) :
    wpAny (model X.prog X.w) X.A.in1 (call (.ref f) us) (EP X pins σ Q) X.xe s := by
  have hl : (us ++ []).length = ps.length := by rw [List.append_nil, ← r.length]; exact F.len _ _ _ _ h
  have hb' : BindsTo s fd ⟨us, []⟩ (ps.zip us) := by
    have z := hb s us I.kIn hl
    rw [List.append_nil] at z
    exact z
  refine wpAny_call (codeAny_mono (F.run X.A.in1 X.stack s H ⟨us, []⟩ us vs Q E0 hr.in1 I.env0.in1 hb' r h) fun r s' hq => ?_)
  match r, hq with
  | .ok (.ret u), hq => exact I.after hq
/-- len(o) -/
def rLenO (C : Addr) (sp : Sp) : List V → Hp → VK → Prop := fun vs H Q => ∃ a dx fs, vs = [.ref a] ∧ H a = some (.ins C dx fs) ∧ sp [.ref a] H (fun v H' => ∃ n : Int, v = .int n ∧ 0 ≤ n ∧ n < 2 ^ 63 ∧ Q v H') E0
theorem call_lenO {C f : Addr} {fd : FuncData} {ps : List Str} {sp : Sp} {k : Nat} (F : FnOk X.prog X.w X.K X.mg X.base CX0 k f fd ps sp) (hb : Binds X.K fd ps []) (m : Meth X.K C "__len__" f) (hr : Room (k + 1) X.A) : CallR X (.builtin "len") (rLenO C sp) := by
  intro pins s σ H vs us Q I r h
  obtain ⟨a, dx, fs, rfl, ha, hs⟩ := h
  obtain ⟨u, rfl, ru⟩ := vals1 r
  cases ru
  obtain ⟨mA, O, _⟩ := ins_get I.hok ha
  obtain ⟨od, J, _⟩ := O.look
  obtain ⟨m0, fr⟩ := I.fr
  refine PySem.W.len_K fr I.ok.mod.kin J m.at_ m.fn (thn (run_in1 F hr hb I (us := [.ref a]) (vs := [.ref a]) (.cons rfl .nil) hs) fun v s' hv => ?_)
  obtain ⟨w, H', I', rw', n, rfl, h0, h1, q⟩ := hv
  obtain ⟨t, rfl⟩ := rw'
  exact ⟨⟨h0, h1⟩, .int n, H', I'.tok _, ⟨_, rfl⟩, q⟩
end
/-! ### + -/
/-- the class D knows nothing of + -/
structure NoAdd (K : PySem.W.Frag) (D : Addr) : Prop where
  mro : (PySem.W.clsIn K D).map (·.mro) = some [.ref D, .type "object"]
  ad : PySem.W.findIn K (.ref D) "__add__" = some none
  ra : PySem.W.findIn K (.ref D) "__radd__" = some none
  oa : PySem.W.findIn K (.type "object") "__add__" = some none
  oR : PySem.W.findIn K (.type "object") "__radd__" = some none
section
variable {prog : Program} {w : World} {M : Model} {A : Around} {E : Value → Shared → Prop} {s : Shared} {K : PySem.W.Frag} {C D f : Addr}
theorem noadd_fills {h : Heap} (X : K.In h) (n : NoAdd K D) : PySem.W.Looks M h (fillsNumberSlot (.ref D) "add") false := by
  intro A Q E s k q
  obtain ⟨cd, hc, hm⟩ := Option.map_eq_some_iff.mp n.mro
  have Lm : PySem.W.Looks M h (mroOf (.ref D)) cd.mro := (PySem.W.looks_clsIn X hc).andThen (f := fun cd => pure cd.mro) .now
  have Lm' := Lm.keeps k
  have X' : K.In s.heap := X.keeps k
  have L1 : PySem.W.Looks M s.heap (typeLookup (.ref D) (PySem.dunder "add")) none := PySem.W.looks_findIn X' n.ad
  have L2 : PySem.W.Looks M s.heap (typeLookup (.ref D) (dunderR "add")) none := PySem.W.looks_findIn X' n.ra
  have L3 : PySem.W.Looks M s.heap (typeLookup (.type "object") (PySem.dunder "add")) none := PySem.W.looks_findIn X' n.oa
  have L4 : PySem.W.Looks M s.heap (typeLookup (.type "object") (dunderR "add")) none := PySem.W.looks_findIn X' n.oR
  unfold fillsNumberSlot
  refine wpAny_bind (Lm'.here ?_)
  rw [hm]
  rw [List.anyM_cons]
  refine wpAny_bind ?_
  show wpAny M A (List.anyM _ [PySem.dunder "add", dunderR "add"]) _ _ _
  rw [List.anyM_cons]
  refine wpAny_bind (wpAny_bind (L1.here (wpAny_pure ?_)))
  rw [if_neg Bool.false_ne_true, List.anyM_cons]
  refine wpAny_bind (wpAny_bind (L2.here (wpAny_pure ?_)))
  rw [if_neg Bool.false_ne_true, List.anyM_nil]
  refine wpAny_pure ?_
  rw [if_neg Bool.false_ne_true, List.anyM_cons]
  refine wpAny_bind (wpAny_bind (L3.here (wpAny_bind (L4.here (wpAny_pure ?_)))))
  simp only [Option.isSome_none, Bool.false_and, Bool.or_false, Bool.false_eq_true, if_false]
  rw [List.anyM_nil]
  exact wpAny_pure q
theorem add_other {x y : Addr} {ox oy : Obj} {od oe : Option Obj} {Q : Value → Shared → Prop} (X : K.In s.heap) (I : PySem.W.InstAt s.heap x ox C od) (J : PySem.W.InstAt s.heap y oy D oe) (hc : PySem.W.selfFirst K C = true) (hs : PySem.W.findIn K (.ref C) "__add__" = some (some (.ref f))) (hf : PySem.W.isFn K (.ref f) = true)
    (n : NoAdd K D) (hne : C ≠ D) (h : wpAny (model prog w) A (call (.ref f) [.ref x, .ref y]) (PySem.W.CmpBack Q) E s) : wpAny (model prog w) A (binaryOp .Add (.ref x) (.ref y)) Q E s := by
  obtain ⟨cd, rest, hcd, hm⟩ := PySem.W.ksp_first hc
  have one := PySem.W.ksp_try (M := model prog w) (name := PySem.dunder "add") X I hs hf h
  obtain ⟨hh, g, d, tt, os⟩ := s
  have L1 : PySem.W.Looks (model prog w) hh (typeOf (.ref x)) (.ref C) := I.type
  have L2 : PySem.W.Looks (model prog w) hh (typeOf (.ref y)) (.ref D) := J.type
  have L3 : PySem.W.Looks (model prog w) hh (fillsNumberSlot (.ref C) "add") true := PySem.W.fills_K X hcd hm hs
  have L4 : PySem.W.Looks (model prog w) hh (fillsNumberSlot (.ref D) "add") false := noadd_fills X n
  have ne : (Value.ref C == Value.ref D) = false := beq_eq_false_iff_ne.mpr fun e => hne (Value.ref.inj e)
  have hi : Operator.info .Add = ("+", "add") := rfl
  simp only [binaryOp, hi]
  refine wpAny_holding (wpAny_bind ?_)
  unfold binaryOp1
  refine wpAny_bind (L1.at (wpAny_bind (L2.at (wpAny_bind (L3.at ?_)))))
  simp only [ne, Bool.false_eq_true, if_false]
  ksp_lk
  refine wpAny_mono one (fun r s' hr => ?_) fun _ _ e => e
  obtain ⟨v, rfl, hq⟩ := hr
  ksp_lk
  exact hq
end
section
variable {X : Cx} {σ : L2.St} {H : Hp} {a b : Expr} {pos p : Pos}
theorem cmpBack_of {pins : List (Addr × Obj)} {Q : VK} {u : Value} {s' : Shared} (h : EP X pins σ Q u s') : PySem.W.CmpBack (EP X pins σ Q) u s' := by
  obtain ⟨v, H', I, r, q⟩ := h
  have z : EP X pins σ Q u s' := ⟨v, H', I, r, q⟩
  cases v with
  | non => cases r; exact z
  | bl _ => cases r; exact z
  | int _ => obtain ⟨t, rfl⟩ := r; exact z
  | str _ => obtain ⟨t, rfl⟩ := r; exact z
  | byt _ => obtain ⟨t, rfl⟩ := r; exact z
  | flt _ => obtain ⟨t, rfl⟩ := r; exact z
  | ref _ => cases r; exact z
  | ty _ => cases r; exact z
def rAddO (C D : Addr) (sp : Sp) : R2 := fun x y H Q => ∃ a dx fs b dy gs, x = .ref a ∧ y = .ref b ∧ H a = some (.ins C dx fs) ∧ H b = some (.ins D dy gs) ∧ sp [.ref a, .ref b] H Q E0
theorem op_addO {C D f : Addr} {fd : FuncData} {ps : List Str} {sp : Sp} {k : Nat} (F : FnOk X.prog X.w X.K X.mg X.base CX0 k f fd ps sp) (hb : Binds X.K fd ps []) (m : Meth X.K C "__add__" f) (hr : Room k X.A) (hc : PySem.W.selfFirst X.K C = true) (n : NoAdd X.K D) (hne : C ≠ D) : OpR X (binaryOp .Add) (rAddO C D sp) := by
  intro pins s σ H x y u v Q I rx ry h
  obtain ⟨a, dx, fs, b, dy, gs, rfl, rfl, ha, hb2, hs⟩ := h
  cases rx
  cases ry
  obtain ⟨mA, O, _⟩ := ins_get I.hok ha
  obtain ⟨od, J, _⟩ := O.look
  obtain ⟨mB, O2, _⟩ := ins_get I.hok hb2
  obtain ⟨od2, J2, _⟩ := O2.look
  exact add_other I.kIn J J2 hc m.at_ m.fn n hne (thn (run_fn (us := [.ref a, .ref b]) (vs := [.ref a, .ref b]) F hr hb .nil pass0 I (.cons rfl (.cons rfl .nil)) hs) fun u s' z => cmpBack_of z)
/-- len(o), o an instance -/
theorem v_lenO {C pp dx : Addr} {fs : List (Str × V)} {G : Type} {pre : G → List V → Hp → Prop} {post : G → VPd} {k : Nat} {ps : List Str} {n : Nat} (F : HasM X.prog X.w X.K X.mg X.base C "__len__" k ps (PuSp pre post)) (hr : Room (k + 1) X.A) (hm : X.mg "len" = none) (ha : VE X σ H a (.ref pp)) (hi : H pp = some (.ins C dx fs)) (g : G)
    (hp : ∀ H1, Ex H H1 → pre g [.ref pp] H1) (hk : ∀ v H', post g v H' → v = .int (n : Int)) (hn : n < 2 ^ 63) (hg : Gl X "len" := by rfl) (h1 : starEach [a] X.env = (false, eval a X.env) :: starEach [] X.env := by rfl) (hpl : (backTo pos (starEach [] X.env)).any (·.1) = false := by rfl) :
    VE X σ H (.Call (.Name "len" p) [a] [] pos) (.int n) := by
  obtain ⟨f, fd, F1, F2, F3⟩ := F.ex
  refine vp_bi (call_lenO F1 F3 F2 hr) hm PySem.boot_len (va_cons ha va_nil h1) (fun vs H1 e1 q Q k1 => ?_) hg (by decide) (by decide) h1 hpl
  subst q
  refine ⟨pp, dx, fs, rfl, e1 _ _ hi, g, hp H1 e1, fun v H' e' p' => ⟨n, hk v H' p', by omega, by omega, k1 v H' e' (hk v H' p')⟩⟩
/-- d[k], a dict with int and text keys -/
theorem v_dget {d : Addr} {kvs : List (Key × V)} {k : Key} {v : V} (hu : X.A.units + 1 < cLine) (ho : VE X σ H a (.ref d)) (hk : VE X σ H b (kV k)) (hd : H d = some (.dK kvs)) (hv : valV kvs k = some v) (hs : ∀ o i, subscripted b false o i = operate [o, i] (getItem o i) := by intro _ _; rfl) :
    VE X σ H (.Subscript a b pos) v := vp_by (pe_dget hu we_pe we_pe hs) fun H1 e1 Q q =>
  ho H1 e1 _ fun x H2 e2 p2 => hk H2 (e1.trans e2) _ fun y H3 e3 p3 => by
    subst p2 p3
    exact ⟨d, v, rfl, by rw [← hv]; exact DGet.k (((e1.trans e2).trans e3) _ _ hd), q _ H3 (e2.trans e3) rfl⟩
end
end Vw
end
section
/-! Loop: its methods. -/
namespace Vw
open PySem PySem.Spec PyProof.Rows L2 Evl
section
variable {P : Program} {w : World} {K : PySem.W.Frag} {mg : Str → Option Value} {base : Heap} {CL CS CO CV CW : Addr}
theorem ok_Loop_statements {f : Addr} {fd : FuncData} (F : Fd K "statements" "Loop.statements" s_Loop_statements [] [] f fd) (T : Txt K mg CL CS CO CV CW) : FnOk P w K mg base CX0 1 f fd ["self"] (spGetV CO "kept_statements") := ok_get F sc_Loop_statements rfl T.cO T.nOs
abbrev spLoopLen (CL CS CO : Addr) : Sp := PuSp (fun (g : Addr × LoopD) vs H => vs = [.ref g.1] ∧ LoopAt CL CS CO H g.1 g.2) fun g v _ => v = .int (g.2.ss.length : Int)
theorem ok_Loop_len {f : Addr} {fd : FuncData} (F : Fd K "__len__" "Loop.__len__" s_Loop_len [] [] f fd) (T : Txt K mg CL CS CO CV CW) : FnOk P w K mg base CX0 1 f fd ["self"] (spLoopLen CL CS CO) := by
  refine F.ok sc_Loop_len (fun vs H Q E h => ?_) (fun cdv A outer s H vs Q E hr h => ?_)
  · obtain ⟨g, ⟨rfl, _⟩, _⟩ := h
    rfl
  · obtain ⟨⟨a, L⟩, ⟨rfl, dx, ql, qs, d, la, sa, ha, hin⟩, k⟩ := h
    refine wb_ret ?_ k
    exact VE.is (v_len (k := L.ss.length) T.len (v_fld T.cO T.nOs (v_nm 0 rfl) ha (fsO_stms _ _ _)) fun H' e' => .inr ⟨_, SqT.of (e' _ _ hin.sn), by rw [List.length_map, hin.sa.len]⟩) rfl
abbrev spLoopLine (CL CS CO : Addr) : Sp := PuSp (fun (g : Addr × LoopD × Addr) vs H => vs = [.ref g.1, .str g.2.1.z] ∧ ∃ dx ql qs d sa, H g.1 = some (.ins CO dx (fsO ql qs d)) ∧ LoopIn CL CS H g.2.1 ql qs d g.2.2 sa) fun g v _ => v = .ref g.2.2
theorem ok_Loop_line {f : Addr} {fd : FuncData} (F : Fd K "line" "Loop.line" s_Loop_line [] [] f fd) (T : Txt K mg CL CS CO CV CW) (g1 : HasG P w K mg base CL "name" 1 (spGetV CL "kept_name")) : FnOk P w K mg base CX0 3 f fd ["self", "name"] (spLoopLine CL CS CO) := by
  refine F.ok sc_Loop_line (fun vs H Q E h => ?_) (fun cdv A outer s H vs Q E hr h => ?_)
  · obtain ⟨g, ⟨rfl, _⟩, _⟩ := h
    rfl
  · obtain ⟨⟨a, L, la⟩, ⟨rfl, dx, ql, qs, d, sa, ha, hin⟩, k⟩ := h
    dsimp only at ha hin k
    refine wb_forT (l := ql) (xs := [.ref la]) (v_fld T.cO T.nOl (v_nm (v := .ref a) 0 rfl) ha (fsO_lines _ _ _)) (fun v H1 e1 p1 => ⟨p1, SqT.of (e1 _ _ hin.ln)⟩) (fun n σ' H' => Ex H H' ∧ (n = 0) ∧ σ' = [some (.ref a), some (.str L.z), none]) (fun v H1 e1 _ => ⟨e1, rfl, rfl⟩)
      (fun i σ' H' _ r => SqT.of (r.1 _ _ hin.ln)) (fun i u σ' H' hu r => ?_) (fun σ' H' r => ?_)
    · obtain ⟨eH, rfl, rfl⟩ := r
      obtain rfl : V.ref la = u := Option.some.inj hu
      obtain ⟨dl, hla⟩ := (hin.la).ex eH
      refine wg_nm 2 sc_Loop_line.nd ?_
      refine wb_ifT (VT.is (w_t (w_and (t_val (v_isi T.isi T.str boot_str (v_nm 1 rfl) (fun H' _ => .base (.str L.z)) (by decide +kernel : kitB "str" "str" = some true))) fun _ =>
        w_and1 (t_eq (vp_prop g1 T.cL (hr.mono (by decide)) (v_nm 2 rfl) hla (la, dl, _, .str L.z) (fun H4 e4 => ⟨rfl, e4 _ _ hla, fsL_name _ _⟩) fun _ _ _ q => q) (v_nm 1 rfl)))) (by simp)) fun H1 e1 => ?_
      exact wb_ret (v_nm 2 rfl) fun v H2 e2 q => k v H2 ((eH.trans e1).trans e2) q
    · obtain ⟨eH, z, rfl⟩ := r
      exact absurd z (by simp)
abbrev spPlace (CL CS CO : Addr) : Sp := PuSp (fun (g : Addr × LoopD × Addr × Int × Int) vs H => vs = [.ref g.1, .ref g.2.2.1, .int g.2.2.2.2] ∧ LoopAt CL CS CO H g.1 g.2.1 ∧ H g.2.2.1 = some (.tup [.str g.2.1.z, .int g.2.2.2.1]) ∧ 1 ≤ g.2.1.st ∧ g.2.1.st ≤ 6)
  fun g v H' => ∃ q, v = .ref q ∧ H' q = some (.tup [.str g.2.1.z, .int (g.2.1.st * g.2.2.2.2 + g.2.2.2.1)])
theorem ok_Loop_place {f : Addr} {fd : FuncData} (F : Fd K "place" "Loop.place" s_Loop_place [] [] f fd) (T : Txt K mg CL CS CO CV CW) : FnOk P w K mg base CX0 1 f fd ["self", "ref", "at"] (spPlace CL CS CO) := by
  refine F.ok sc_Loop_place (fun vs H Q E h => ?_) (fun cdv A outer s H vs Q E hr h => ?_)
  · obtain ⟨g, ⟨rfl, _⟩, _⟩ := h
    rfl
  · obtain ⟨⟨a, L, r, o, i⟩, ⟨rfl, ⟨dx, ql, qs, d, la, sa, ha, hin⟩, hR, s1, s6⟩, k⟩ := h
    dsimp only at ha hin hR s1 s6 k
    have hx : SqT K H r [.str L.z, .int o] := SqT.of hR
    refine wb_ret (v_tup (va_cons (v_ixT (v_nm (v := .ref r) 1 rfl) v_int hx rfl) (va_cons (v_add (v_mul (i := L.st) ?_ (v_nm 2 rfl) (.inl ⟨by omega, by omega⟩)) (v_ixT (v_nm (v := .ref r) 1 rfl) v_int hx rfl)) va_nil)) (by simp)) fun v H1 e1 q => k v H1 e1 ?_
    · exact v_dget (k := Sum.inr L.z) (hu_of hr) (v_fld T.cO T.nOr (v_nm (v := .ref a) 0 rfl) ha (fsO_strides _ _ _)) (v_ixT (v_nm (v := .ref r) 1 rfl) v_int hx rfl) hin.dn (valV_pos rfl)
    · obtain ⟨p, rfl, _, hp⟩ := q
      exact ⟨p, rfl, hp⟩
/-- the loop with one more statement -/
def LoopD.add (L : LoopD) (s : Stm) : LoopD := ⟨L.z, L.st, L.ss ++ [s]⟩
theorem loopAt_of {CL CS CO : Addr} {H : Hp} {x dx : Addr} {L : LoopD} {fs : List (Str × V)} (h : H x = some (.ins CO dx fs)) (p : ∃ ql qs d la sa, fs = fsO ql qs d ∧ LoopIn CL CS H L ql qs d la sa) : LoopAt CL CS CO H x L := by
  obtain ⟨ql, qs, d, la, sa, rfl, hin⟩ := p
  exact ⟨dx, ql, qs, d, la, sa, h, hin⟩
theorem paired_add {α β : Type} {F : α → β → Prop} {l : List α} {r : List β} {a : α} {b : β} (h : Paired F l r) (q : F a b) : Paired F (l ++ [a]) (r ++ [b]) := paired_snoc h q
abbrev spLoopAdd (CL CS CO : Addr) : Sp := PuSp (fun (g : Addr × LoopD × Addr × Stm) vs H => vs = [.ref g.1, .ref g.2.2.1] ∧ LoopAt CL CS CO H g.1 g.2.1 ∧ StmAt CS H g.2.2.1 g.2.1.z g.2.2.2 ∧ LoopOk (g.2.1.add g.2.2.2) ∧ g.2.1.ss ≠ []) fun g v H' => ∃ x, v = .ref x ∧ LoopAt CL CS CO H' x (g.2.1.add g.2.2.2)
theorem ok_Loop_add {f : Addr} {fd : FuncData} (F : Fd K "__add__" "Loop.__add__" s_Loop_add [] [] f fd) (T : Txt K mg CL CS CO CV CW) (hI : HasIR P w K mg base CO 4 (StSp 2 (InSp CO (preLoop CL CS) (postLoop CL CS)))) : FnOk P w K mg base CX0 6 f fd ["self", "statement"] (spLoopAdd CL CS CO) := by
  refine F.ok sc_Loop_add (fun vs H Q E h => ?_) (fun cdv A outer s H vs Q E hr h => ?_)
  · obtain ⟨g, ⟨rfl, _⟩, _⟩ := h
    rfl
  · obtain ⟨⟨a, L, b, st⟩, ⟨rfl, ⟨dx, ql, qs, d, la, sa, ha, hin⟩, hb, ok, hne⟩, k⟩ := h
    dsimp only at ha hin hb ok hne k
    have hsa : sa ≠ [] := fun e => hne (by have := hin.sa.len; rw [e] at this; exact List.eq_nil_of_length_eq_zero this.symm)
    have hlen : sa.length ≤ 5 := by have := hin.sa.len; have := ok.l5; simp [LoopD.add] at this; omega
    refine wb_set 2 sc_Loop_add.nd (vp_op (P := fun v H' => ∃ q, v = .ref q ∧ H' q = some (.tup ((sa ++ [b]).map V.ref))) op_catT (v_fld T.cO T.nOs (v_nm (v := .ref a) 0 rfl) ha (fsO_stms _ _ _)) (fun x H1 e1 _ => v_tupN (va_cons (v_nm (v := .ref b) 1 rfl) va_nil) (by simp)) (fun x H1 y H2 e1 p1 e2 p2 Q k2 => ?_)) fun v H1 e1 p1 => ?_
    · subst p1
      obtain ⟨q, rfl, hq⟩ := p2
      refine ⟨qs, q, _, _, rfl, rfl, SqT.of (e2 _ _ (e1 _ _ hin.sn)), SqT.of hq, by simp [hsa], ?_, fun z => absurd z (by simp), fun _ p hp => k2 _ _ (Ex.new hp) ⟨p, rfl, ?_⟩⟩
      · exact sz_of (by simp; omega)
      · rw [List.map_append]
        exact upd_same
    · obtain ⟨q, rfl, hq⟩ := p1
      refine wb_ret (vp_makeS (P := fun v H' => ∃ x, v = .ref x ∧ LoopAt CL CS CO H' x (L.add st)) (po := fun fs H' => ∃ ql qs d la sa, fs = fsO ql qs d ∧ LoopIn CL CS H' (L.add st) ql qs d la sa) hI T.gO hr (va_cons (v_fld T.cO T.nOl (v_nm (v := .ref a) 0 rfl) (e1 _ _ ha) (fsO_lines _ _ _)) (va_star (v_nm (v := .ref q) 2 rfl) (SqT.of hq))) (fun vs H2 e2 p2 => ?_) (fun H' x dx fs e' h0 hx po => ⟨x, rfl, loopAt_of hx po⟩)) fun v H2 e2 p2 => k v H2 (e1.trans e2) p2
      subst p2
      refine ⟨[.ref ql], (sa ++ [b]).map V.ref, rfl, rfl, sz_of (by simp; omega), fun H3 q3 e3 hq3 => ⟨(L.add st, ql, la, q3, sa ++ [b]), ⟨rfl, ok, .inr (e3 _ _ (e2 _ _ (e1 _ _ hin.ln))), hin.la.ex ((e1.trans e2).trans e3), hq3, paired_add (hin.sa.ex ((e1.trans e2).trans e3)) (hb.ex ((e1.trans e2).trans e3))⟩, fun fs H4 po => po⟩⟩
end
end Vw
end
section
/-! Ways: the checks of their parts. -/
namespace Vw
open PySem PySem.Spec PyProof.Rows L2 Evl
theorem tyx_sqT {K : PySem.W.Frag} {H : Hp} {p : Addr} {xs : List V} (h : SqT K H p xs) : TyX K H (.ref p) (.type "tuple") := by
  rcases h with (h | ⟨o, h⟩) | ⟨o, its, n, hk, hc, _⟩
  · exact .base (.tup h)
  · exact .fTuple h
  · exact .kTuple hk hc
theorem sqT_kl {K : PySem.W.Frag} {H H' : Hp} {p : Addr} {xs : List V} (h : SqT K H p xs) (k : KL H H') : SqT K H' p xs := by
  rcases h with (h | ⟨o, h⟩) | h
  · exact .inl (.inl (k _ _ h fun _ z => nomatch z))
  · exact .inl (.inr ⟨o, k _ _ h fun _ z => nomatch z⟩)
  · exact .inr h
/-- at most one bundle -/
def bunD (b : Int × Int) : PyData := .tuple [.int b.1, .int b.2]
def BunAt (K : PySem.W.Frag) (H : Hp) (v : V) (l : List (Int × Int)) : Prop := ∃ p xs, v = .ref p ∧ SqT K H p xs ∧ TpAll H xs (l.map bunD)
theorem BunAt.kl {K : PySem.W.Frag} {H H' : Hp} {v : V} {l : List (Int × Int)} (h : BunAt K H v l) (k : KL H H') : BunAt K H' v l := let ⟨p, xs, e, q, t⟩ := h; ⟨p, xs, e, sqT_kl q k, t.kt k.kt⟩
theorem BunAt.ex {K : PySem.W.Frag} {H H' : Hp} {v : V} {l : List (Int × Int)} (h : BunAt K H v l) (k : Ex H H') : BunAt K H' v l := h.kl (kl_ex k)
def BunOk (l : List (Int × Int)) : Prop := l.length ≤ 1 ∧ ∀ b ∈ l, 0 ≤ b.1 ∧ b.1 ≤ b.2 ∧ b.2 ≤ 4
theorem tp_bun {H : Hp} {v : V} {b : Int × Int} (h : Tp H v (bunD b)) : ∃ p, v = .ref p ∧ H p = some (.tup [.int b.1, .int b.2]) := by
  unfold bunD at h
  cases h with
  | @tup a xs _ e t =>
    cases t with
    | cons h1 t =>
      cases t with
      | cons h2 t =>
        cases t
        cases h1
        cases h2
        exact ⟨a, rfl, e⟩
section
variable {X : Cx} {σ : L2.St} {H H' : Hp} {a b e iter tg : Expr} {v x y : V} {P : VPd} {pos p p2 : Pos}
/-- a walk over zip(a, b) where one of both is empty -/
theorem vi_zip0 {n1 n2 : Nat} {Y Z : Nat → VPd} {elts : List Expr} {kk : Nat} {tpos : Pos} (h0 : n2 = 0) (hm : X.mg "zip" = none) (h : VP X σ H a (TupP X.K n1 Y)) (h2 : VP X σ H b (TupP X.K n2 Z)) (hg : Gl X "zip" := by rfl)
    (hs : starEach [a, b] X.env = (false, eval a X.env) :: starEach [b] X.env := by rfl) (hs2 : starEach [b] X.env = (false, eval b X.env) :: starEach [] X.env := by rfl) (hpl : (backTo pos (starEach [b] X.env)).any (·.1) = false := by rfl) (W : Nat → VPd) :
    VI X σ H (.Tuple elts kk tpos) (.Call (.Name "zip" p) [a, b] [] pos) 0 W := fun H1 e1 R q =>
  toI (RZ.pi_zipA hg hm (pa_cons we_pe (pa_cons we_pe pa_nil hs2) hs) hs hpl) (h H1 e1 _ fun v H2 e2 p2 => h2 H2 (e1.trans e2) _ fun v3 H3 e3 p3 => by
    obtain ⟨l, xs, rfl, hx0, hl, hY⟩ := p2
    have hx := ex_t e3 hx0
    obtain ⟨l2, ys, rfl, hy, hl2, hZ⟩ := p3
    exact ⟨l, l2, xs, ys, rfl, .inr ⟨hx, hy, q _ H3 (e2.trans e3) ⟨fun i H' hi _ => absurd hi (Nat.not_lt_zero _), fun H' e' => ⟨xs, ys, ex_t e' hx, ex_t e' hy, .inr (by omega)⟩, fun i H' x H'' hi _ _ => absurd hi (Nat.not_lt_zero _)⟩⟩⟩)
/-- a slice of a tuple, of any kind -/
theorem vp_slA {pp : Addr} {xs : List V} {lo hi : Option Expr} {l u : Option Int} (ha : VE X σ H a (.ref pp)) (hx : SqT X.K H pp xs) (h1 : VO X σ H lo l) (h2 : VO X σ H hi u) :
    VP X σ H (.Subscript a (.Slice lo hi none p2) pos) fun v H' => ∃ q ys, v = .ref q ∧ SqT X.K H' q ys ∧ ys = cutV xs l u := by
  obtain ⟨t1, k1, g1⟩ := h1
  obtain ⟨t2, k2, g2⟩ := h2
  intro H1 e1 Q q
  refine toE (pe_slice sl_tupA we_pe k1 k2) (ve_ev ha H1 e1 _ fun H2 e2 => g1 H2 (e1.trans e2) _ fun H3 e3 => g2 H3 ((e1.trans e2).trans e3) _ fun H4 e4 => ?_)
  have e24 := (e2.trans e3).trans e4
  refine ⟨pp, xs, rfl, ex_t (e1.trans e24) hx, fun hw => q _ _ e24 ⟨pp, xs, rfl, ex_t (e1.trans e24) hx, ?_⟩, fun _ p hp => q _ _ (e24.trans (Ex.new hp)) ⟨p, _, rfl, SqT.of upd_same, rfl⟩⟩
  unfold cutV
  rw [hw.1, hw.2, List.drop_zero, Nat.sub_zero, List.take_length]
end
section
variable {P : Program} {w : World} {K : PySem.W.Frag} {mg : Str → Option Value} {base : Heap} {CL CS CO CV CW : Addr}
abbrev spIsBundle : Sp := PuSp (fun (g : Addr × Int × Int) vs H => vs = [.ref g.1] ∧ H g.1 = some (.tup [.int g.2.1, .int g.2.2]) ∧ 0 ≤ g.2.1 ∧ g.2.1 ≤ g.2.2 ∧ g.2.2 ≤ 4) fun _ v _ => v = .bl true
theorem ok_is_bundle {f : Addr} {fd : FuncData} (F : Fd K "is_bundle" "is_bundle" s_is_bundle [] [] f fd) (T : Txt K mg CL CS CO CV CW) (h1 : Has P w K mg base "is_between" 2 ["value", "low", "high"] spBetween) : FnOk P w K mg base CX0 3 f fd ["value"] spIsBundle := by
  refine F.ok sc_is_bundle (fun vs H Q E h => ?_) (fun cdv A outer s H vs Q E hr h => ?_)
  · obtain ⟨g, ⟨rfl, _⟩, _⟩ := h
    rfl
  · obtain ⟨⟨p, i, j⟩, ⟨rfl, hp, h0, hij, h4⟩, k⟩ := h
    dsimp only at hp h0 hij h4 k
    have hx : SqT K H p [.int i, .int j] := SqT.of hp
    refine wb_no (VT.is (w_t (w_or (t_not (t_val (v_isi T.isi T.tuple boot_tuple (v_nm (v := .ref p) 0 rfl) (fun H' e' => .base (.tup (e' _ _ hp))) (by decide +kernel : kitB "tuple" "tuple" = some true)))) fun _ =>
      w_or1 (t_ne (v_len (k := 2) T.len (v_nm (v := .ref p) 0 rfl) fun H' e' => .inr ⟨_, ex_t e' hx, rfl⟩) v_int))) (by simp)) fun H1 e1 => ?_
    have hx1 := ex_t e1 hx
    refine wb_ret ?_ fun v H2 e2 q => k v H2 (e1.trans e2) q
    exact VE.is (v_and (vp_call h1 hr (i, 0, 4) (va_cons (v_ixT (v_nm (v := .ref p) 0 rfl) v_int hx1 rfl) (va_cons v_int (va_cons (v_sub (v_int_c T.mBun) v_int) va_nil))) (fun vs H1 _ q => q) fun _ _ _ q => q) fun _ =>
      v_one (vp_call h1 hr (j, i, 4) (va_cons (v_ixT (v_nm (v := .ref p) 0 rfl) v_int hx1 rfl) (va_cons (v_ixT (v_nm (v := .ref p) 0 rfl) v_int hx1 rfl) (va_cons (v_sub (v_int_c T.mBun) v_int) va_nil))) (fun vs H1 _ q => q) fun _ _ _ q => q)) (by simp; omega)
abbrev spAreBundles (K : PySem.W.Frag) : Sp := PuSp (fun (g : V × List (Int × Int)) vs H => vs = [g.1] ∧ BunAt K H g.1 g.2 ∧ BunOk g.2) fun _ v _ => v = .bl true
theorem ok_are_bundles {f : Addr} {fd : FuncData} (F : Fd K "are_bundles" "are_bundles" s_are_bundles [] [] f fd) (T : Txt K mg CL CS CO CV CW) (h1 : Has P w K mg base "is_bundle" 3 ["value"] spIsBundle) : FnOk P w K mg base CX0 4 f fd ["value"] (spAreBundles K) := by
  refine F.ok sc_are_bundles (fun vs H Q E h => ?_) (fun cdv A outer s H vs Q E hr h => ?_)
  · obtain ⟨g, ⟨rfl, _⟩, _⟩ := h
    rfl
  · obtain ⟨⟨v, l⟩, ⟨rfl, ⟨p, xs, e, hp, tx⟩, hl1, hl⟩, k⟩ := h
    dsimp only at e hp tx hl1 hl k
    subst e
    have hlen : xs.length = l.length := by rw [tx.length, List.length_map]
    have src : ∀ {H1 : Hp}, Ex H H1 → ∀ (i : Nat) (x : V), xs[i]? = some x → ∃ b ∈ l, Tp H1 x (bunD b) := fun {H1} e i x hi => by
      obtain ⟨d, hd, t⟩ := tpAll_get tx hi
      rw [List.getElem?_map] at hd
      obtain ⟨b, hb, rfl⟩ := Option.map_eq_some_iff.mp hd
      exact ⟨b, List.mem_of_getElem? hb, t.ex e⟩
    have mY : ∀ i : Nat, Mono (fun x H1 => ∃ b ∈ l, Tp H1 x (bunD b)) := fun i v H1 H2 e ⟨b, q1, q2⟩ => ⟨b, q1, q2.ex e⟩
    refine wb_no (VT.is (w_t (w_or (t_not (t_val (v_isi T.isi T.tuple boot_tuple (v_nm (v := .ref p) 0 rfl) (fun H' e' => tyx_sqT (ex_t e' hp)) (by decide +kernel : kitB "tuple" "tuple" = some true)))) fun _ =>
      w_or1 (t_not (t_val (v_all T.all (vp_lc [("bundle", 1)] sc_are_bundles.nd (blkOk_by (N := n_are_bundles) (sc := defScope s_are_bundles) (by decide +kernel)) (fun i => imm_eq) (vi_T (n := l.length) mY ((v_nm (v := .ref p) 0 rfl).imp fun v H1 e1 q => ⟨p, xs, q, ex_t e1 hp, hlen, src e1⟩)) (by omega) (keep := fun _ => true) fun i x H2 hi e2 hx2 => ?_)))))) rfl) fun H1 e1 => ?_
    · obtain ⟨b, hb, t⟩ := hx2
      obtain ⟨pp, rfl, hpp⟩ := tp_bun t
      obtain ⟨b1, b2, b3⟩ := hl b hb
      refine turn_nm 1 sc_are_bundles.nd rfl rfl rfl (fun s H0 C cl fp => ts_nil) fun _ s H0 C cl fp => ?_
      exact vp_call h1 hr (pp, b.1, b.2) (va_cons (v_nm 1 rfl) va_nil) (fun vs H3 e3 q => ⟨q, e3 _ _ hpp, b1, b2, b3⟩) fun _ _ _ q => q
    · refine wb_ret ?_ fun v H2 e2 q => k v H2 (e1.trans e2) q
      have hp1 := ex_t e1 hp
      refine VE.is (v_all T.all (vp_lc [("one", 2), ("other", 3)] sc_are_bundles.nd (blkOk_by (N := n_are_bundles) (sc := defScope s_are_bundles) (by decide +kernel)) (fun i => imm_eq) (vi_zip0 (n1 := l.length) (Y := fun _ _ _ => True) (Z := fun _ _ _ => True) (n2 := 0) (W := fun _ _ _ => True) rfl T.zip ((v_nm (v := .ref p) 0 rfl).imp fun v H2 e2 q => ⟨p, xs, q, ex_t e2 hp1, hlen, fun _ _ _ => trivial⟩) ((vp_slA (v_nm (v := .ref p) 0 rfl) hp1 (vo_some v_int) vo_none).imp fun v H2 e2 q => ?_)) (by decide) (keep := fun _ => true) fun i x H2 hi e2 hx2 => absurd hi (Nat.not_lt_zero _))) rfl
      obtain ⟨q, ys, rfl, hq, ey⟩ := q
      refine ⟨q, ys, rfl, hq, ?_, fun _ _ _ => trivial⟩
      rw [ey, show ((1 : Int)) = ((1 : Nat) : Int) from rfl, cut_from, List.length_drop]
      omega
end
end Vw
end
section
/-! is_value, Way.__init__ -/
namespace Vw
open PySem PySem.Spec PyProof.Rows L2 Evl
section
variable {X : Cx} {σ : L2.St} {H H' : Hp} {a b e iter tg : Expr} {v x y : V} {P : VPd} {pos p : Pos} {D : Ends} {sts body : List Stmt}
/-- for (..) in zip(a, b): a a tuple of the module, b a tuple, of one length -/
theorem wb_forZ {elts : List Expr} {kk : Nat} {tpos : Pos} {xs ys : List V} {l2 : Addr} (hm : X.mg "zip" = none) (h1 : VP X σ H a fun v _ => ∃ q, v = .ref q ∧ ∀ H, SqT X.K H q xs) (h2 : VE X σ H b (.ref l2)) (hy : SqT X.K H l2 ys) (hl : xs.length = ys.length) (Pv : Nat → L2.St → Hp → Prop) (h0 : ∀ H1, Ex H H1 → Pv 0 σ H1)
    (hk : ∀ i σ' H', Pv i σ' H' → SqT X.K H' l2 ys) (hs : ∀ i x y σ' H' t, xs[i]? = some x → ys[i]? = some y → Pv i σ' H' → H' t = none → WG X (.Tuple elts kk tpos) (.ref t) σ' (upd H' t (.tup [x, y])) fun σ2 H2 => WB X body (Lp X D sts (Pv (i + 1))) σ2 H2) (hd : ∀ σ' H', Pv xs.length σ' H' → WB X sts D σ' H')
    (hp : PassesOwn (model X.prog X.w) X.A X.env X.xe := by exact PassesOwn.never) (hc : X.calm = true := by rfl) (hg : Gl X "zip" := by rfl) (hst : starEach [a, b] X.env = (false, eval a X.env) :: starEach [b] X.env := by rfl) (hs2 : starEach [b] X.env = (false, eval b X.env) :: starEach [] X.env := by rfl)
    (hpl : (backTo pos (starEach [b] X.env)).any (·.1) = false := by rfl) (hf : ∀ x, foldedSetIterable (.Call (.Name "zip" p) [a, b] [] pos) X.env x = pure x := by intro _; rfl) {pos2 : Pos} : WB X (.For (.Tuple elts kk tpos) (.Call (.Name "zip" p) [a, b] [] pos) body [] pos2 :: sts) D σ H :=
  wb_cons (toS (ps_for hp hc (RZ.pi_zipA hg hm (pa_cons we_pe (pa_cons we_pe pa_nil hs2) hst) hst hpl) wg_pg wb_pss hf) (h1 H (Ex.refl H) _ fun v H1 e1 p1 => h2 H1 e1 _ fun v2 H2 e2 p2 => by
    obtain ⟨q, rfl, hx⟩ := p1
    subst p2
    have hy2 := ex_t (e1.trans e2) hy
    refine ⟨q, l2, xs, ys, rfl, .inr ⟨hx H2, hy2, fun i m σ' H' => m = xs.length - i ∧ i ≤ xs.length ∧ Pv i σ' H', ⟨xs.length, by simp, Nat.zero_le _, h0 H2 (e1.trans e2)⟩, ?_⟩⟩
    rintro i m σ' H' ⟨rfl, hi, pv⟩
    have qy := hk i σ' H' pv
    by_cases hlt : i < xs.length
    · have hlt2 : i < ys.length := by omega
      refine .inr ⟨⟨xs, ys, xs[i], ys[i], hx H', qy, List.getElem?_eq_getElem hlt, List.getElem?_eq_getElem hlt2⟩, Pv (i + 1), fun σ2 H2 p2 => ⟨xs.length - (i + 1), by omega, rfl, hlt, p2⟩, fun x H2 y => ?_⟩
      obtain ⟨t, z1, z2, rfl, ht, rfl, w1, w2⟩ := y
      exact hs i z1 z2 σ' H' t (w1 xs (hx H')) (w2 ys qy) pv ht
    · have e : i = xs.length := by omega
      subst e
      exact .inl ⟨⟨xs, ys, hx H', qy, .inl (Nat.le_refl _)⟩, hd σ' H' pv⟩))
/-- a tuple of two names as a target -/
theorem wg_two (j1 j2 : Nat) {n1 n2 : Str} {p1 p2 : Pos} {k : Nat} {l : Addr} {x1 x2 : V} {Q : L2.St → Hp → Prop} (hN : X.N.Nodup) (hl : SqT X.K H l [x1, x2]) (q : Q ((σ.set j1 (some x1)).set j2 (some x2)) H) (hc : X.calm = true := by rfl) (h1 : X.N[j1]? = some n1 := by rfl) (h2 : X.N[j2]? = some n2 := by rfl)
    (l1 : Loc X.env.scope n1 := by first | exact Or.inl rfl | exact Or.inr rfl) (l2 : Loc X.env.scope n2 := by first | exact Or.inl rfl | exact Or.inr rfl) (f1 : X.fn n1 = true ∨ X.env.scope.names.lookup n1 = some .local := by first | exact .inl rfl | exact .inr rfl) (f2 : X.fn n2 = true ∨ X.env.scope.names.lookup n2 = some .local := by first | exact .inl rfl | exact .inr rfl) :
    WG X (.Tuple [.Name n1 p1, .Name n2 p2] k p) (.ref l) σ H Q := toG (pg_tup hc (pgs_cons (pg_name hN h1 l1 f1) (pgs_cons (pg_name hN h2 l2 f2) pgs_nil))) ⟨l, _, rfl, hl, rfl, _, _, rfl, _, _, rfl, rfl, q⟩
end
/-! ### ways -/
structure WayD where
  ahead : Int
  guard : Bool
  bun : List (Int × Int)
structure WayOk (W : WayD) : Prop where
  a0 : 0 ≤ W.ahead
  a3 : W.ahead ≤ 3
  bn : BunOk W.bun
def PartOk (K : PySem.W.Frag) (H : Hp) (part : Str) (v : V) : Prop := (part = "tail" ∧ v = .str "mask") ∨ (part = "ahead" ∧ ∃ i : Int, v = .int i ∧ 0 ≤ i ∧ i ≤ 3) ∨ (part = "guard" ∧ ∃ b, v = .bl b) ∨ (part = "bundles" ∧ ∃ l, BunAt K H v l ∧ BunOk l) ∨ (part = "joining" ∧ v = .str "row")
def fsW (d : Addr) : List (Str × V) := putF "kept_parts" (.ref d) []
theorem fsW_parts (d : Addr) : (fsW d).lookup ("kept_parts" : Str) = some (.ref d) := by
  unfold fsW
  rw [lookup_putF, if_pos rfl]
theorem fsW_no (d : Addr) {m : Str} (h1 : ¬ m = "kept_parts") : (fsW d).lookup m = none := by
  unfold fsW
  rw [lookup_putF, if_neg h1]
  rfl
def wayKv (W : WayD) (vb : V) : List (Key × V) := [(Sum.inr "tail", .str "mask"), (Sum.inr "ahead", .int W.ahead), (Sum.inr "guard", .bl W.guard), (Sum.inr "bundles", vb), (Sum.inr "joining", .str "row")]
def WayAt (K : PySem.W.Frag) (CW : Addr) (H : Hp) (a : Addr) (W : WayD) : Prop := ∃ dx d vb, H a = some (.ins CW dx (fsW d)) ∧ H d = some (.dK (wayKv W vb)) ∧ BunAt K H vb W.bun
theorem WayAt.kl {K : PySem.W.Frag} {CW : Addr} {H H' : Hp} {a : Addr} {W : WayD} (h : WayAt K CW H a W) (k : KL H H') : WayAt K CW H' a W :=
  let ⟨dx, d, vb, h1, h2, h3⟩ := h
  ⟨dx, d, vb, k _ _ h1 (fun _ z => nomatch z), k _ _ h2 (fun _ z => nomatch z), h3.kl k⟩
theorem WayAt.ex {K : PySem.W.Frag} {CW : Addr} {H H' : Hp} {a : Addr} {W : WayD} (h : WayAt K CW H a W) (k : Ex H H') : WayAt K CW H' a W := h.kl (kl_ex k)
section
variable {P : Program} {w : World} {K : PySem.W.Frag} {mg : Str → Option Value} {base : Heap} {CL CS CO CV CW : Addr}
abbrev spIsValue (K : PySem.W.Frag) : Sp := PuSp (fun (g : Str × V) vs H => vs = [.str g.1, g.2] ∧ PartOk K H g.1 g.2) fun _ v _ => v = .bl true
theorem sd {x y : Str} {t : Bool} (h : decide (x = y) = t) : decide (V.str x = V.str y) = t := by
  rw [← h]
  exact decide_eq_decide.mpr ⟨fun e => V.str.inj e, fun e => congrArg V.str e⟩
theorem ok_is_value {f : Addr} {fd : FuncData} (F : Fd K "is_value" "is_value" s_is_value [] [] f fd) (T : Txt K mg CL CS CO CV CW) (h1 : Has P w K mg base "is_between" 2 ["value", "low", "high"] spBetween) (h2 : Has P w K mg base "are_bundles" 4 ["value"] (spAreBundles K)) : FnOk P w K mg base CX0 5 f fd ["part", "value"] (spIsValue K) := by
  refine F.ok sc_is_value (fun vs H Q E h => ?_) (fun cdv A outer s H vs Q E hr h => ?_)
  · obtain ⟨g, ⟨rfl, _⟩, _⟩ := h
    rfl
  · obtain ⟨⟨part, v⟩, ⟨rfl, h⟩, k⟩ := h
    dsimp only at h k
    rcases h with ⟨rfl, rfl⟩ | ⟨rfl, i, rfl, i0, i3⟩ | ⟨rfl, b, rfl⟩ | ⟨rfl, l, hb, hl⟩ | ⟨rfl, rfl⟩
    · refine wb_ifT (VT.is (t_eq (v_nm (v := .str "tail") 0 rfl) v_str) (sd (by decide +kernel))) fun H1 e1 => wb_ret ?_ fun v H2 e2 q => k v H2 (e1.trans e2) q
      exact VE.is (v_and (v_isi T.isi T.str boot_str (v_nm 1 rfl) (fun H' e' => .base (.str _)) (by decide +kernel : kitB "str" "str" = some true)) fun _ => v_one (v_inT (v_nm 1 rfl) ((v_tup_c T.tails).imp fun v H1 e1 ⟨q, a, b⟩ => ⟨q, a, b H1⟩) rfl rfl)) (by decide +kernel)
    · refine wb_no (VT.is (t_eq (v_nm (v := .str "ahead") 0 rfl) v_str) (sd (by decide +kernel))) fun H1 e1 => ?_
      refine wb_ifT (VT.is (t_eq (v_nm (v := .str "ahead") 0 rfl) v_str) (sd (by decide +kernel))) fun H2 e2 => wb_ret ?_ fun v H3 e3 q => k v H3 ((e1.trans e2).trans e3) q
      exact vp_call h1 (hr.mono (by decide)) (i, 0, 3) (va_cons (v_nm 1 rfl) (va_cons v_int (va_cons (v_int_c T.mAhe) va_nil))) (fun vs H1 _ q => q) fun v _ _ q => by rw [q]; simp [i0, i3]
    · refine wb_no (VT.is (t_eq (v_nm (v := .str "guard") 0 rfl) v_str) (sd (by decide +kernel))) fun H1 e1 => ?_
      refine wb_no (VT.is (t_eq (v_nm (v := .str "guard") 0 rfl) v_str) (sd (by decide +kernel))) fun H2 e2 => ?_
      refine wb_ifT (VT.is (t_eq (v_nm (v := .str "guard") 0 rfl) v_str) (sd (by decide +kernel))) fun H3 e3 => wb_ret ?_ fun v H4 e4 q => k v H4 (((e1.trans e2).trans e3).trans e4) q
      exact v_isi T.isi T.bool boot_bool (v_nm 1 rfl) (fun H' e' => .base (.bl _)) (by decide +kernel : kitB "bool" "bool" = some true)
    · refine wb_no (VT.is (t_eq (v_nm (v := .str "bundles") 0 rfl) v_str) (sd (by decide +kernel))) fun H1 e1 => ?_
      refine wb_no (VT.is (t_eq (v_nm (v := .str "bundles") 0 rfl) v_str) (sd (by decide +kernel))) fun H2 e2 => ?_
      refine wb_no (VT.is (t_eq (v_nm (v := .str "bundles") 0 rfl) v_str) (sd (by decide +kernel))) fun H3 e3 => ?_
      refine wb_ifT (VT.is (t_eq (v_nm (v := .str "bundles") 0 rfl) v_str) (sd (by decide +kernel))) fun H4 e4 => wb_ret ?_ fun v H5 e5 q => k v H5 ((((e1.trans e2).trans e3).trans e4).trans e5) q
      exact vp_call h2 hr (v, l) (va_cons (v_nm 1 rfl) va_nil) (fun vs H5 e5 q => ⟨q, hb.ex ((((e1.trans e2).trans e3).trans e4).trans e5), hl⟩) fun _ _ _ q => q
    · refine wb_no (VT.is (t_eq (v_nm (v := .str "joining") 0 rfl) v_str) (sd (by decide +kernel))) fun H1 e1 => ?_
      refine wb_no (VT.is (t_eq (v_nm (v := .str "joining") 0 rfl) v_str) (sd (by decide +kernel))) fun H2 e2 => ?_
      refine wb_no (VT.is (t_eq (v_nm (v := .str "joining") 0 rfl) v_str) (sd (by decide +kernel))) fun H3 e3 => ?_
      refine wb_no (VT.is (t_eq (v_nm (v := .str "joining") 0 rfl) v_str) (sd (by decide +kernel))) fun H4 e4 => ?_
      refine wb_ret ?_ fun v H5 e5 q => k v H5 ((((e1.trans e2).trans e3).trans e4).trans e5) q
      exact VE.is (v_and (v_isi T.isi T.str boot_str (v_nm 1 rfl) (fun H' e' => .base (.str _)) (by decide +kernel : kitB "str" "str" = some true)) fun _ => v_one (v_inT (v_nm 1 rfl) ((v_tup_c T.joins).imp fun v H1 e1 ⟨q, a, b⟩ => ⟨q, a, b H1⟩) rfl rfl)) (by decide +kernel)
end
end Vw
end
section
/-! Way: its __init__, its getters, goes_with. -/
namespace Vw
open PySem PySem.Spec PyProof.Rows L2 Evl
theorem sqT_exb {K : PySem.W.Frag} {x C dx : Addr} {fs : List (Str × V)} {H H' : Hp} {p : Addr} {xs : List V} (hx : H x = some (.ins C dx fs)) (b : ExB x H H') (h : SqT K H p xs) : SqT K H' p xs := by
  rcases h with (h | ⟨o, h⟩) | h
  · exact .inl (.inl (b _ _ (fun e => by rw [e, hx] at h; cases h) h))
  · exact .inl (.inr ⟨o, b _ _ (fun e => by rw [e, hx] at h; cases h) h⟩)
  · exact .inr h
theorem BunAt.exb {K : PySem.W.Frag} {x C dx : Addr} {fs : List (Str × V)} {H H' : Hp} {v : V} {l : List (Int × Int)} (hx : H x = some (.ins C dx fs)) (h : BunAt K H v l) (b : ExB x H H') : BunAt K H' v l := by
  obtain ⟨p, xs, e, q, t⟩ := h
  exact ⟨p, xs, e, sqT_exb hx b q, t.kt fun a ys h => b a _ (fun e => by rw [e, hx] at h; cases h) h⟩
theorem WayAt.exb {K : PySem.W.Frag} {CW x C dx : Addr} {H H' : Hp} {a : Addr} {W : WayD} (hx : H x = some (.ins C dx [])) (h : WayAt K CW H a W) (b : ExB x H H') : WayAt K CW H' a W := by
  obtain ⟨d2, d, vb, h1, h2, h3⟩ := h
  exact ⟨d2, d, vb, b _ _ (ins_ne hx h1 (fsW_parts _)) h1, b _ _ (fun e => by rw [e, hx] at h2; cases h2) h2, h3.exb hx b⟩
def partNm : List Str := ["tail", "ahead", "guard", "bundles", "joining"]
theorem partNm_ne : ∀ j, j < 5 → ∀ i, i < j → partNm.getD i Str.empty ≠ partNm.getD j Str.empty := by decide +kernel
def partVs (W : WayD) (vb : V) : List V := [.str "mask", .int W.ahead, .bl W.guard, vb, .str "row"]
theorem part_at {K : PySem.W.Frag} {H : Hp} {W : WayD} {vb : V} (ok : WayOk W) (hb : BunAt K H vb W.bun) {i : Nat} {x y : V} (hx : (partNm.map V.str)[i]? = some x) (hy : (partVs W vb)[i]? = some y) : ∃ n : Str, x = .str n ∧ PartOk K H n y := by
  match i, hx, hy with
  | 0, hx, hy => exact ⟨"tail", (Option.some.inj hx).symm, .inl ⟨rfl, (Option.some.inj hy).symm⟩⟩
  | 1, hx, hy => exact ⟨"ahead", (Option.some.inj hx).symm, .inr (.inl ⟨rfl, _, (Option.some.inj hy).symm, ok.a0, ok.a3⟩)⟩
  | 2, hx, hy => exact ⟨"guard", (Option.some.inj hx).symm, .inr (.inr (.inl ⟨rfl, _, (Option.some.inj hy).symm⟩))⟩
  | 3, hx, hy => exact ⟨"bundles", (Option.some.inj hx).symm, .inr (.inr (.inr (.inl ⟨rfl, _, by rw [← Option.some.inj hy]; exact hb, ok.bn⟩)))⟩
  | 4, hx, hy => exact ⟨"joining", (Option.some.inj hx).symm, .inr (.inr (.inr (.inr ⟨rfl, (Option.some.inj hy).symm⟩)))⟩
  | i + 5, hx, hy => exact absurd hx (by simp [partNm])
section
variable {P : Program} {w : World} {K : PySem.W.Frag} {mg : Str → Option Value} {base : Heap} {CL CS CO CV CW : Addr}
abbrev preWay (K : PySem.W.Frag) : (WayD × V) → List V → Hp → Prop := fun g r H => r = partVs g.1 g.2 ∧ WayOk g.1 ∧ BunAt K H g.2 g.1.bun
abbrev postWay (K : PySem.W.Frag) : (WayD × V) → List (Str × V) → Hp → Prop := fun g fs H => ∃ d, fs = fsW d ∧ H d = some (.dK (wayKv g.1 g.2)) ∧ BunAt K H g.2 g.1.bun
theorem ok_Way_init {kws : List (Str × V)} {f : Addr} {fd : FuncData} (F : Fd K "__init__" "Way.__init__" s_Way_init [] kws f fd) (T : Txt K mg CL CS CO CV CW) (h1 : Has P w K mg base "is_value" 5 ["part", "value"] (spIsValue K)) :
    FnOk P w K mg base CX0 6 f fd ["self", "tail", "ahead", "guard", "bundles", "joining"] (InSp CW (preWay K) (postWay K)) := by
  refine F.ok sc_Way_init (fun vs H Q E h => ?_) (fun cdv A outer s H vs Q E hr h => ?_)
  · obtain ⟨g, x, dx, r, rfl, _, ⟨rfl, _⟩, _⟩ := h
    rfl
  · obtain ⟨⟨W, vb⟩, x, dx, r, rfl, hx, ⟨rfl, ok, hb⟩, k⟩ := h
    dsimp only at ok hb k
    refine wb_set 6 sc_Way_init.nd (v_tupN (vs := partVs W vb) (va_cons (v_nm 1 rfl) (va_cons (v_nm 2 rfl) (va_cons (v_nm 3 rfl) (va_cons (v_nm 4 rfl) (va_cons (v_nm 5 rfl) va_nil))))) (by show 5 ≤ 100000; decide)) fun v H1 e1 p1 => ?_
    obtain ⟨q, rfl, hq⟩ := p1
    refine wb_forZ (l2 := q) (xs := partNm.map V.str) (ys := partVs W vb) T.zip (v_tup_c T.parts) (v_nm (v := .ref q) 6 rfl) (SqT.of hq) rfl
      (fun i σ' H' => Ex H1 H' ∧ ∃ o1 o2, σ' = [some (.ref x), some (.str "mask"), some (.int W.ahead), some (.bl W.guard), some vb, some (.str "row"), some (.ref q), o1, o2]) (fun H2 e2 => ⟨e2, none, none, rfl⟩) (fun i σ' H' r => SqT.of (r.1 _ _ hq)) (fun i y z σ' H' t hy hz r ht => ?_) (fun σ' H' r => ?_)
    · obtain ⟨eH, o1, o2, rfl⟩ := r
      have e2 := (e1.trans eH).trans (Ex.new (o := .tup [y, z]) ht)
      obtain ⟨n, rfl, hp⟩ := part_at (H := upd H' t (.tup [y, z])) ok (hb.ex e2) hy hz
      refine wg_two 7 8 sc_Way_init.nd (SqT.of upd_same) ?_
      refine wb_no (VT.is (t_not (t_val (vp_call h1 hr (n, z) (va_cons (v_nm 7 rfl) (va_cons (v_nm 8 rfl) va_nil)) (fun vs H3 e3 q => ⟨q, ?_⟩) fun _ _ _ q => q))) rfl) fun H3 e3 => wb_nil ⟨(eH.trans (Ex.new ht)).trans e3, _, _, rfl⟩
      obtain ⟨m, em, hp2⟩ := part_at (H := H3) ok (hb.ex (e2.trans e3)) hy hz
      cases em
      exact hp2
    · obtain ⟨eH, o1, o2, rfl⟩ := r
      have e2 := e1.trans eH
      refine wb_fld T.cW T.nWp (vp_dc (ks := fun i => (Sum.inr (partNm.getD i Str.empty) : Key)) (f := fun i => (partVs W vb).getD i .non) (n := 5) [("part", 7), ("value", 8)] sc_Way_init.nd (blkOk_by (N := n_Way_init) (sc := defScope s_Way_init) (by decide +kernel))
        (vi_zipT (Y := fun i v _ => v = .str (partNm.getD i Str.empty)) (Z := fun i v _ => v = (partVs W vb).getD i .non) (fun i => mono_eq) (fun i => mono_eq) T.zip ((v_tup_c T.parts).imp fun v H3 e3 ⟨l, a, b⟩ => ⟨l, _, a, b H3, rfl, fun i y hy => ?_⟩) ((v_nm (v := .ref q) 6 rfl).imp fun v H3 e3 p3 => ⟨q, _, p3, SqT.of (e3 _ _ (eH _ _ hq)), rfl, fun i y hy => ?_⟩)) (by decide) (fun i j hij hj e => partNm_ne j hj i hij (Sum.inr.inj e)) fun i y H3 hi e3 hy => ?_) (v_nm (v := .ref x) 0 rfl) (e2 _ _ hx) (by decide) fun v H3 e3 p3 H4 e4 => ?_
      · show y = _
        match i, hy with
        | 0, hy => exact (Option.some.inj hy).symm
        | 1, hy => exact (Option.some.inj hy).symm
        | 2, hy => exact (Option.some.inj hy).symm
        | 3, hy => exact (Option.some.inj hy).symm
        | 4, hy => exact (Option.some.inj hy).symm
        | i + 5, hy => exact absurd hy (by simp)
      · show y = _
        rw [List.getD_eq_getElem?_getD, hy]
        rfl
      · obtain ⟨t, a, b, rfl, ht, rfl, rfl⟩ := hy
        refine turnD_two 7 8 rfl sc_Way_init.nd rfl rfl (SqT.of ht) rfl rfl rfl (fun s H0 C cl fp => ?_) fun s H0 C cl fp => ?_
        · exact v_nm 7 rfl
        · exact v_nm 8 rfl
      · obtain ⟨d, rfl, hd0, hd⟩ := p3
        have nd : d ≠ x := fun e => by rw [e, e2 _ _ hx] at hd0; cases hd0
        refine wb_nil (k _ _ (exb_upd ((e2.trans e3).trans e4)) upd_same ⟨d, rfl, ?_, ?_⟩)
        · rw [upd_ne nd]
          exact e4 _ _ hd
        · exact hb.exb hx (exb_upd ((e2.trans e3).trans e4))
abbrev spWayGet (K : PySem.W.Frag) (CW : Addr) (po : WayD → VPd) : Sp := PuSp (fun (g : Addr × WayD) vs H => vs = [.ref g.1] ∧ WayAt K CW H g.1 g.2) fun g => po g.2
theorem ok_Way_tail {f : Addr} {fd : FuncData} (F : Fd K "tail" "Way.tail" s_Way_tail [] [] f fd) (T : Txt K mg CL CS CO CV CW) : FnOk P w K mg base CX0 1 f fd ["self"] (spWayGet K CW fun _ v _ => v = .str "mask") := by
  refine F.ok sc_Way_tail (fun vs H Q E h => ?_) (fun cdv A outer s H vs Q E hr h => ?_)
  · obtain ⟨g, ⟨rfl, _⟩, _⟩ := h
    rfl
  · obtain ⟨⟨a, W⟩, ⟨rfl, dx, d, vb, ha, hd, hb⟩, k⟩ := h
    refine wb_ret ?_ k
    exact v_dget (k := Sum.inr "tail") (hu_of hr) (v_fld T.cW T.nWp (v_nm (v := .ref a) 0 rfl) ha (fsW_parts _)) v_str hd rfl
theorem ok_Way_ahead {f : Addr} {fd : FuncData} (F : Fd K "ahead" "Way.ahead" s_Way_ahead [] [] f fd) (T : Txt K mg CL CS CO CV CW) : FnOk P w K mg base CX0 1 f fd ["self"] (spWayGet K CW fun W v _ => v = .int W.ahead) := by
  refine F.ok sc_Way_ahead (fun vs H Q E h => ?_) (fun cdv A outer s H vs Q E hr h => ?_)
  · obtain ⟨g, ⟨rfl, _⟩, _⟩ := h
    rfl
  · obtain ⟨⟨a, W⟩, ⟨rfl, dx, d, vb, ha, hd, hb⟩, k⟩ := h
    refine wb_ret ?_ k
    exact v_dget (k := Sum.inr "ahead") (hu_of hr) (v_fld T.cW T.nWp (v_nm (v := .ref a) 0 rfl) ha (fsW_parts _)) v_str hd rfl
theorem ok_Way_guard {f : Addr} {fd : FuncData} (F : Fd K "guard" "Way.guard" s_Way_guard [] [] f fd) (T : Txt K mg CL CS CO CV CW) : FnOk P w K mg base CX0 1 f fd ["self"] (spWayGet K CW fun W v _ => v = .bl W.guard) := by
  refine F.ok sc_Way_guard (fun vs H Q E h => ?_) (fun cdv A outer s H vs Q E hr h => ?_)
  · obtain ⟨g, ⟨rfl, _⟩, _⟩ := h
    rfl
  · obtain ⟨⟨a, W⟩, ⟨rfl, dx, d, vb, ha, hd, hb⟩, k⟩ := h
    refine wb_ret ?_ k
    exact v_dget (k := Sum.inr "guard") (hu_of hr) (v_fld T.cW T.nWp (v_nm (v := .ref a) 0 rfl) ha (fsW_parts _)) v_str hd rfl
theorem ok_Way_bundles {f : Addr} {fd : FuncData} (F : Fd K "bundles" "Way.bundles" s_Way_bundles [] [] f fd) (T : Txt K mg CL CS CO CV CW) : FnOk P w K mg base CX0 1 f fd ["self"] (spWayGet K CW fun W v H' => BunAt K H' v W.bun) := by
  refine F.ok sc_Way_bundles (fun vs H Q E h => ?_) (fun cdv A outer s H vs Q E hr h => ?_)
  · obtain ⟨g, ⟨rfl, _⟩, _⟩ := h
    rfl
  · obtain ⟨⟨a, W⟩, ⟨rfl, dx, d, vb, ha, hd, hb⟩, k⟩ := h
    refine wb_ret ?_ k
    refine VP.imp (v_dget (k := Sum.inr "bundles") (v := vb) (hu_of hr) (v_fld T.cW T.nWp (v_nm (v := .ref a) 0 rfl) ha (fsW_parts _)) v_str hd rfl) fun v H1 e1 q => ?_
    subst q
    exact hb.ex e1
abbrev spGoes (K : PySem.W.Frag) (CL CS CO CW : Addr) : Sp := PuSp (fun (g : Addr × WayD × Addr × LoopD) vs H => vs = [.ref g.1, .ref g.2.2.1] ∧ WayAt K CW H g.1 g.2.1 ∧ LoopAt CL CS CO H g.2.2.1 g.2.2.2 ∧ BunOk g.2.1.bun ∧ (∀ b ∈ g.2.1.bun, b.2 < (g.2.2.2.ss.length : Int)) ∧ g.2.2.2.ss.length ≤ 5) fun _ v _ => v = .bl true
theorem ok_Way_goes {f : Addr} {fd : FuncData} (F : Fd K "goes_with" "Way.goes_with" s_Way_goes_with [] [] f fd) (T : Txt K mg CL CS CO CV CW) (h1 : HasM P w K mg base CO "__len__" 1 ["self"] (spLoopLen CL CS CO)) : FnOk P w K mg base CX0 3 f fd ["self", "loop"] (spGoes K CL CS CO CW) := by
  refine F.ok sc_Way_goes_with (fun vs H Q E h => ?_) (fun cdv A outer s H vs Q E hr h => ?_)
  · obtain ⟨g, ⟨rfl, _⟩, _⟩ := h
    rfl
  · obtain ⟨⟨a, W, b, L⟩, ⟨rfl, ⟨dx, d, vb, ha, hd, p, xs, rfl, hp, tx⟩, hL, hl, hb, h5⟩, k⟩ := h
    dsimp only at ha hd hp tx hL hl hb h5 k
    have hlen : xs.length = W.bun.length := by rw [tx.length, List.length_map]
    have h1' := hl.1
    refine wb_ret (VE.is (v_all T.all (vp_lc (n := W.bun.length) (Y := fun _ v H1 => ∃ b ∈ W.bun, Tp H1 v (bunD b)) [("first", 2), ("last", 3)] sc_Way_goes_with.nd (blkOk_by (N := n_Way_goes_with) (sc := defScope s_Way_goes_with) (by decide +kernel)) (fun i => imm_eq)
      (vi_T (fun i v H1 H2 e ⟨b, q1, q2⟩ => ⟨b, q1, q2.ex e⟩) ((v_dget (k := Sum.inr "bundles") (v := .ref p) (hu_of hr) (v_fld T.cW T.nWp (v_nm (v := .ref a) 0 rfl) ha (fsW_parts _)) v_str hd rfl).imp fun v H1 e1 q => ⟨p, xs, q, ex_t e1 hp, hlen, fun i x hi => ?_⟩)) (by omega) (keep := fun _ => true) fun i x H2 hi e2 hx => ?_)) rfl) k
    · obtain ⟨dd, hdd, t⟩ := tpAll_get tx hi
      rw [List.getElem?_map] at hdd
      obtain ⟨b, hb, rfl⟩ := Option.map_eq_some_iff.mp hdd
      exact ⟨b, List.mem_of_getElem? hb, t.ex e1⟩
    · obtain ⟨bb, hbb, t⟩ := hx
      obtain ⟨pp, rfl, hpp⟩ := tp_bun t
      refine turn_two 2 3 rfl sc_Way_goes_with.nd rfl rfl (SqT.of hpp) rfl rfl rfl (fun s H0 C cl fp => ts_nil) fun _ s H0 C cl fp => ?_
      have hL2 := hL.ex e2
      obtain ⟨dx2, ql, qs, d2, la, sa, hb2, hin⟩ := id hL2
      refine VE.is (v_lt (v_nm 3 rfl) (v_lenO (n := L.ss.length) h1 hr T.len (v_nm (v := .ref b) 1 rfl) hb2 (b, L) (fun H4 e4 => ⟨rfl, hL2.ex e4⟩) (fun v H4 q => q) (by omega))) ?_
      rw [decide_eq_true (hb bb hbb)]
end
end Vw
end
section
/-! Calls with keywords alone; a staticmethod called on its class; Way.careful. -/
namespace Vw
open PySem PySem.Spec PyProof.Rows L2 Evl
def WK (X : Cx) (kws : List Keyword) : TA := fun σ H Q => ∀ (pos : Pos) (pins : List (Addr × Obj)) (s : Shared), Inv X pins σ H s → wpAny (model X.prog X.w) X.A (evalAll ((backToKw pos (keywordEach kws X.env)).map (·.2))) (AP X pins σ Q) X.xe s
section
variable {X : Cx} {σ : L2.St} {H H' : Hp} {a b c e e2 o : Expr} {es : List Expr} {kws : List Keyword} {v x y : V} {P : VPd} {pos p p2 kpos : Pos} {S : List V → Hp → Prop} {nm : Option Str}
theorem wk_pk : PK X kws (WK X kws) := ⟨fun pos pins s _ _ _ I h => h pos pins s I⟩
theorem toK {t : TA} (h : PK X kws t) {Q : List V → Hp → Prop} (q : t σ H Q) : WK X kws σ H Q := fun pos pins s I => h.run pos pins s σ H Q I q
def VKP (X : Cx) (σ : L2.St) (H : Hp) (kws : List Keyword) (P : List V → Hp → Prop) : Prop := ∀ H1, Ex H H1 → ∀ Q : List V → Hp → Prop, (∀ vs H2, Ex H1 H2 → P vs H2 → Q vs H2) → WK X kws σ H1 Q
theorem vk_nil : VKP X σ H [] fun vs _ => vs = [] := fun H1 e1 Q q => toK pk_nil (q [] H1 (Ex.refl H1) rfl)
theorem vk_cons (h : VP X σ H e P) (m : Mono P) (hr : ∀ v H1, Ex H H1 → P v H1 → VKP X σ H1 kws S) : VKP X σ H (⟨nm, e, kpos⟩ :: kws) fun vs H' => ∃ v r, vs = v :: r ∧ P v H' ∧ S r H' := fun H1 e1 Q q =>
  toK (pk_cons we_pe wk_pk) (h H1 e1 _ fun u H2 e2 p2 => hr u H2 (e1.trans e2) p2 H2 (Ex.refl H2) _ fun us H3 e3 p3 => q _ H3 (e2.trans e3) ⟨u, us, rfl, m u H2 H3 e3 p2, p3⟩)
/-- an instance made by keywords alone -/
structure HasIK (P : Program) (w : World) (K : PySem.W.Frag) (mg : Str → Option Value) (base : Heap) (C : Addr) (k : Nat) (ps ks : List Str) (gV : List V → List V → List V) (sp : Sp) : Prop where
  ex : ∃ (f : Addr) (fd : FuncData) (g : List Value → List Value → List Value), FnOk P w K mg base CX0 k f fd ps sp ∧ Mk K C f ∧ KBn K fd ps 1 ks g gV
theorem vp_makeK {G : Type} {C : Addr} {pre : G → List V → Hp → Prop} {post : G → List (Str × V) → Hp → Prop} {n : Str} {k : Nat} {ps ks : List Str} {gV : List V → List V → List V} (F : HasIK X.prog X.w X.K X.mg X.base C k ps ks gV (InSp C pre post)) (hC : X.mg n = some (.ref C)) (hr : Room (k + 1) X.A)
    (ha : VKP X σ H kws S) (hp : ∀ vs H1, Ex H H1 → S vs H1 → vs.length = ks.length ∧ ∃ g r, (∀ x, gV [x] vs = x :: r) ∧ (∀ H2, Ex H1 H2 → pre g r H2) ∧ ∀ H' x dx fs, Ex H1 H' → H x = none → H' x = some (.ins C dx fs) → post g fs H' → P (.ref x) H')
    (hg : Gl X n := by rfl) (hall : (backToKw pos (keywordEach kws X.env)).all (·.1.isSome) = true := by rfl) (hks : (backToKw pos (keywordEach kws X.env)).filterMap (·.1) = ks := by rfl) (hdb : (n == ("__debug__" : Str)) = false := by decide)
    (hpl : ((backTo pos (starEach [] X.env)).any (·.1) || (backToKw pos (keywordEach kws X.env)).any (·.1.isNone)) = false := by rfl) : VP X σ H (.Call (.Name n p) [] kws pos) P := by
  obtain ⟨f, fd, g, F1, F2, F3⟩ := F.ex
  intro H1 e1 Q q
  refine toE (pe_makeK0 F2 F1 hr hg hC F3 pass0 wk_pk hall hks hdb hpl) ?_
  show tMakeK C 0 ks.length (InSp C pre post) gV E0 tNil (WK X kws) σ H1 Q
  show WK X kws σ H1 _
  refine ha H1 e1 _ fun vs H2 e2 p2 => ?_
  obtain ⟨hl, gg, r, hgv, hpre, hpost⟩ := hp vs H2 (e1.trans e2) p2
  refine ⟨rfl, hl, fun x dx hx hdx hne => ?_⟩
  rw [hgv]
  have ee : Ex H2 (upd (upd H2 dx (.own x)) x (.ins C dx [])) := (Ex.new hdx).trans (Ex.new (by rw [upd_ne hne.symm]; exact hx))
  refine ⟨gg, x, dx, r, rfl, upd_same, hpre _ ee, fun H3 fs b hi po => ⟨rfl, ?_⟩⟩
  have e3 : Ex H2 H3 := fun a o h => b a o (ne_of_none h hx) (ee a o h)
  exact q _ H3 (e2.trans e3) (hpost H3 x dx fs e3 (fresh_back (e1.trans e2) hx) hi po)
/-- C.m is a staticmethod: its record at p, its def at g -/
structure SMet (K : PySem.W.Frag) (C : Addr) (m : Str) (g : Addr) : Prop where
  ex : ∃ mc p, ClX.CRead K C mc ∧ PySem.W.findCls K (.ref C) mc m = some (.get (.builtin "staticmethod.__get__") (.ref p) .none (.ref C)) ∧ ∃ rest, PySem.W.recIn K p "staticmethod" = some (.ref g :: rest)
structure HasS (P : Program) (w : World) (K : PySem.W.Frag) (mg : Str → Option Value) (base : Heap) (C : Addr) (m : Str) (k : Nat) (ps : List Str) (sp : Sp) : Prop where
  ex : ∃ (f : Addr) (fd : FuncData), FnOk P w K mg base CX0 k f fd ps sp ∧ SMet K C m f ∧ PySem.W.keepIn K (.ref f) = true ∧ Binds K fd ps []
theorem vp_static {G : Type} {pre : G → List V → Hp → Prop} {post : G → VPd} {m : Str} {k : Nat} {ps : List Str} {C : Addr} {apos : Pos} {pl : Sem Bool} (F : HasS X.prog X.w X.K X.mg X.base C m k ps (PuSp pre post)) (hr : Room k X.A) (ho : VE X σ H o (.ref C)) (g : G)
    (ha : VAP X σ H (e :: es) S) (hp : ∀ vs H1, Ex H H1 → S vs H1 → pre g vs H1) (hk : ∀ v H', Ex H H' → post g v H' → P v H') (hst : starEach (e :: es) X.env = (false, eval e X.env) :: starEach es X.env := by rfl) (hpl : (backTo pos (starEach es X.env)).any (·.1) = false := by rfl)
    (ht : eval (.Call (.Attribute o m apos) (e :: es) [] pos) X.env = (do
      let ov ← eval o X.env
      standAt apos.atName
      let (f, first) ← holding [ov] (getMethod ov m pl)
      callWith pos f first (backTo pos (starEach (e :: es) X.env)) (backToKw pos (keywordEach [] X.env))) := by rfl) : VP X σ H (.Call (.Attribute o m apos) (e :: es) [] pos) P := by
  obtain ⟨f, fd, F1, ⟨mc, pp, r, hc, rest, hrec⟩, F3, F4⟩ := F.ex
  intro H1 e1 Q q
  intro pins s I
  refine PySem.W.methodCall_KW (pl := pl) (thn (ho H1 e1 (fun u H2 => u = .ref C ∧ Ex H1 H2) (fun u H2 e2 p2 => ⟨p2, e2⟩) pins s I) fun u s1 ⟨z, H2, I2, rz, ez, e2⟩ => ?_) ht
  subst ez
  obtain rfl : u = Value.ref C := rz
  refine PySem.W.method_cls I2.kIn r.ga (PySem.W.cls_bind I2.kIn r.rd hc (wpAny_call (PySem.W.sm_get (s := { s1 with toks := s1.toks + 1 }) I2.kIn hrec (PySem.W.handed_on rfl ?_))))
  have I3 := I2.tok (s1.toks + 1)
  refine PySem.W.callWith_K (h₀ := X.base) I3.ok.mod.kin F3 (thn (ha H2 (e1.trans e2) (fun vs H3 => pre g vs H3 ∧ Ex H2 H3) (fun vs H3 e3 p3 => ⟨hp vs H3 ((e1.trans e2).trans e3) p3, e3⟩) pos pins _ I3) fun us s3 ⟨vs, H3, I4, rv, hpre, e3⟩ => ⟨I4.kIn, ?_⟩) hst hpl
  refine run_fn F1 hr F4 .nil pass0 I4 rv ?_
  rw [List.append_nil]
  exact ⟨g, hpre, fun v H4 e4 p4 => q v H4 ((e2.trans e3).trans e4) (hk v H4 (((e1.trans e2).trans e3).trans e4) p4)⟩
end
section
variable {P : Program} {w : World} {K : PySem.W.Frag} {mg : Str → Option Value} {base : Heap} {CL CS CO CV CW : Addr}
def gCare (vs zs : List V) : List V := vs ++ [.str "mask", .int 0, .bl true] ++ zs ++ [.str "row"]
abbrev spCareful (K : PySem.W.Frag) (CL CS CO CW : Addr) : Sp := PuSp (fun (g : Addr × LoopD) vs H => vs = [.ref g.1] ∧ LoopAt CL CS CO H g.1 g.2 ∧ 1 ≤ g.2.ss.length ∧ g.2.ss.length ≤ 5) fun g v H' => ∃ x, v = .ref x ∧ WayAt K CW H' x ⟨0, true, [(0, (g.2.ss.length : Int) - 1)]⟩
theorem ok_Way_careful {f : Addr} {fd : FuncData} (F : Fd K "careful" "Way.careful" s_Way_careful [] [] f fd) (T : Txt K mg CL CS CO CV CW) (h1 : HasM P w K mg base CO "__len__" 1 ["self"] (spLoopLen CL CS CO))
    (hI : HasIK P w K mg base CW 6 ["self", "tail", "ahead", "guard", "bundles", "joining"] ["bundles"] gCare (InSp CW (preWay K) (postWay K))) : FnOk P w K mg base CX0 8 f fd ["loop"] (spCareful K CL CS CO CW) := by
  refine F.ok sc_Way_careful (fun vs H Q E h => ?_) (fun cdv A outer s H vs Q E hr h => ?_)
  · obtain ⟨g, ⟨rfl, _⟩, _⟩ := h
    rfl
  · obtain ⟨⟨b, L⟩, ⟨rfl, hL, l1, l5⟩, k⟩ := h
    dsimp only at hL l1 l5 k
    obtain ⟨dx2, ql, qs, d2, la, sa, hb2, hin⟩ := id hL
    refine wb_ret (vp_makeK (P := fun v H' => ∃ x, v = .ref x ∧ WayAt K CW H' x ⟨0, true, [(0, (L.ss.length : Int) - 1)]⟩) hI T.gW hr (vk_cons (P := fun v H' => Tp H' v (.tuple [.tuple [.int 0, .int ((L.ss.length : Int) - 1)]])) (vt_tup (vta_cons (vt_tup (vta_cons (vt_of v_int (.int _)) (vta_cons (vt_of (v_sub (v_lenO (n := L.ss.length) h1 (hr.mono (by decide)) T.len (v_nm (v := .ref b) 0 rfl) hb2 (b, L) (fun H4 e4 => ⟨rfl, hL.ex e4⟩) (fun v H4 q => q) (by omega)) v_int) (.int _)) vta_nil)) (by simp)) vta_nil) (by simp)) mono_tp fun v H1 e1 p1 => vk_nil)
      fun vs H1 e1 p1 => ?_) k
    obtain ⟨v, r, rfl, t, rfl⟩ := p1
    obtain ⟨q, xs, rfl, hq, tx⟩ := tp_tup t
    refine ⟨rfl, (⟨0, true, [(0, (L.ss.length : Int) - 1)]⟩, .ref q), _, fun x => rfl, fun H2 e2 => ⟨rfl, ⟨by show (0 : Int) ≤ 0; decide, by show (0 : Int) ≤ 3; decide, by simp [BunOk]; omega⟩, ⟨q, xs, rfl, SqT.of (e2 _ _ hq), tx.ex e2⟩⟩, fun H' x dx fs e' h0 hx po => ⟨x, rfl, ?_⟩⟩
    obtain ⟨d, rfl, hd, hb⟩ := po
    exact ⟨dx, d, _, hx, hd, hb⟩
end
end Vw
end
section
/-! Events; loads_of, end_of. -/
namespace Vw
open PySem PySem.Spec PyProof.Rows L2 Evl
structure Ev where
  w : Str
  n : Nat
  a : Nat
  s : Nat
def evD (e : Ev) : PyData := .tuple [.str e.w, .int e.n, .int e.a, .int e.s]
theorem tp_ev {H : Hp} {v : V} {e : Ev} (h : Tp H v (evD e)) : ∃ p, v = .ref p ∧ H p = some (.tup [.str e.w, .int e.n, .int e.a, .int e.s]) := by
  unfold evD at h
  cases h with
  | @tup a xs _ e t =>
    cases t with
    | cons h1 t =>
      cases t with
      | cons h2 t =>
        cases t with
        | cons h3 t =>
          cases t with
          | cons h4 t =>
            cases t
            cases h1
            cases h2
            cases h3
            cases h4
            exact ⟨a, rfl, e⟩
def LoopD.srcsAt (L : LoopD) (n : Nat) : List Int := ((L.ss[n]?).map Stm.srcs).getD []
def LoopD.tgtAt (L : LoopD) (n : Nat) : Option Int := (L.ss[n]?).bind Stm.tgt
def loadsP (L : LoopD) (n a : Nat) : List Ev := (List.range (L.srcsAt n).length).map fun s => ⟨"load", n, a, s⟩
def endP (L : LoopD) (n a : Nat) : Ev := ⟨if L.tgtAt n = none then "add" else "store", n, a, 0⟩
def iterP (L : LoopD) (a : Nat) (ns : List Nat) : List Ev := ns.flatMap fun n => loadsP L n a ++ [endP L n a]
def plainP (L : LoopD) (count : Nat) : List Ev := (List.range count).flatMap fun a => iterP L a (List.range L.ss.length)
/-- a new list of events -/
def EvL (es : List Ev) : VPd := fun v H' => ∃ q xs, v = .ref q ∧ H' q = some (.lst xs) ∧ TpAll H' xs (es.map evD)
/-- the same, the list not at av -/
def EvA (av : Addr) (es : List Ev) : VPd := fun v H' => ∃ q xs, v = .ref q ∧ q ≠ av ∧ H' q = some (.lst xs) ∧ TpAll H' xs (es.map evD)
theorem EvA.l {av : Addr} {es : List Ev} {v : V} {H : Hp} (h : EvA av es v H) : EvL es v H := let ⟨q, xs, a, _, b, c⟩ := h; ⟨q, xs, a, b, c⟩
theorem mono_evA {av : Addr} {es : List Ev} : Mono (EvA av es) := fun v H H' e ⟨q, xs, h1, h0, h2, h3⟩ => ⟨q, xs, h1, h0, e _ _ h2, h3.ex e⟩
theorem mono_evL {es : List Ev} : Mono (EvL es) := fun v H H' e ⟨q, xs, h1, h2, h3⟩ => ⟨q, xs, h1, e _ _ h2, h3.ex e⟩
/-- what a comprehension gives -/
theorem outs_tp {d : Nat → PyData} {H : Hp} {keep : Nat → Bool} : ∀ {n : Nat} {ys : List V}, Outs keep (fun i v H' => Tp H' v (d i)) n ys H → TpAll H ys (((List.range n).filter keep).map d) := by
  intro n ys o
  have key : ∀ (ks : List Nat) (ys : List V), Paired (fun (i : Nat) (y : V) => Tp H y (d i)) ks ys → TpAll H ys (ks.map d) := by
    intro ks
    induction ks with
    | nil => intro ys h; cases h; exact .nil
    | cons k ks ih =>
      intro ys h
      cases h with
      | cons r t => exact .cons r (ih _ t)
  exact key _ _ o
theorem newL_evA {H : Hp} {av : Addr} (hav : H av ≠ none) {es : List Ev} {f : Nat → Ev} {n : Nat} (he : es = (List.range n).map f) {v : V} {H' : Hp} (h : NewL H (fun _ => true) (fun i v H' => Tp H' v (evD (f i))) n v H') : EvA av es v H' := by
  obtain ⟨q, ys, h1, h2, h3, h4⟩ := h
  refine ⟨q, ys, h1, fun e => hav (e ▸ h2), h3, ?_⟩
  have z := outs_tp (d := fun i => evD (f i)) h4
  rw [List.filter_eq_self.mpr (fun _ _ => rfl)] at z
  rw [he, List.map_map]
  exact z
section
variable {P : Program} {w : World} {K : PySem.W.Frag} {mg : Str → Option Value} {base : Heap} {CL CS CO CV CW : Addr}
section
variable {X : Cx} {σ : L2.St} {H H' : Hp} {a b e : Expr} {pos p : Pos}
/-- loop.statements[number] -/
theorem v_stm {L : LoopD} {oa dx ql qs d la sn : Addr} {sa : List Addr} {n : Nat} (T : Txt X.K X.mg CL CS CO CV CW) (g1 : HasG X.prog X.w X.K X.mg X.base CO "statements" 1 (spGetV CO "kept_statements")) (hr : Room 2 X.A) (ho : VE X σ H a (.ref oa)) (ha : H oa = some (.ins CO dx (fsO ql qs d))) (hin : LoopIn CL CS H L ql qs d la sa)
    (hb : VE X σ H b (.int (n : Int))) (hs : sa[n]? = some sn) (hi : PlainIx b := by intro _ _; rfl) (hab : attributeBase a "statements" X.env (eval a X.env) = eval a X.env := by rfl) : VE X σ H (.Subscript (.Attribute a "statements" p) b pos) (.ref sn) := by
  refine v_ixT (v := .ref sn) (pp := qs) (xs := sa.map V.ref) ?_ hb (SqT.of hin.sn) (atI_nat ?_) hi
  · exact vp_prop g1 T.cO hr ho ha (oa, dx, _, .ref qs) (fun H3 e3 => ⟨rfl, e3 _ _ ha, fsO_stms _ _ _⟩) (fun _ _ _ q => q) hab
  · rw [List.getElem?_map, hs]
    rfl
end
abbrev spLoads (CL CS CO : Addr) : Sp := PuSp (fun (g : Addr × LoopD × Nat × Nat × Addr) vs H => vs = [.ref g.1, .int (g.2.2.1 : Int), .int (g.2.2.2.1 : Int)] ∧ LoopAt CL CS CO H g.1 g.2.1 ∧ LoopOk g.2.1 ∧ g.2.2.1 < g.2.1.ss.length ∧ H g.2.2.2.2 ≠ none) fun g => EvA g.2.2.2.2 (loadsP g.2.1 g.2.2.1 g.2.2.2.1)
theorem ok_loads_of {f : Addr} {fd : FuncData} (F : Fd K "loads_of" "loads_of" s_loads_of [] [] f fd) (T : Txt K mg CL CS CO CV CW) (g1 : HasG P w K mg base CO "statements" 1 (spGetV CO "kept_statements")) (g2 : HasG P w K mg base CS "sources" 1 (spGetV CS "kept_sources")) :
    FnOk P w K mg base CX0 3 f fd ["loop", "number", "at"] (spLoads CL CS CO) := by
  refine F.ok sc_loads_of (fun vs H Q E h => ?_) (fun cdv A outer s H vs Q E hr h => ?_)
  · obtain ⟨g, ⟨rfl, _⟩, _⟩ := h
    rfl
  · obtain ⟨⟨oa, L, n, at_, av⟩, ⟨rfl, ⟨dx, ql, qs, d, la, sa, ha, hin⟩, ok, hn, hav⟩, k⟩ := h
    dsimp only at ha hin ok hn hav k
    obtain ⟨sn, hs, dS, vt, vs, hsn, t1, t2⟩ := paired_get1 hin.sa (List.getElem?_eq_getElem hn)
    obtain ⟨q, xs, rfl, hq, tx⟩ := tp_tup t2
    have hf := (ok.ok _ (List.getElem_mem hn)).few
    have hlen : xs.length = (L.srcsAt n).length := by
      rw [tx.length, List.length_map]
      unfold LoopD.srcsAt
      rw [List.getElem?_eq_getElem hn]
      rfl
    have hf3 : xs.length ≤ 3 := by rw [tx.length, List.length_map]; exact hf
    refine wb_ret (vp_lc [("source", 3)] sc_loads_of.nd (blkOk_by (N := n_loads_of) (sc := defScope s_loads_of) (by decide +kernel)) (fun i => imm_tp) (vi_R1 (n := (L.srcsAt n).length) (k := (xs.length : Int)) T.range (v_len T.len (vp_prop g2 T.cS hr (v_stm T g1 hr (v_nm (v := .ref oa) 0 rfl) ha hin (v_nm 1 rfl) hs) hsn (sn, dS, _, .ref q) (fun H3 e3 => ⟨rfl, e3 _ _ hsn, fsS_sources _ _ _⟩) (fun _ _ _ q => q)) fun H' e' => .inr ⟨xs, SqT.of (e' _ _ hq), rfl⟩) (by omega) (by omega) (by omega)) (by omega) (keep := fun _ => true) (P0 := fun i v H' => Tp H' v (evD ⟨"load", n, at_, i⟩)) fun i x H2 hi e2 hx => ?_)
      fun v H1 e1 q => k v H1 e1 (newL_evA hav rfl q)
    subst hx
    refine turn_nm 3 sc_loads_of.nd rfl rfl rfl (fun s H0 C cl fp => ts_nil) fun _ s H0 C cl fp => ?_
    exact vt_tup (vta_cons (vt_of v_str (.str _)) (vta_cons (vt_of (v_nm 1 rfl) (.int _)) (vta_cons (vt_of (v_nm 2 rfl) (.int _)) (vta_cons (vt_of (v_nm 3 rfl) (.int _)) vta_nil)))) (by simp)
abbrev spEnd (CL CS CO : Addr) : Sp := PuSp (fun (g : Addr × LoopD × Nat × Nat) vs H => vs = [.ref g.1, .int (g.2.2.1 : Int), .int (g.2.2.2 : Int)] ∧ LoopAt CL CS CO H g.1 g.2.1 ∧ g.2.2.1 < g.2.1.ss.length) fun g v H' => Tp H' v (evD (endP g.2.1 g.2.2.1 g.2.2.2))
theorem ok_end_of {f : Addr} {fd : FuncData} (F : Fd K "end_of" "end_of" s_end_of [] [] f fd) (T : Txt K mg CL CS CO CV CW) (g1 : HasG P w K mg base CO "statements" 1 (spGetV CO "kept_statements")) (g2 : HasG P w K mg base CS "target" 1 (spGetV CS "kept_target")) :
    FnOk P w K mg base CX0 3 f fd ["loop", "number", "at"] (spEnd CL CS CO) := by
  refine F.ok sc_end_of (fun vs H Q E h => ?_) (fun cdv A outer s H vs Q E hr h => ?_)
  · obtain ⟨g, ⟨rfl, _⟩, _⟩ := h
    rfl
  · obtain ⟨⟨oa, L, n, at_⟩, ⟨rfl, ⟨dx, ql, qs, d, la, sa, ha, hin⟩, hn⟩, k⟩ := h
    dsimp only at ha hin hn k
    obtain ⟨sn, hs, dS, vt, vs, hsn, t1, t2⟩ := paired_get1 hin.sa (List.getElem?_eq_getElem hn)
    have et : decide (vt = V.non) = decide (L.tgtAt n = none) := by
      unfold LoopD.tgtAt
      rw [List.getElem?_eq_getElem hn, Option.bind_some]
      cases hh : (L.ss[n]).tgt with
      | none =>
        rw [hh] at t1
        cases t1
        simp
      | some o =>
        rw [hh] at t1
        obtain ⟨p, rfl, _⟩ := tp_ref t1
        simp
    refine wb_ret (P := fun v H' => Tp H' v (evD (endP L n at_))) (vt_tup (vta_cons (vp_if (VT.is (t_isN (vp_prop g2 T.cS hr (v_stm T g1 hr (v_nm (v := .ref oa) 0 rfl) ha hin (v_nm 1 rfl) hs) hsn (sn, dS, _, vt) (fun H3 e3 => ⟨rfl, e3 _ _ hsn, fsS_target _ _ _⟩) (fun _ _ _ q => q))) et) (fun ht => vt_of v_str ?_) (fun ht => vt_of v_str ?_)) (vta_cons (vt_of (v_nm 1 rfl) (.int _)) (vta_cons (vt_of (v_nm 2 rfl) (.int _)) (vta_cons (vt_of v_int (.int _)) vta_nil)))) (by simp)) k
    · show Tp H _ (.str (if L.tgtAt n = none then "add" else "store"))
      rw [if_pos (of_decide_eq_true ht)]
      exact .str _
    · show Tp H _ (.str (if L.tgtAt n = none then "add" else "store"))
      rw [if_neg (of_decide_eq_false ht)]
      exact .str _
end
end Vw
end
section
/-! iteration_events, plain_list. -/
namespace Vw
open PySem PySem.Spec PyProof.Rows L2 Evl
theorem take_snoc {α : Type} {l : List α} {i : Nat} {x : α} (h : l[i]? = some x) : l.take (i + 1) = l.take i ++ [x] := by
  rw [List.take_succ, h]
  rfl
theorem loadsP_len (L : LoopD) (ok : LoopOk L) (n a : Nat) : (loadsP L n a).length ≤ 3 := by
  unfold loadsP
  rw [List.length_map, List.length_range]
  unfold LoopD.srcsAt
  cases h : L.ss[n]? with
  | none => simp
  | some s => exact (ok.ok s (List.mem_of_getElem? h)).few
theorem flat_len {α : Type} {f : α → List Ev} {k : Nat} (h : ∀ x, (f x).length ≤ k) : ∀ l : List α, (l.flatMap f).length ≤ k * l.length
  | [] => by simp
  | x :: l => by
    rw [List.flatMap_cons, List.length_append, List.length_cons, Nat.mul_succ]
    have := flat_len h l
    have := h x
    omega
theorem iterP_len (L : LoopD) (ok : LoopOk L) (a : Nat) (ns : List Nat) : (iterP L a ns).length ≤ 4 * ns.length := flat_len (fun n => by
  rw [List.length_append]
  have := loadsP_len L ok n a
  simp
  omega) ns
theorem plainP_len (L : LoopD) (ok : LoopOk L) (c : Nat) : (plainP L c).length ≤ 20 * c := by
  have := flat_len (f := fun a => iterP L a (List.range L.ss.length)) (k := 20) (fun a => by
    have := iterP_len L ok a (List.range L.ss.length)
    rw [List.length_range] at this
    have := ok.l5
    omega) (List.range c)
  rw [List.length_range] at this
  exact this
theorem iterP_snoc (L : LoopD) (a n : Nat) (ns : List Nat) : iterP L a (ns ++ [n]) = iterP L a ns ++ loadsP L n a ++ [endP L n a] := by
  unfold iterP
  rw [List.flatMap_append, List.flatMap_cons, List.flatMap_nil, List.append_nil, List.append_assoc]
theorem plainP_succ (L : LoopD) (c : Nat) : plainP L (c + 1) = plainP L c ++ iterP L c (List.range L.ss.length) := by
  unfold plainP
  rw [List.range_succ, List.flatMap_append, List.flatMap_cons, List.flatMap_nil, List.append_nil]
def natV (ns : List Nat) : List V := ns.map fun (n : Nat) => V.int (Int.ofNat n)
section
variable {P : Program} {w : World} {K : PySem.W.Frag} {mg : Str → Option Value} {base : Heap} {CL CS CO CV CW : Addr}
abbrev spIter (CL CS CO : Addr) : Sp := PuSp (fun (g : Addr × LoopD × Nat × Addr × List Nat × Addr) vs H => vs = [.ref g.1, .int (g.2.2.1 : Int), .ref g.2.2.2.1] ∧ LoopAt CL CS CO H g.1 g.2.1 ∧ LoopOk g.2.1 ∧ H g.2.2.2.1 = some (.lst (natV g.2.2.2.2.1)) ∧ (∀ n ∈ g.2.2.2.2.1, n < g.2.1.ss.length) ∧ g.2.2.2.2.1.length ≤ 100 ∧ H g.2.2.2.2.2 ≠ none) fun g => EvA g.2.2.2.2.2 (iterP g.2.1 g.2.2.1 g.2.2.2.2.1)
theorem ok_iteration_events {f : Addr} {fd : FuncData} (F : Fd K "iteration_events" "iteration_events" s_iteration_events [] [] f fd) (T : Txt K mg CL CS CO CV CW) (h1 : Has P w K mg base "loads_of" 3 ["loop", "number", "at"] (spLoads CL CS CO)) (h2 : Has P w K mg base "end_of" 3 ["loop", "number", "at"] (spEnd CL CS CO)) :
    FnOk P w K mg base CX0 4 f fd ["loop", "at", "numbers"] (spIter CL CS CO) := by
  refine F.ok sc_iteration_events (fun vs H Q E h => ?_) (fun cdv A outer s H vs Q E hr h => ?_)
  · obtain ⟨g, ⟨rfl, _⟩, _⟩ := h
    rfl
  · obtain ⟨⟨oa, L, at_, nl, ns, av⟩, ⟨rfl, hL, ok, hnl, hns, hlen, hav⟩, k⟩ := h
    dsimp only at hL ok hnl hns hlen hav k
    have hao : ∀ {H1 : Hp}, Ex H H1 → H1 oa ≠ none := fun {H1} e z => by
      obtain ⟨dx, _, _, _, _, _, h, _⟩ := hL
      rw [e _ _ h] at z
      cases z
    refine wb_set 3 sc_iteration_events.nd (v_lst va_nil (by simp)) fun v H1 e1 p1 => ?_
    obtain ⟨f, rfl, hf0, hf⟩ := p1
    refine wb_forL (v_nm (v := .ref nl) 2 rfl) fun v H2 e2 p2 => ⟨nl, natV ns, fun i σ' H' => Ex H H' ∧ (∃ xs, H' f = some (.lst xs) ∧ TpAll H' xs ((iterP L at_ (ns.take i)).map evD)) ∧ ∃ o, σ' = [some (.ref oa), some (.int (at_ : Int)), some (.ref nl), some (.ref f), o],
      p2, sq_of (e2 _ _ (e1 _ _ hnl)), ⟨e1.trans e2, ⟨[], e2 _ _ hf, .nil⟩, none, rfl⟩, fun i σ' H' _ r => sq_of (r.1 _ _ hnl), fun i x σ' H' hx r => ?_, fun σ' H' r => ?_⟩
    · obtain ⟨eH, ⟨xs, hxs, tx⟩, o, rfl⟩ := r
      unfold natV at hx
      rw [List.getElem?_map] at hx
      obtain ⟨n, hn, rfl⟩ := Option.map_eq_some_iff.mp hx
      have hnL := hns n (List.mem_of_getElem? hn)
      have bnd : xs.length ≤ 400 := by
        rw [tx.length, List.length_map]
        have := iterP_len L ok at_ (ns.take i)
        rw [List.length_take] at this
        omega
      refine wg_nm 4 sc_iteration_events.nd ?_
      refine wb_ext (xs := xs) hxs (v_nm (v := .ref f) 3 rfl) (P := EvL (loadsP L n at_)) (vp_call h1 (hr.mono (by decide)) (oa, L, n, at_, oa) (va_cons (v_nm 0 rfl) (va_cons (v_nm 4 rfl) (va_cons (v_nm 1 rfl) va_nil))) (fun vs H3 e3 q => ⟨q, hL.ex (eH.trans e3), ok, hnL, hao (eH.trans e3)⟩) (fun v H3 e3 q => q.l)) fun v H3 e3 p3 => ?_
      obtain ⟨q, zs, rfl, hq, tz⟩ := p3
      have lz : zs.length ≤ 3 := by
        rw [tz.length, List.length_map]
        exact loadsP_len L ok n at_
      refine ⟨q, zs, rfl, hq, by omega, ?_⟩
      have h3 := e3 _ _ hxs
      have E3 : Ex H (upd H3 f (.lst (xs ++ zs))) := (eH.trans e3).mut hf0
      have T3 : TpAll (upd H3 f (.lst (xs ++ zs))) (xs ++ zs) ((iterP L at_ (ns.take i)).map evD ++ (loadsP L n at_).map evD) := ((tx.ex e3).append tz).kt (kt_lst h3)
      refine wb_app (xs := xs ++ zs) upd_same (v_nm (v := .ref f) 3 rfl) (vp_call h2 (hr.mono (by decide)) (oa, L, n, at_) (va_cons (v_nm 0 rfl) (va_cons (v_nm 4 rfl) (va_cons (v_nm 1 rfl) va_nil))) (fun vs H4 e4 q => ⟨q, hL.ex (E3.trans e4), hnL⟩) (fun v H4 e4 q => q)) (by rw [List.length_append]; omega) fun v H4 e4 p4 => ?_
      refine wb_nil ⟨(E3.trans e4).mut hf0, ⟨_, upd_same, ?_⟩, _, rfl⟩
      rw [take_snoc hn, iterP_snoc, List.map_append, List.map_append]
      exact ((T3.ex e4).append (.cons p4 .nil)).kt (kt_lst (e4 _ _ upd_same))
    · obtain ⟨eH, ⟨xs, hxs, tx⟩, o, rfl⟩ := r
      refine wb_ret (v_nm (v := .ref f) 3 rfl) fun v H3 e3 p3 => k v H3 (eH.trans e3) ?_
      subst p3
      refine ⟨f, xs, rfl, fun e => hav (e ▸ hf0), e3 _ _ hxs, ?_⟩
      have lw : (natV ns).length = ns.length := by simp [natV]
      rw [lw, List.take_length] at tx
      exact tx.ex e3
section
variable {X : Cx} {σ : L2.St} {H H' : Hp} {a b e : Expr} {pos p p2 : Pos}
theorem vap_v {es : List Expr} {S : List V → Hp → Prop} {v : V} (h : VE X σ H e v) (hr : VAP X σ H es S) (hs : starEach (e :: es) X.env = (false, eval e X.env) :: starEach es X.env := by rfl) :
    VAP X σ H (e :: es) fun vs H' => ∃ r, vs = v :: r ∧ S r H' := fun H1 e1 Q q =>
  toA (pa_cons we_pe wa_pa hs) (h H1 e1 _ fun u H2 e2 p2 => hr H2 (e1.trans e2) _ fun us H3 e3 p3 => q _ H3 (e2.trans e3) ⟨us, by rw [p2], p3⟩)
/-- list(range(k)) -/
theorem v_listR1 {k : Nat} (hl : X.mg "list" = none) (hm : X.mg "range" = none) (h : VE X σ H a (.int (k : Int))) (hk : k ≤ 100000) (hc : X.calm = true := by rfl) (hg : Gl X "list" := by rfl) (hg2 : Gl X "range" := by rfl) (na : starEach [.Call (.Name "range" p) [a] [] pos] X.env = (false, eval (.Call (.Name "range" p) [a] [] pos) X.env) :: starEach [] X.env := by rfl)
    (na2 : starEach [a] X.env = (false, eval a X.env) :: starEach [] X.env := by rfl) {pos2 : Pos} : VP X σ H (.Call (.Name "list" p2) [.Call (.Name "range" p) [a] [] pos] [] pos2) fun v H' => ∃ q, v = .ref q ∧ H' q = some (.lst (natV (List.range k))) := vp_by (pe_listRg hc hg hl (prg_1 hg2 hm we_pe na2) na) fun H1 e1 Q q =>
  h H1 e1 _ fun v H2 e2 p2 => by
    subst p2
    refine ⟨(k : Int), rfl, RgOk.of_le (by omega) (by omega) (by omega) (by omega), fun z hz => q _ _ (e2.trans (Ex.new hz)) ⟨z, rfl, ?_⟩⟩
    have e : rgV 0 (k : Int) = natV (List.range k) := by
      unfold rgV natV
      simp
    rw [e]
    exact upd_same
/-- list(range(i, j)) -/
theorem v_listR2 {i j : Nat} (hl : X.mg "list" = none) (hm : X.mg "range" = none) (h : VE X σ H a (.int (i : Int))) (h2 : VE X σ H b (.int (j : Int))) (hk : j ≤ 100000) (hi : i ≤ 100000) (hc : X.calm = true := by rfl) (hg : Gl X "list" := by rfl) (hg2 : Gl X "range" := by rfl) (na : starEach [.Call (.Name "range" p) [a, b] [] pos] X.env = (false, eval (.Call (.Name "range" p) [a, b] [] pos) X.env) :: starEach [] X.env := by rfl)
    (na2 : starEach [a, b] X.env = (false, eval a X.env) :: starEach [b] X.env := by rfl) (nb : starEach [b] X.env = (false, eval b X.env) :: starEach [] X.env := by rfl) (hp : (backTo pos (starEach [b] X.env)).any (·.1) = false := by rfl) {pos2 : Pos} : VP X σ H (.Call (.Name "list" p2) [.Call (.Name "range" p) [a, b] [] pos] [] pos2) fun v H' => ∃ q, v = .ref q ∧ H' q = some (.lst (natV (List.range' i (j - i)))) := vp_by (pe_listRg hc hg hl (prg_2 hg2 hm we_pe we_pe na2 nb hp) na) fun H1 e1 Q q =>
  h H1 e1 _ fun v H2 e2 p2 => h2 H2 (e1.trans e2) _ fun v3 H3 e3 p3 => by
    subst p2 p3
    refine ⟨(i : Int), (j : Int), rfl, rfl, RgOk.of_le (by omega) (by omega) (by omega) (by omega), fun z hz => q _ _ ((e2.trans e3).trans (Ex.new hz)) ⟨z, rfl, ?_⟩⟩
    have e : rgV (i : Int) (j : Int) = natV (List.range' i (j - i)) := by
      unfold rgV natV
      rw [List.range'_eq_map_range, List.map_map, show ((j : Int) - (i : Int)).toNat = j - i by omega]
      apply List.map_congr_left
      intro x _
      simp
    rw [e]
    exact upd_same
end
abbrev spPlain (CL CS CO : Addr) : Sp := PuSp (fun (g : Addr × LoopD × Nat) vs H => vs = [.ref g.1, .int (g.2.2 : Int)] ∧ LoopAt CL CS CO H g.1 g.2.1 ∧ LoopOk g.2.1 ∧ g.2.2 ≤ 2000) fun g => EvL (plainP g.2.1 g.2.2)
theorem ok_plain_list {f : Addr} {fd : FuncData} (F : Fd K "plain_list" "plain_list" s_plain_list [] [] f fd) (T : Txt K mg CL CS CO CV CW) (h1 : Has P w K mg base "iteration_events" 4 ["loop", "at", "numbers"] (spIter CL CS CO)) (m1 : HasM P w K mg base CO "__len__" 1 ["self"] (spLoopLen CL CS CO)) :
    FnOk P w K mg base CX0 5 f fd ["loop", "count"] (spPlain CL CS CO) := by
  refine F.ok sc_plain_list (fun vs H Q E h => ?_) (fun cdv A outer s H vs Q E hr h => ?_)
  · obtain ⟨g, ⟨rfl, _⟩, _⟩ := h
    rfl
  · obtain ⟨⟨oa, L, c⟩, ⟨rfl, hL, ok, hc⟩, k⟩ := h
    dsimp only at hL ok hc k
    have h5 := ok.l5
    refine wb_set 2 sc_plain_list.nd (v_lst va_nil (by simp)) fun v H1 e1 p1 => ?_
    obtain ⟨f, rfl, hf0, hf⟩ := p1
    refine wb_forR (k := (c : Int)) T.range (v_nm 1 rfl) (by omega) (by omega) (fun i σ' H' => Ex H H' ∧ (∃ xs, H' f = some (.lst xs) ∧ TpAll H' xs ((plainP L i).map evD)) ∧ ∃ o, σ' = [some (.ref oa), some (.int (c : Int)), some (.ref f), o])
      (fun H2 e2 => ⟨e1.trans e2, ⟨[], e2 _ _ hf, .nil⟩, none, rfl⟩) (fun i σ' H' hi r => ?_) (fun σ' H' r => ?_)
    · obtain ⟨eH, ⟨xs, hxs, tx⟩, o, rfl⟩ := r
      have bnd : xs.length ≤ 40000 := by
        rw [tx.length, List.length_map]
        have := plainP_len L ok i
        omega
      have hL2 := hL.ex eH
      obtain ⟨dx, ql, qs, d, la, sa, ha, hin⟩ := id hL2
      refine wg_nm 3 sc_plain_list.nd ?_
      refine wb_ext (xs := xs) hxs (v_nm (v := .ref f) 2 rfl) (P := EvL (iterP L i (List.range L.ss.length))) (vp_callD h1 hr (vap_v (v_nm (v := .ref oa) 0 rfl) (vap_v (v_nm (v := .int (i : Int)) 3 rfl) (vap_cons (v_listR1 (k := L.ss.length) T.list T.range
        ((v_lenO (n := L.ss.length) m1 (hr.mono (by decide)) T.len (v_nm (v := .ref oa) 0 rfl) ha (oa, L) (fun H4 e4 => ⟨rfl, hL2.ex e4⟩) (fun v H4 q => q) (by omega))) (by omega)) mono_at fun _ _ _ _ => vap_nil))) fun vs H3 e3 q => ?_) fun v H3 e3 p3 => ?_
      · obtain ⟨_, rfl, _, rfl, _, _, rfl, ⟨nl, rfl, hnl⟩, rfl⟩ := q
        exact ⟨(oa, L, i, nl, List.range L.ss.length, nl), ⟨rfl, hL2.ex e3, ok, hnl, fun n hn => List.mem_range.mp hn, by rw [List.length_range]; omega, fun e => by rw [hnl] at e; cases e⟩, fun v H' e' q => q.l⟩
      · obtain ⟨q, zs, rfl, hq, tz⟩ := p3
        have lz : zs.length ≤ 20 := by
          rw [tz.length, List.length_map]
          have := iterP_len L ok i (List.range L.ss.length)
          rw [List.length_range] at this
          omega
        refine ⟨q, zs, rfl, hq, by omega, wb_nil ⟨(eH.trans e3).mut hf0, ⟨_, upd_same, ?_⟩, _, rfl⟩⟩
        rw [plainP_succ, List.map_append]
        exact ((tx.ex e3).append tz).kt (kt_lst (e3 _ _ hxs))
    · obtain ⟨eH, ⟨xs, hxs, tx⟩, o, rfl⟩ := r
      refine wb_ret (v_nm (v := .ref f) 2 rfl) fun v H3 e3 p3 => k v H3 (eH.trans e3) ?_
      subst p3
      exact ⟨f, xs, rfl, e3 _ _ hxs, tx.ex e3⟩
end
end Vw
end
section
/-! cell_of; dicts with tuple keys. -/
namespace Vw
open PySem PySem.Spec PyProof.Rows L2 Evl
section
variable {X : Cx} {σ : L2.St} {H H' : Hp} {a b e o tg i value f : Expr} {v x y : V} {P : VPd} {pos p pos' : Pos} {D : Ends} {sts body : List Stmt}
/-- target = e -/
theorem wb_asg (h : VP X σ H e P) (k : ∀ v H1, Ex H H1 → P v H1 → WG X tg v σ H1 fun σ' H' => WB X sts D σ' H') (hs : swapsWithSole [tg] e pos.line X.env = pure false := by rfl) (hw : swappedStores [tg] e X.env = pure none := by rfl)
    (h1 : (assignEach [tg] X.env).map (·.2) = [assign tg X.env] := by rfl) : WB X (.Assign [tg] e pos :: sts) D σ H :=
  wb_cons (toS (ps_asg we_pe wg_pg hs hw h1) (h H (Ex.refl H) _ k))
theorem wg_three (j1 j2 j3 : Nat) {n1 n2 n3 : Str} {p1 p2 p3 : Pos} {k : Nat} {l : Addr} {x1 x2 x3 : V} {Q : L2.St → Hp → Prop} (hN : X.N.Nodup) (hl : SqT X.K H l [x1, x2, x3]) (q : Q (((σ.set j1 (some x1)).set j2 (some x2)).set j3 (some x3)) H) (hc : X.calm = true := by rfl) (h1 : X.N[j1]? = some n1 := by rfl) (h2 : X.N[j2]? = some n2 := by rfl) (h3 : X.N[j3]? = some n3 := by rfl)
    (l1 : X.env.scope.names.lookup n1 = some .local := by rfl) (l2 : X.env.scope.names.lookup n2 = some .local := by rfl) (l3 : X.env.scope.names.lookup n3 = some .local := by rfl) :
    WG X (.Tuple [.Name n1 p1, .Name n2 p2, .Name n3 p3] k p) (.ref l) σ H Q := toG (pg_tup hc (pgs_cons (pg_name hN h1 (.inl l1) (.inr l1)) (pgs_cons (pg_name hN h2 (.inl l2) (.inr l2)) (pgs_cons (pg_name hN h3 (.inl l3) (.inr l3)) pgs_nil)))) ⟨l, _, rfl, hl, rfl, _, _, rfl, _, _, rfl, _, _, rfl, rfl, q⟩
theorem wg_four (j1 j2 j3 j4 : Nat) {n1 n2 n3 n4 : Str} {p1 p2 p3 p4 : Pos} {k : Nat} {l : Addr} {x1 x2 x3 x4 : V} {Q : L2.St → Hp → Prop} (hN : X.N.Nodup) (hl : SqT X.K H l [x1, x2, x3, x4]) (q : Q ((((σ.set j1 (some x1)).set j2 (some x2)).set j3 (some x3)).set j4 (some x4)) H) (hc : X.calm = true := by rfl) (h1 : X.N[j1]? = some n1 := by rfl) (h2 : X.N[j2]? = some n2 := by rfl) (h3 : X.N[j3]? = some n3 := by rfl) (h4 : X.N[j4]? = some n4 := by rfl)
    (l1 : X.env.scope.names.lookup n1 = some .local := by rfl) (l2 : X.env.scope.names.lookup n2 = some .local := by rfl) (l3 : X.env.scope.names.lookup n3 = some .local := by rfl) (l4 : X.env.scope.names.lookup n4 = some .local := by rfl) :
    WG X (.Tuple [.Name n1 p1, .Name n2 p2, .Name n3 p3, .Name n4 p4] k p) (.ref l) σ H Q := toG (pg_tup hc (pgs_cons (pg_name hN h1 (.inl l1) (.inr l1)) (pgs_cons (pg_name hN h2 (.inl l2) (.inr l2)) (pgs_cons (pg_name hN h3 (.inl l3) (.inr l3)) (pgs_cons (pg_name hN h4 (.inl l4) (.inr l4)) pgs_nil))))) ⟨l, _, rfl, hl, rfl, _, _, rfl, _, _, rfl, _, _, rfl, _, _, rfl, rfl, q⟩
/-- a tuple that is a dict's key -/
def KeyT (k : List Key) : VPd := fun v H' => ∃ b, v = .ref b ∧ H' b = some (.tup (k.map kV))
theorem mono_key {k : List Key} : Mono (KeyT k) := fun _ _ _ e ⟨b, h1, h2⟩ => ⟨b, h1, e _ _ h2⟩
/-- d[key] = value -/
theorem wb_dput {d : Addr} {kvs : List (List Key × V)} {key : List Key} (hu : X.A.units + 1 < cLine) (hv : VP X σ H value P) (ho : VE X σ H o (.ref d)) (hk : VP X σ H i (KeyT key)) (hd : H d = some (.dT kvs)) (hl : kvs.length < 100000)
    (k : ∀ v H1, Ex H H1 → P v H1 → ∀ H3, Ex H1 H3 → WB X sts D σ (upd H3 d (.dT (putK kvs key v)))) (hs : swapsWith value (some (.Subscript o i pos')) pos.line X.env = pure false := by rfl) : WB X (.Assign [.Subscript o i pos'] value pos :: sts) D σ H :=
  wb_cons (toS (ps_dput hu we_pe we_pe we_pe hs) (hv H (Ex.refl H) _ fun v H1 e1 p1 => ho H1 e1 _ fun x H2 e2 p2 => hk H2 (e1.trans e2) _ fun y H3 e3 p3 => by
    subst p2
    obtain ⟨b, rfl, hb⟩ := p3
    exact ⟨d, _, rfl, DPut.t (((e1.trans e2).trans e3) _ _ hd) hb (sz_lt hl), k v H1 e1 p1 H3 (e2.trans e3)⟩))
/-- d.get(key, None) -/
theorem v_dgetN {d : Addr} {kvs : List (List Key × V)} {key : List Key} {apos : Pos} {j : Nat} (hu : X.A.units + 1 < cLine) (ho : VE X σ H o (.ref d)) (hk : VP X σ H e (KeyT key)) (hd : H d = some (.dT kvs)) (m : M2 X o "get" apos e (.Constant .none j p) pos := by exact ⟨rfl, rfl, rfl, rfl⟩) :
    VE X σ H (.Call (.Attribute o "get" apos) [e, .Constant .none j p] [] pos) ((valV kvs key).getD .non) := vp_by (pe_dget2 hu we_pe we_pe we_pe m) fun H1 e1 Q q =>
  ho H1 e1 _ fun x H2 e2 p2 => by
    subst p2
    refine ⟨d, rfl, .inr ⟨kvs, .inl ((e1.trans e2) _ _ hd)⟩, hk H2 (e1.trans e2) _ fun y H3 e3 p3 => v_non H3 ((e1.trans e2).trans e3) _ fun z H4 e4 p4 => ?_⟩
    subst p4
    obtain ⟨b, rfl, hb⟩ := p3
    exact ⟨_, DGet.t ((((e1.trans e2).trans e3).trans e4) _ _ hd) (e4 _ _ hb), q _ H4 ((e2.trans e3).trans e4) rfl⟩
/-- d[key], there -/
theorem v_dgetT {d : Addr} {kvs : List (List Key × V)} {key : List Key} (hu : X.A.units + 1 < cLine) (ho : VE X σ H o (.ref d)) (hk : VP X σ H i (KeyT key)) (hd : H d = some (.dT kvs)) (hv : valV kvs key = some v) (hs : NoSl i := by intro _ _; rfl) :
    VE X σ H (.Subscript o i pos) v := vp_by (pe_dget hu we_pe we_pe hs) fun H1 e1 Q q =>
  ho H1 e1 _ fun x H2 e2 p2 => hk H2 (e1.trans e2) _ fun y H3 e3 p3 => by
    subst p2
    obtain ⟨b, rfl, hb⟩ := p3
    exact ⟨d, v, rfl, by rw [← hv]; exact DGet.t (((e1.trans e2).trans e3) _ _ hd) hb, q _ H3 (e2.trans e3) rfl⟩
end
/-! ### cells -/
def offP (L : LoopD) (e : Ev) : Int := if e.w = "store" then (L.tgtAt e.n).getD 0 else ((L.srcsAt e.n)[e.s]?).getD 0
def cellP (L : LoopD) (e : Ev) : Int := L.st * (e.a : Int) + offP L e
def CellOk (L : LoopD) (e : Ev) : Prop := e.n < L.ss.length ∧ ((e.w = "store" ∧ (L.tgtAt e.n).isSome = true) ∨ (e.w = "load" ∧ e.s < (L.srcsAt e.n).length))
def cellK (z : Str) (c : Int) : List Key := [Sum.inr z, Sum.inl c]
section
variable {P : Program} {w : World} {K : PySem.W.Frag} {mg : Str → Option Value} {base : Heap} {CL CS CO CV CW : Addr}
abbrev spCell (CL CS CO : Addr) : Sp := PuSp (fun (g : Addr × LoopD × Addr × Ev) vs H => vs = [.ref g.1, .ref g.2.2.1] ∧ LoopAt CL CS CO H g.1 g.2.1 ∧ LoopOk g.2.1 ∧ Tp H (.ref g.2.2.1) (evD g.2.2.2) ∧ CellOk g.2.1 g.2.2.2) fun g => KeyT (cellK g.2.1.z (cellP g.2.1 g.2.2.2))
theorem ok_cell_of {f : Addr} {fd : FuncData} (F : Fd K "cell_of" "cell_of" s_cell_of [] [] f fd) (T : Txt K mg CL CS CO CV CW) (g1 : HasG P w K mg base CO "statements" 1 (spGetV CO "kept_statements")) (g2 : HasG P w K mg base CS "target" 1 (spGetV CS "kept_target")) (g3 : HasG P w K mg base CS "sources" 1 (spGetV CS "kept_sources"))
    (m1 : HasM P w K mg base CO "place" 1 ["self", "ref", "at"] (spPlace CL CS CO)) : FnOk P w K mg base CX0 3 f fd ["loop", "event"] (spCell CL CS CO) := by
  refine F.ok sc_cell_of (fun vs H Q E h => ?_) (fun cdv A outer s H vs Q E hr h => ?_)
  · obtain ⟨g, ⟨rfl, _⟩, _⟩ := h
    rfl
  · obtain ⟨⟨oa, L, ea, ev⟩, ⟨rfl, hL, ok, te, hn, hc⟩, k⟩ := h
    dsimp only at hL ok te hn hc k
    obtain ⟨dx, ql, qs, d, la, sa, ha, hin⟩ := id hL
    obtain ⟨pe, epe, hpe⟩ := tp_ev te
    cases epe
    obtain ⟨sn, hs, dS, vt, vs, hsn, t1, t2⟩ := paired_get1 hin.sa (List.getElem?_eq_getElem hn)
    obtain ⟨q, xs, rfl, hq, tx⟩ := tp_tup t2
    refine wb_asg (v_nm (v := .ref ea) 1 rfl) fun v H1 e1 p1 => ?_
    subst p1
    refine wg_four 2 3 4 5 sc_cell_of.nd (SqT.of (e1 _ _ hpe)) ?_
    refine wb_set 6 sc_cell_of.nd (v_stm T g1 hr (v_nm (v := .ref oa) 0 rfl) (e1 _ _ ha) (hin.kl (kl_ex e1)) (v_nm 3 rfl) hs) fun v H2 e2 p2 => ?_
    subst p2
    have e12 := e1.trans e2
    refine wb_ret (P := KeyT (cellK L.z (cellP L ev))) (vp_methD m1 T.cO (hr.mono (by decide)) (v_nm (v := .ref oa) 0 rfl) (e12 _ _ ha) (fsO_no _ _ _ (by decide +kernel) (by decide +kernel) (by decide +kernel)) (vap_cons (P := fun v H' => ∃ p, v = .ref p ∧ H' p = some (.tup [.str L.z, .int (offP L ev)])) (vp_if (VT.is (t_eq (v_nm (v := .str ev.w) 2 rfl) v_str) (sd rfl)) (fun ht => ?_) (fun ht => ?_)) mono_at fun _ _ _ _ => vap_cons (v_nm (v := .int (ev.a : Int)) 4 rfl) mono_eq fun _ _ _ _ => vap_nil) fun vs H3 e3 p3 => ?_) fun v H3 e3 p3 => k v H3 (e12.trans e3) p3
    · have hw := of_decide_eq_true ht
      rcases hc with ⟨_, hc⟩ | ⟨hc, _⟩
      · obtain ⟨off, ho⟩ := Option.isSome_iff_exists.mp hc
        have ho2 : (L.ss[ev.n]).tgt = some off := by
          unfold LoopD.tgtAt at ho
          rw [List.getElem?_eq_getElem hn] at ho
          exact ho
        rw [ho2] at t1
        obtain ⟨pt, rfl, hpt⟩ := tp_ref t1
        refine VP.imp (vp_prop (P := fun v _ => v = .ref pt) g2 T.cS hr (v_nm (v := .ref sn) 6 rfl) (e12 _ _ hsn) (sn, dS, _, .ref pt) (fun H3 e3 => ⟨rfl, e3 _ _ (e12 _ _ hsn), fsS_target _ _ _⟩) (fun _ _ _ q => q)) fun v H3 e3 q => ⟨pt, q, ?_⟩
        rw [e3 _ _ (e12 _ _ hpt)]
        unfold offP
        rw [if_pos hw, ho]
        rfl
      · rw [hw] at hc
        exact absurd hc (by decide +kernel)
    · have hw := of_decide_eq_false ht
      rcases hc with ⟨hc, _⟩ | ⟨_, hc⟩
      · exact absurd hc hw
      · have es : L.srcsAt ev.n = (L.ss[ev.n]).srcs := by
          unfold LoopD.srcsAt
          rw [List.getElem?_eq_getElem hn]
          rfl
        rw [es] at hc
        have hlen : xs.length = (L.ss[ev.n]).srcs.length := by rw [tx.length, List.length_map]
        obtain ⟨x, hx⟩ := get_at hlen hc
        obtain ⟨dd, hdd, tt⟩ := tpAll_get tx hx
        rw [List.getElem?_map] at hdd
        obtain ⟨off, ho, rfl⟩ := Option.map_eq_some_iff.mp hdd
        obtain ⟨pt, rfl, hpt⟩ := tp_ref tt
        refine VP.imp (v_ixT (v := .ref pt) (pp := q) (xs := xs) (vp_prop g3 T.cS hr (v_nm (v := .ref sn) 6 rfl) (e12 _ _ hsn) (sn, dS, _, .ref q) (fun H3 e3 => ⟨rfl, e3 _ _ (e12 _ _ hsn), fsS_sources _ _ _⟩) (fun _ _ _ q => q)) (v_nm (v := .int (ev.s : Int)) 5 rfl) (SqT.of (e12 _ _ hq)) (atI_nat hx)) fun v H3 e3 q => ⟨pt, q, ?_⟩
        rw [e3 _ _ (e12 _ _ hpt)]
        unfold offP
        rw [if_neg hw, es, ho]
        rfl
    · obtain ⟨_, _, rfl, ⟨pr, rfl, hpr⟩, _, _, rfl, rfl, rfl⟩ := p3
      exact ⟨(oa, L, pr, offP L ev, (ev.a : Int)), ⟨rfl, hL.ex (e12.trans e3), hpr, ok.s1, ok.s6⟩, fun v H' e' q => q⟩
end
end Vw
end
section
/-! flow: mirrored dicts. -/
namespace Vw
open PySem PySem.Spec PyProof.Rows L2 Evl
section
variable {κ α : Type} [DecidableEq κ]
def getM (m : List (κ × α)) (k : κ) : Option α := (m.find? fun kv => decide (kv.1 = k)).map (·.2)
def putM (m : List (κ × α)) (k : κ) (v : α) : List (κ × α) :=
  if (m.any fun kv => decide (kv.1 = k)) = true then m.map (fun kv => if kv.1 = k then (kv.1, v) else kv) else m ++ [(k, v)]
theorem getM_cons_pos {p : κ × α} {r : List (κ × α)} {k : κ} (e : p.1 = k) : getM (p :: r) k = some p.2 := by simp [getM, e]
theorem getM_cons_neg {p : κ × α} {r : List (κ × α)} {k : κ} (e : ¬ p.1 = k) : getM (p :: r) k = getM r k := by simp [getM, e]
theorem putM_len (m : List (κ × α)) (k : κ) (v : α) : (putM m k v).length ≤ m.length + 1 := by
  unfold putM
  split <;> simp
theorem getM_any (k : κ) : ∀ m : List (κ × α), (m.any fun kv => decide (kv.1 = k)) = (getM m k).isSome
  | [] => rfl
  | p :: r => by
    rw [List.any_cons]
    by_cases e : p.1 = k
    · simp only [getM_cons_pos e, decide_eq_true e, Bool.true_or, Option.isSome_some]
    · rw [getM_cons_neg e, decide_eq_false e, Bool.false_or]; exact getM_any k r
theorem getM_map (k j : κ) (y : α) : ∀ m : List (κ × α), getM (m.map fun kv => if kv.1 = k then (kv.1, y) else kv) j = (getM m j).map fun x => if j = k then y else x
  | [] => rfl
  | p :: r => by
    have ih := getM_map k j y r
    rw [List.map_cons]
    by_cases h : p.1 = k
    · rw [if_pos h]
      by_cases e : p.1 = j
      · rw [getM_cons_pos (by exact e), getM_cons_pos e, Option.map_some, if_pos (e.symm.trans h)]
      · rw [getM_cons_neg (by exact e), getM_cons_neg e, ih]
    · rw [if_neg h]
      by_cases e : p.1 = j
      · rw [getM_cons_pos e, getM_cons_pos e, Option.map_some, if_neg (fun z => h (e.trans z))]
      · rw [getM_cons_neg e, getM_cons_neg e, ih]
theorem getM_snoc (k j : κ) (y : α) : ∀ m : List (κ × α), getM m k = none → getM (m ++ [(k, y)]) j = if j = k then some y else getM m j
  | [], _ => by
    by_cases e : j = k
    · rw [if_pos e]; exact getM_cons_pos e.symm
    · rw [if_neg e]; exact getM_cons_neg fun z => e z.symm
  | p :: r, hn => by
    rw [List.cons_append]
    by_cases h : p.1 = k
    · rw [getM_cons_pos h] at hn; cases hn
    · rw [getM_cons_neg h] at hn
      by_cases e : p.1 = j
      · rw [getM_cons_pos e, getM_cons_pos e, if_neg (fun z => h (e.trans z))]
      · rw [getM_cons_neg e, getM_cons_neg e, getM_snoc k j y r hn]
theorem getM_put (m : List (κ × α)) (k j : κ) (y : α) : getM (putM m k y) j = if j = k then some y else getM m j := by
  unfold putM
  by_cases a : (m.any fun kv => decide (kv.1 = k)) = true
  · rw [if_pos a, getM_map]
    rw [getM_any] at a
    by_cases e : j = k
    · subst e
      obtain ⟨x, hx⟩ := Option.isSome_iff_exists.mp a
      rw [hx, if_pos rfl, Option.map_some, if_pos rfl]
    · rw [if_neg e]
      cases getM m j <;> simp [e]
  · rw [if_neg a]
    rw [getM_any] at a
    exact getM_snoc k j y m (by cases h : getM m k with | none => rfl | some x => rw [h] at a; exact absurd rfl a)
end
abbrev Wr := Option (Nat × Nat)
def wrD : Wr → PyData
  | none => .none
  | some w => .tuple [.int (w.1 : Int), .int (w.2 : Int)]
theorem wrD_inj {a b : Wr} (h : wrD a = wrD b) : a = b := by
  cases a with
  | none =>
    cases b with
    | none => rfl
    | some y => cases h
  | some x =>
    cases b with
    | none => cases h
    | some y =>
      simp only [wrD, PyData.tuple.injEq, List.cons.injEq, PyData.int.injEq, and_true] at h
      obtain ⟨h1, h2⟩ := h
      exact congrArg some (Prod.ext (Int.ofNat.inj h1) (Int.ofNat.inj h2))
def loadK (l : Nat × Nat × Nat) : List Key := [Sum.inl (l.1 : Int), Sum.inl (l.2.1 : Int), Sum.inl (l.2.2 : Int)]
theorem loadK_inj {a b : Nat × Nat × Nat} (h : loadK a = loadK b) : a = b := by
  simp only [loadK, List.cons.injEq, Sum.inl.injEq, and_true] at h
  obtain ⟨h1, h2, h3⟩ := h
  exact Prod.ext (Int.ofNat.inj h1) (Prod.ext (Int.ofNat.inj h2) (Int.ofNat.inj h3))
theorem cellK_inj {z : Str} {a b : Int} (h : cellK z a = cellK z b) : a = b := by
  simp only [cellK, List.cons.injEq, Sum.inl.injEq, and_true] at h
  exact h.2
/-- the dict at d is the mirrored one -/
def DicKv {κ : Type} (enc : κ → List Key) (H : Hp) (m : List (κ × Wr)) (kvs : List (List Key × V)) : Prop := Paired (fun (kw : κ × Wr) (kv : List Key × V) => kv.1 = enc kw.1 ∧ Tp H kv.2 (wrD kw.2)) m kvs
theorem DicKv.kt {κ : Type} {enc : κ → List Key} {H H' : Hp} {m : List (κ × Wr)} {kvs : List (List Key × V)} (h : DicKv enc H m kvs) (k : Kt H H') : DicKv enc H' m kvs := Paired.mapP h fun a b q => ⟨q.1, q.2.kt k⟩
def DicAt {κ : Type} (enc : κ → List Key) (H : Hp) (d : Addr) (m : List (κ × Wr)) : Prop := ∃ kvs, H d = some (.dT kvs) ∧ DicKv enc H m kvs
theorem DicAt.ex {κ : Type} {enc : κ → List Key} {H H' : Hp} {d : Addr} {m : List (κ × Wr)} (h : DicAt enc H d m) (e : Ex H H') : DicAt enc H' d m := let ⟨kvs, a, b⟩ := h; ⟨kvs, e _ _ a, b.kt (kt_ex e)⟩
theorem DicAt.kl {κ : Type} {enc : κ → List Key} {H H' : Hp} {d : Addr} {m : List (κ × Wr)} (h : DicAt enc H d m) (e : KL H H') : DicAt enc H' d m := let ⟨kvs, a, b⟩ := h; ⟨kvs, e _ _ a (fun _ z => nomatch z), b.kt e.kt⟩
theorem dic_get {κ : Type} [DecidableEq κ] {enc : κ → List Key} (inj : ∀ {a b : κ}, enc a = enc b → a = b) {H : Hp} (k : κ) : ∀ {m : List (κ × Wr)} {kvs : List (List Key × V)}, DicKv enc H m kvs → (getM m k = none ∧ valV kvs (enc k) = none) ∨ ∃ w v, getM m k = some w ∧ valV kvs (enc k) = some v ∧ Tp H v (wrD w)
  | _, _, .nil => .inl ⟨rfl, rfl⟩
  | _, _, .cons (a := a) (b := b) q t => by
    by_cases e : a.1 = k
    · exact .inr ⟨a.2, b.2, getM_cons_pos e, valV_pos (by rw [q.1, e]), q.2⟩
    · rw [getM_cons_neg e, valV_neg (fun z => e (inj (q.1.symm.trans z)))]
      exact dic_get inj k t
theorem paired_mapB {α β : Type} {F : α → β → Prop} {f : α → α} {g : β → β} (h : ∀ a b, F a b → F (f a) (g b)) : ∀ {l : List α} {r : List β}, Paired F l r → Paired F (l.map f) (r.map g)
  | _, _, .nil => .nil
  | _, _, .cons q t => .cons (h _ _ q) (paired_mapB h t)
theorem dic_put {κ : Type} [DecidableEq κ] {enc : κ → List Key} (inj : ∀ {a b : κ}, enc a = enc b → a = b) {H : Hp} {k : κ} {w : Wr} {v : V} {m : List (κ × Wr)} {kvs : List (List Key × V)} (h : DicKv enc H m kvs) (t : Tp H v (wrD w)) : DicKv enc H (putM m k w) (putK kvs (enc k) v) := by
  unfold putM putK
  have e : (kvs.any fun kv => decide (kv.1 = enc k)) = (m.any fun kv => decide (kv.1 = k)) := by
    rw [valV_any, getM_any]
    rcases dic_get inj k h with ⟨h1, h2⟩ | ⟨_, _, h1, h2, _⟩
    · rw [h1, h2]; rfl
    · rw [h1, h2]; rfl
  rw [e]
  split
  · exact paired_mapB (fun a b q => by
      by_cases z : a.1 = k
      · rw [if_pos z, if_pos (by rw [q.1, z])]
        exact ⟨q.1, t⟩
      · rw [if_neg z, if_neg (fun y => z (inj (q.1.symm.trans y)))]
        exact q) h
  · exact paired_snoc h ⟨rfl, t⟩
/-! ### flow, mirrored -/
abbrev Ori := List ((Nat × Nat × Nat) × Wr)
abbrev Wri := List (Int × Wr)
def stepP (L : LoopD) (m : Ori × Wri) (e : Ev) : Ori × Wri :=
  if e.w = "load" then (putM m.1 (e.n, e.a, e.s) ((getM m.2 (cellP L e)).getD none), m.2)
  else if e.w = "store" then (m.1, putM m.2 (cellP L e) (some (e.n, e.a))) else m
def flowP (L : LoopD) (es : List Ev) : Ori × Wri := es.foldl (stepP L) ([], [])
def EvOk (L : LoopD) (e : Ev) : Prop := e.n < L.ss.length ∧ ((e.w = "store" ∧ (L.tgtAt e.n).isSome = true) ∨ (e.w = "load" ∧ e.s < (L.srcsAt e.n).length) ∨ e.w = "add")
theorem foldl_take_snoc {α β : Type} (f : β → α → β) (b : β) (l : List α) {i : Nat} {x : α} (h : l[i]? = some x) : (l.take (i + 1)).foldl f b = f ((l.take i).foldl f b) x := by
  rw [take_snoc h, List.foldl_append]
  rfl
theorem flow_len (L : LoopD) : ∀ (es : List Ev) (m : Ori × Wri), (es.foldl (stepP L) m).1.length ≤ m.1.length + es.length ∧ (es.foldl (stepP L) m).2.length ≤ m.2.length + es.length
  | [], m => ⟨Nat.le_refl _, Nat.le_refl _⟩
  | e :: es, m => by
    rw [List.foldl_cons, List.length_cons]
    have h := flow_len L es (stepP L m e)
    have s : (stepP L m e).1.length ≤ m.1.length + 1 ∧ (stepP L m e).2.length ≤ m.2.length + 1 := by
      unfold stepP
      split
      · exact ⟨putM_len _ _ _, by simp⟩
      · split
        · exact ⟨by simp, putM_len _ _ _⟩
        · exact ⟨by simp, by simp⟩
    omega
section
variable {P : Program} {w : World} {K : PySem.W.Frag} {mg : Str → Option Value} {base : Heap} {CL CS CO CV CW : Addr}
/-- the pair that flow gives -/
def FlowP (z : Str) (m : Ori × Wri) : VPd := fun v H' => ∃ p d1 d2, v = .ref p ∧ H' p = some (.tup [.ref d1, .ref d2]) ∧ DicAt loadK H' d1 m.1 ∧ DicAt (cellK z) H' d2 m.2
abbrev spFlow (CL CS CO : Addr) : Sp := PuSp (fun (g : Addr × LoopD × V × List Ev) vs H => vs = [.ref g.1, g.2.2.1] ∧ LoopAt CL CS CO H g.1 g.2.1 ∧ LoopOk g.2.1 ∧ EvL g.2.2.2 g.2.2.1 H ∧ (∀ e ∈ g.2.2.2, EvOk g.2.1 e) ∧ g.2.2.2.length ≤ 50000) fun g => FlowP g.2.1.z (flowP g.2.1 g.2.2.2)
theorem ok_flow {f : Addr} {fd : FuncData} (F : Fd K "flow" "flow" s_flow [] [] f fd) (T : Txt K mg CL CS CO CV CW) (h1 : Has P w K mg base "cell_of" 3 ["loop", "event"] (spCell CL CS CO)) : FnOk P w K mg base CX0 4 f fd ["loop", "events"] (spFlow CL CS CO) := by
  refine F.ok sc_flow (fun vs H Q E h => ?_) (fun cdv A outer s H vs Q E hr h => ?_)
  · obtain ⟨g, ⟨rfl, _⟩, _⟩ := h
    rfl
  · obtain ⟨⟨oa, L, ve, es⟩, ⟨rfl, hL, ok, ⟨el, xs, rfl, hel, tx⟩, hes, hlen⟩, k⟩ := h
    dsimp only at hL ok hel tx hes hlen k
    have hlx : xs.length = es.length := by rw [tx.length, List.length_map]
    refine wb_cons (toS (ps_par (i := 2) (j := 3) rfl sc_flow.nd rfl rfl (by decide) rfl rfl (pa_cons pe_dnewT (pa_cons pe_dnewT pa_nil)) rfl) ?_)
    intro d1 h1n d2 h2n
    refine ⟨.ref d1, .ref d2, rfl, ?_⟩
    have hne : d2 ≠ d1 := fun e => by rw [e, upd_same] at h2n; cases h2n
    have h2n' : H d2 = none := by rw [← h2n, upd_ne hne]
    have E0 : Ex H (upd (upd H d1 (.dT [])) d2 (.dT [])) := (Ex.new h1n).trans (Ex.new h2n)
    refine wb_forL (v_nm (v := .ref el) 1 rfl) fun v H2 e2 p2 => ⟨el, xs, fun i σ' H' => Ex H H' ∧ (DicAt loadK H' d1 (flowP L (es.take i)).1 ∧ DicAt (cellK L.z) H' d2 (flowP L (es.take i)).2) ∧ ∃ o, σ' = [some (.ref oa), some (.ref el), some (.ref d1), some (.ref d2), o],
      p2, sq_of (e2 _ _ (E0 _ _ hel)), ⟨E0.trans e2, ⟨⟨[], e2 _ _ (by rw [upd_ne hne.symm]; exact upd_same), .nil⟩, ⟨[], e2 _ _ upd_same, .nil⟩⟩, none, rfl⟩, fun i σ' H' _ r => sq_of (r.1 _ _ hel), fun i x σ' H' hx r => ?_, fun σ' H' r => ?_⟩
    · obtain ⟨eH, ⟨⟨k1, hd1, hk1⟩, ⟨k2, hd2, hk2⟩⟩, o, rfl⟩ := r
      obtain ⟨dd, hdd, te⟩ := tpAll_get tx hx
      rw [List.getElem?_map] at hdd
      obtain ⟨ev, hev, rfl⟩ := Option.map_eq_some_iff.mp hdd
      obtain ⟨hn, hk⟩ := hes ev (List.mem_of_getElem? hev)
      obtain ⟨pe, rfl, hpe⟩ := tp_ev te
      have hpe' := eH _ _ hpe
      have st : flowP L (es.take (i + 1)) = stepP L (flowP L (es.take i)) ev := foldl_take_snoc _ _ _ hev
      have fl := flow_len L (es.take i) ([], [])
      have lt : (es.take i).length ≤ 50000 := by rw [List.length_take]; omega
      have l1 : k1.length ≤ 50000 := by
        have := Paired.length hk1
        have := fl.1
        simp only [List.length_nil] at this
        unfold flowP at *
        omega
      have l2 : k2.length ≤ 50000 := by
        have := Paired.length hk2
        have := fl.2
        simp only [List.length_nil] at this
        unfold flowP at *
        omega
      refine wg_nm 4 sc_flow.nd ?_
      refine wb_if (VT.is (t_eq (v_ixT (v := .str ev.w) (v_nm (v := .ref pe) 4 rfl) v_int (SqT.of hpe') rfl) v_str) (sd rfl)) (fun ht H3 e3 => ?_) (fun ht H3 e3 => ?_)
      · have hw := of_decide_eq_true ht
        have hc : CellOk L ev := by
          refine ⟨hn, ?_⟩
          rcases hk with ⟨z, _⟩ | ⟨z, q⟩ | z
          · rw [hw] at z; exact absurd z (by decide +kernel)
          · exact .inr ⟨z, q⟩
          · rw [hw] at z; exact absurd z (by decide +kernel)
        refine wb_dput (key := loadK (ev.n, ev.a, ev.s)) (hu_of hr) (v_dgetN (key := cellK L.z (cellP L ev)) (hu_of hr) (v_nm (v := .ref d2) 3 rfl) (vp_call h1 hr (oa, L, pe, ev) (va_cons (v_nm 0 rfl) (va_cons (v_nm 4 rfl) va_nil)) (fun vs H4 e4 q => ⟨q, hL.ex ((eH.trans e3).trans e4), ok, te.ex ((eH.trans e3).trans e4), hc⟩) (fun v H4 e4 q => q)) (e3 _ _ hd2)) (v_nm (v := .ref d1) 2 rfl) ((v_slT (v_nm (v := .ref pe) 4 rfl) (SqT.of (e3 _ _ hpe')) (vo_some (i := 1) v_int) vo_none (by show ¬ (HT.sIx 4 0 (some 1) = 0 ∧ HT.sIx 4 4 none = 4); decide)).imp fun v H4 e4 ⟨q, a, _, b⟩ => ⟨q, a, b⟩) (e3 _ _ hd1) (by omega) fun v H4 e4 p4 H5 e5 => ?_
        subst p4
        have e35 := (e3.trans e4).trans e5
        refine wb_nil (wb_nil ⟨?_, ?_, _, rfl⟩)
        · exact (eH.trans e35).mut h1n
        · rw [st]
          unfold stepP
          rw [if_pos hw]
          have hd1' := e35 _ _ hd1
          have ku : Kt H5 (upd H5 d1 (.dT (putK k1 (loadK (ev.n, ev.a, ev.s)) ((valV k2 (cellK L.z (cellP L ev))).getD .non)))) := kt_upd fun xs e => by rw [hd1'] at e; cases e
          have kx := (kt_ex e35).trans ku
          have tv : Tp H' ((valV k2 (cellK L.z (cellP L ev))).getD .non) (wrD ((getM (flowP L (es.take i)).2 (cellP L ev)).getD none)) := by
            rcases dic_get cellK_inj (cellP L ev) hk2 with ⟨q1, q2⟩ | ⟨w1, v1, q1, q2, q3⟩
            · rw [q1, q2]
              exact .non
            · rw [q1, q2]
              exact q3
          refine ⟨⟨_, upd_same, dic_put loadK_inj (hk1.kt kx) (tv.kt kx)⟩, ⟨k2, ?_, hk2.kt kx⟩⟩
          · rw [upd_ne hne]
            exact e35 _ _ hd2
      · have hw := of_decide_eq_false ht
        refine wb_if (VT.is (t_eq (v_ixT (v := .str ev.w) (v_nm (v := .ref pe) 4 rfl) v_int (SqT.of (e3 _ _ hpe')) rfl) v_str) (sd rfl)) (fun ht H4 e4 => ?_) (fun ht H4 e4 => ?_)
        · have hw2 := of_decide_eq_true ht
          have hc : CellOk L ev := by
            refine ⟨hn, ?_⟩
            rcases hk with ⟨z, q⟩ | ⟨z, q⟩ | z
            · exact .inl ⟨z, q⟩
            · exact absurd z hw
            · rw [hw2] at z; exact absurd z (by decide +kernel)
          have e34 := e3.trans e4
          refine wb_dput (key := cellK L.z (cellP L ev)) (P := fun v H' => Tp H' v (wrD (some (ev.n, ev.a)))) (hu_of hr) ((v_slT (v_nm (v := .ref pe) 4 rfl) (SqT.of (e34 _ _ hpe')) (vo_some (i := 1) v_int) (vo_some (i := 3) v_int) (by show ¬ (HT.sIx 4 0 (some 1) = 0 ∧ HT.sIx 4 4 (some 3) = 4); decide)).imp fun v H5 e5 ⟨q, a, _, b⟩ => by subst a; exact .tup b (.cons (.int _) (.cons (.int _) .nil))) (v_nm (v := .ref d2) 3 rfl)
            (vp_call h1 hr (oa, L, pe, ev) (va_cons (v_nm 0 rfl) (va_cons (v_nm 4 rfl) va_nil)) (fun vs H5 e5 q => ⟨q, hL.ex ((eH.trans e34).trans e5), ok, te.ex ((eH.trans e34).trans e5), hc⟩) (fun v H5 e5 q => q)) (e34 _ _ hd2) (by omega) fun v H5 e5 p5 H6 e6 => ?_
          have e36 := (e34.trans e5).trans e6
          refine wb_nil (wb_nil (wb_nil ⟨(eH.trans e36).mut h2n', ?_, _, rfl⟩))
          rw [st]
          unfold stepP
          rw [if_neg hw, if_pos hw2]
          have hd2' := e36 _ _ hd2
          have ku : Kt H6 (upd H6 d2 (.dT (putK k2 (cellK L.z (cellP L ev)) v))) := kt_upd fun xs e => by rw [hd2'] at e; cases e
          have kx := (kt_ex e36).trans ku
          refine ⟨⟨k1, ?_, hk1.kt kx⟩, ⟨_, upd_same, dic_put cellK_inj (hk2.kt kx) ((p5.kt (kt_ex e6)).kt ku)⟩⟩
          rw [upd_ne hne.symm]
          exact e36 _ _ hd1
        · have hw2 := of_decide_eq_false ht
          refine wb_nil (wb_nil (wb_nil ⟨(eH.trans e3).trans e4, ?_, _, rfl⟩))
          rw [st]
          unfold stepP
          rw [if_neg hw, if_neg hw2]
          exact ⟨DicAt.ex ⟨k1, hd1, hk1⟩ (e3.trans e4), DicAt.ex ⟨k2, hd2, hk2⟩ (e3.trans e4)⟩
    · obtain ⟨eH, ⟨q1, q2⟩, o, rfl⟩ := r
      refine wb_ret (v_tupN (va_cons (v_nm (v := .ref d1) 2 rfl) (va_cons (v_nm (v := .ref d2) 3 rfl) va_nil)) (by simp)) fun v H3 e3 ⟨p, a, b⟩ => k v H3 (eH.trans e3) ⟨p, d1, d2, a, b, ?_, ?_⟩
      · rw [hlx, List.take_length] at q1
        exact q1.ex e3
      · rw [hlx, List.take_length] at q2
        exact q2.ex e3
end
end Vw
end
section
/-! [x for y in .. for x in ..] -/
namespace Vw
open PySem PySem.Spec PyProof.Rows L2 Evl
theorem tpAll_take_snoc {H : Hp} {xs : List V} {ds : List PyData} {k : Nat} {v : V} (h : TpAll H xs (ds.take k)) {d : PyData} (hd : ds[k]? = some d) (t : Tp H v d) : TpAll H (xs ++ [v]) (ds.take (k + 1)) := by
  rw [take_snoc hd]
  exact h.append (.cons t .nil)
section
variable {X : Cx} {σ : L2.St} {H H' : Hp} {iter iter1 : Expr} {pos p1 p2 p3 : Pos} {scope : Scope} {n : Nat} {Y : Nat → VPd}
def BI (X : Cx) (scope : Scope) (tg iter : Expr) : TI := fun σ H R => ∀ (s : Shared) (H0 : Hp) (C : Addr) (cl : List (Str × Addr)) (fp : List Addr), WI (X.blk s H0 scope (compEnvC scope cl C X.env) fp) tg iter σ H R
/-- an inner list that is not the one at D -/
def InL (D : Addr) (ds : List PyData) : VPd := fun v H' => ∃ q ys, v = .ref q ∧ q ≠ D ∧ H' q = some (.lst ys) ∧ TpAll H' ys ds
theorem vp_lc2 {nm nm1 : Str} (j j1 : Nat) {own : List (Str × Nat)} (hvs : own.map (·.2) = [j, j1]) (hN : X.N.Nodup) (ok : BlkOk X.N X.env.scope scope own) (hi : VI X σ H (.Name nm p1) iter n Y) (hz : n ≤ 500) (ds : Nat → List PyData) (hm : ∀ i, (ds i).length ≤ 100)
    (hj : X.N[j]? = some nm) (hj1 : X.N[j1]? = some nm1) (lx : (relabel scope X.env).names.lookup nm = some .local) (lx1 : (relabel scope X.env).names.lookup nm1 = some .local)
    (hw : ∀ x, wipe ((wipe σ [j, j1]).set j (some x)) [j, j1] = wipe σ [j, j1]) (hw1 : ∀ x y, wipe ((wipe ((wipe σ [j, j1]).set j (some x)) [j1]).set j1 (some y)) [j1] = wipe ((wipe σ [j, j1]).set j (some x)) [j1])
    (hg : ∀ x y, ((wipe ((wipe σ [j, j1]).set j (some x)) [j1]).set j1 (some y))[j1]? = some (some y)) (hd1 : (nm1 == ("__debug__" : Str)) = false) (hd2 : (nm1 == ("__classdict__" : Str)) = false)
    (step : ∀ i x H2 D, i < n → Ex H H2 → Y i x H2 → H2 D ≠ none → H D = none → Blk X scope fun X' => VP X' ((wipe σ [j, j1]).set j (some x)) H2 iter1 (InL D (ds i))) (hc : X.calm = true := by rfl) (hs : ∀ x, foldedSetIterable iter X.env x = pure x := by intro _; rfl) (hs1 : ∀ env x, foldedSetIterable iter1 env x = pure x := by intro _ _; rfl) :
    VP X σ H (.ListComp (.Name nm1 p3) [⟨.Name nm p1, iter, [], 0⟩, ⟨.Name nm1 p2, iter1, [], 0⟩] scope pos) fun v H' => ∃ q ys, v = .ref q ∧ H q = none ∧ H' q = some (.lst ys) ∧ TpAll H' ys ((List.range n).flatMap ds) := fun H1 e1 Q q =>
  toE (pe_lc2 (vs1 := [j1]) (wi1 := BI X scope (.Name nm1 p2) iter1) (g := BG X scope (.Name nm p1)) (g1 := BG X scope (.Name nm1 p2)) (tt := tYes) (tt1 := tYes) (te := BE X scope (.Name nm1 p3)) hc hN wi_pi ok (by rw [hvs]; intro i h; rw [List.mem_singleton.mp h]; simp)
    (fun s H0 C cl fp => ⟨fun pins s' σ' H' v u Q I r h => h s H0 C cl fp pins s' u I r⟩) (fun s H0 C cl fp => pts_nil) (fun s H0 C cl fp => ⟨fun pins s' σ' H' R I h => h s H0 C cl fp pins s' I⟩)
    (fun s H0 C cl fp => ⟨fun pins s' σ' H' v u Q I r h => h s H0 C cl fp pins s' u I r⟩) (fun s H0 C cl fp => pts_nil) (fun s H0 C cl fp => ⟨fun pins s' σ' H' Q I h => h s H0 C cl fp pins s' I⟩) hs hs1) (by
    rw [hvs]
    refine hi H1 e1 _ fun J H2 e2 S D hD => ?_
    have hDH : H D = none := fresh_back (e1.trans e2) hD
    refine ⟨fun i k H' => k = n - i ∧ i ≤ n ∧ Ex H2 H' ∧ ∃ ys, H' D = some (.lst ys) ∧ TpAll H' ys ((List.range i).flatMap ds), ⟨n, by omega, Nat.zero_le _, Ex.new hD, [], upd_same, .nil⟩, ?_⟩
    rintro i k H' ⟨rfl, hin, e3, ys, hys, ty⟩
    by_cases hlt : i < n
    · refine .inr ⟨S.go i H' hlt e3, fun H4 => i + 1 ≤ n ∧ Ex H2 H4 ∧ ∃ ys, H4 D = some (.lst ys) ∧ TpAll H4 ys ((List.range (i + 1)).flatMap ds), fun H4 ⟨a, b⟩ => ⟨n - (i + 1), by omega, rfl, a, b⟩, fun x H4 y => ?_⟩
      obtain ⟨e4, y4⟩ := S.yld i H' x H4 hlt e3 y
      intro s0 H00 C0 cl0 fp0
      refine toG (X := X.blk s0 H00 scope (compEnvC scope cl0 C0 X.env) fp0) (pg_name hN hj (.inl lx) (.inr lx)) ⟨hw x, ?_⟩
      show BI X scope (.Name nm1 p2) iter1 _ _ _
      intro s1 H01 C1 cl1 fp1
      have hD4 := e4 D _ hys
      refine toI (pi_list we_pe) (step i x H4 D hlt (((e1.trans e2).trans e3).trans e4) y4 (by rw [hD4]; intro z; cases z) hDH s1 H01 C1 cl1 fp1 H4 (Ex.refl _) _ fun v H5 e5 p5 => ?_)
      obtain ⟨l, zs, rfl, hne, hl, tz⟩ := p5
      have lz : zs.length = (ds i).length := tz.length
      refine ⟨l, rfl, ⟨zs, sq_of hl⟩, fun k m H' => m = zs.length - k ∧ k ≤ zs.length ∧ Ex H2 H' ∧ H' l = some (.lst zs) ∧ TpAll H' zs (ds i) ∧ ∃ ys, H' D = some (.lst ys) ∧ TpAll H' ys ((List.range i).flatMap ds ++ (ds i).take k), ⟨zs.length, by omega, Nat.zero_le _, (e3.trans e4).trans e5, hl, tz, ys, e5 D _ hD4, ?_⟩, ?_⟩
      · rw [List.take_zero, List.append_nil]
        exact ty.ex (e4.trans e5)
      · rintro k m H6 ⟨rfl, hk, e6, hl6, tz6, ys6, hys6, ty6⟩
        by_cases hlt2 : k < zs.length
        · refine .inr ⟨⟨zs, zs[k], sq_of hl6, List.getElem?_eq_getElem hlt2⟩, fun H7 => k + 1 ≤ zs.length ∧ Ex H2 H7 ∧ H7 l = some (.lst zs) ∧ TpAll H7 zs (ds i) ∧ ∃ ys, H7 D = some (.lst ys) ∧ TpAll H7 ys ((List.range i).flatMap ds ++ (ds i).take (k + 1)), fun H7 w => ⟨zs.length - (k + 1), by omega, rfl, w⟩, fun z H7 yz => ?_⟩
          obtain ⟨rfl, yz⟩ := yz
          have hz2 := yz zs (sq_of hl6)
          intro s2 H02 C2 cl2 fp2
          refine toG (X := X.blk s2 H02 scope (compEnvC scope cl2 C2 X.env) fp2) (pg_name hN hj1 (.inl lx1) (.inr lx1)) ⟨hw1 x z, ?_⟩
          show BE X scope (.Name nm1 p3) _ _ _
          intro s3 H03 C3 cl3 fp3
          refine toE (X := X.blk s3 H03 scope (compEnvC scope cl3 C3 X.env) fp3) (pe_var (X := X.blk s3 H03 scope (compEnvC scope cl3 C3 X.env) fp3) hj1 (.inl lx1) hd1 hd2) ⟨z, hg x z, ?_⟩
          refine ⟨ys6, hys6, sz_lt ?_, hlt2, e6.mut hD, ?_, ?_, ys6 ++ [z], upd_same, ?_⟩
          · have b1 := ty6.length
            rw [List.length_append] at b1
            have b2 : ∀ m, ((List.range m).flatMap ds).length ≤ 100 * m := fun m => by
              induction m with
              | zero => simp
              | succ m ih =>
                rw [List.range_succ, List.flatMap_append, List.length_append, List.flatMap_cons, List.flatMap_nil, List.append_nil]
                have := hm m
                omega
            have b3 := b2 i
            have b4 := hm i
            rw [List.length_take] at b1
            omega
          · rw [upd_ne hne]
            exact hl6
          · exact tz6.kt (kt_lst hys6)
          · have kx : Kt H7 (upd H7 D (.lst (ys6 ++ [z]))) := kt_lst hys6
            obtain ⟨d, hd, tz7⟩ := tpAll_get tz6 hz2
            rw [take_snoc hd, ← List.append_assoc]
            exact (ty6.append (.cons tz7 .nil)).kt kx
        · have e : k = zs.length := by omega
          subst e
          refine .inl ⟨⟨zs, sq_of hl6, Nat.le_refl _⟩, hlt, e6, ys6, hys6, ?_⟩
          rw [lz, List.take_length] at ty6
          rw [List.range_succ, List.flatMap_append, List.flatMap_cons, List.flatMap_nil, List.append_nil]
          exact ty6
    · have e : i = n := by omega
      subst e
      exact .inl ⟨S.stop H' e3, q _ _ (e2.trans e3) ⟨D, ys, rfl, hDH, hys, ty⟩⟩)
end
end Vw
end
section
/-! wide: check_way, block_number, block_lanes, groups. -/
namespace Vw
open PySem PySem.Spec PyProof.Rows L2 Evl
/-- the bundles of a way: none, or one of all statements -/
def bunP (b : Bool) (n : Nat) : List (Int × Int) := if b then [(0, (n : Int) - 1)] else []
def manyP (w c : Nat) : Nat := (c + w - 1) / w
def lanesP (w c b : Nat) : List Nat := (List.range' (b * w) w).filter fun a => decide (a < c)
def groupsP (b : Bool) (n : Nat) : List (Nat × Nat × Bool) := if b then [(0, n - 1, true)] else (List.range n).map fun k => (k, k, false)
def grpD (g : Nat × Nat × Bool) : PyData := .tuple [.int (g.1 : Int), .int (g.2.1 : Int), .bool g.2.2]
theorem tp_grp {H : Hp} {v : V} {g : Nat × Nat × Bool} (h : Tp H v (grpD g)) : ∃ p, v = .ref p ∧ H p = some (.tup [.int (g.1 : Int), .int (g.2.1 : Int), .bl g.2.2]) := by
  unfold grpD at h
  cases h with
  | @tup a xs _ e t =>
    cases t with
    | cons h1 t =>
      cases t with
      | cons h2 t =>
        cases t with
        | cons h3 t =>
          cases t
          cases h1
          cases h2
          cases h3
          exact ⟨a, rfl, e⟩
section
variable {P : Program} {w : World} {K : PySem.W.Frag} {mg : Str → Option Value} {base : Heap} {CL CS CO CV CW : Addr}
abbrev spCheckWay (K : PySem.W.Frag) (CL CS CO CW : Addr) : Sp := PuSp (fun (g : Addr × LoopD × Addr × WayD) vs H => vs = [.ref g.1, .ref g.2.2.1] ∧ LoopAt CL CS CO H g.1 g.2.1 ∧ WayAt K CW H g.2.2.1 g.2.2.2 ∧ BunOk g.2.2.2.bun ∧ (∀ b ∈ g.2.2.2.bun, b.2 < (g.2.1.ss.length : Int)) ∧ g.2.1.ss.length ≤ 5) fun _ _ _ => True
theorem ok_check_way {f : Addr} {fd : FuncData} (F : Fd K "check_way" "check_way" s_check_way [] [] f fd) (T : Txt K mg CL CS CO CV CW) (m1 : HasM P w K mg base CW "goes_with" 3 ["self", "loop"] (spGoes K CL CS CO CW)) : FnOk P w K mg base CX0 4 f fd ["loop", "way"] (spCheckWay K CL CS CO CW) := by
  refine F.ok sc_check_way (fun vs H Q E h => ?_) (fun cdv A outer s H vs Q E hr h => ?_)
  · obtain ⟨g, ⟨rfl, _⟩, _⟩ := h
    rfl
  · obtain ⟨⟨oa, L, wa, W⟩, ⟨rfl, hL, hW, hb, hl, h5⟩, k⟩ := h
    dsimp only at hL hW hb hl h5 k
    obtain ⟨dx, d, vb, hwa, hd, hbn⟩ := id hW
    refine wb_no (VT.is (t_not (t_val (vp_meth m1 T.cW hr (v_nm (v := .ref wa) 1 rfl) hwa (fsW_no _ (by decide +kernel)) (wa, W, oa, L) (va_cons (v_nm (v := .ref oa) 0 rfl) va_nil) (fun vs H1 e1 q => ⟨by rw [q], hW.ex e1, hL.ex e1, hb, hl, h5⟩) (fun _ _ _ q => q)))) rfl) fun H1 e1 => wb_nil (k _ _ e1 trivial)
abbrev spBlockNumber (K : PySem.W.Frag) (CW : Addr) : Sp := PuSp (fun (g : Addr × WayD × Nat × Nat) vs H => vs = [.ref g.1, .int (g.2.2.1 : Int), .int (g.2.2.2 : Int)] ∧ WayAt K CW H g.1 g.2.1 ∧ 1 ≤ g.2.2.1 ∧ g.2.2.1 ≤ 2000 ∧ g.2.2.2 ≤ 2000) fun g v _ => v = .int (manyP g.2.2.1 g.2.2.2 : Int)
theorem ok_block_number {f : Addr} {fd : FuncData} (F : Fd K "block_number" "block_number" s_block_number [] [] f fd) (T : Txt K mg CL CS CO CV CW) (g1 : HasG P w K mg base CW "tail" 1 (spWayGet K CW fun _ v _ => v = .str "mask")) : FnOk P w K mg base CX0 3 f fd ["way", "width", "count"] (spBlockNumber K CW) := by
  refine F.ok sc_block_number (fun vs H Q E h => ?_) (fun cdv A outer s H vs Q E hr h => ?_)
  · obtain ⟨g, ⟨rfl, _⟩, _⟩ := h
    rfl
  · obtain ⟨⟨wa, W, wd, c⟩, ⟨rfl, hW, h1, h2, h3⟩, k⟩ := h
    dsimp only at hW h1 h2 h3 k
    obtain ⟨dx, d, vb, hwa, hd, hbn⟩ := id hW
    refine wb_no (VT.is (t_eq (x := .str "mask") (vp_prop g1 T.cW hr (v_nm (v := .ref wa) 0 rfl) hwa (wa, W) (fun H1 e1 => ⟨rfl, hW.ex e1⟩) (fun _ _ _ q => q)) v_str) (sd (by decide +kernel))) fun H1 e1 => ?_
    refine wb_ret (v_fdiv (v_sub (v_add (v_nm (v := .int (c : Int)) 2 rfl) (v_nm (v := .int (wd : Int)) 1 rfl)) v_int) (v_nm (v := .int (wd : Int)) 1 rfl) ⟨by omega, by show (wd : Int) < 1073741824; omega⟩) fun v H2 e2 q => k v H2 (e1.trans e2) ?_
    rw [q]
    unfold manyP
    congr 1
    rw [show ((c : Int) + (wd : Int) - 1) = ((c + wd - 1 : Nat) : Int) by omega]
    rfl
abbrev spBlockLanes (K : PySem.W.Frag) (CW : Addr) : Sp := PuSp (fun (g : Addr × WayD × Nat × Nat × Nat) vs H => vs = [.ref g.1, .int (g.2.2.1 : Int), .int (g.2.2.2.1 : Int), .int (g.2.2.2.2 : Int)] ∧ WayAt K CW H g.1 g.2.1 ∧ 1 ≤ g.2.2.1 ∧ g.2.2.1 ≤ 200 ∧ g.2.2.2.1 ≤ 2000 ∧ g.2.2.2.2 ≤ 400) fun g v H' => ∃ q, v = .ref q ∧ H' q = some (.tup (natV (lanesP g.2.2.1 g.2.2.2.1 g.2.2.2.2)))
theorem filter_map_idx {α : Type} (l : List α) (f : Nat → α) (n : Nat) (hf : l = (List.range n).map f) (p : α → Bool) : l.filter p = ((List.range n).filter fun i => p (f i)).map f := by
  rw [hf, List.filter_map]
  rfl
theorem ok_block_lanes {f : Addr} {fd : FuncData} (F : Fd K "block_lanes" "block_lanes" s_block_lanes [] [] f fd) (T : Txt K mg CL CS CO CV CW) (g1 : HasG P w K mg base CW "tail" 1 (spWayGet K CW fun _ v _ => v = .str "mask")) : FnOk P w K mg base CX0 3 f fd ["way", "width", "count", "block"] (spBlockLanes K CW) := by
  refine F.ok sc_block_lanes (fun vs H Q E h => ?_) (fun cdv A outer s H vs Q E hr h => ?_)
  · obtain ⟨g, ⟨rfl, _⟩, _⟩ := h
    rfl
  · obtain ⟨⟨wa, W, wd, c, b⟩, ⟨rfl, hW, h1, h2, h3, h4⟩, k⟩ := h
    dsimp only at hW h1 h2 h3 h4 k
    obtain ⟨dx, d, vb, hwa, hd, hbn⟩ := id hW
    have hmul : b * wd ≤ 400 * 200 := Nat.mul_le_mul h4 h2
    refine wb_set 4 sc_block_lanes.nd (v_listR2 (i := b * wd) (j := b * wd + wd) T.list T.range (VE.is (v_mul (v_nm (v := .int (b : Int)) 3 rfl) (v_nm (v := .int (wd : Int)) 1 rfl) (.inl ⟨by omega, by omega⟩)) (by rw [Int.natCast_mul])) (VE.is (v_add (v_mul (v_nm (v := .int (b : Int)) 3 rfl) (v_nm (v := .int (wd : Int)) 1 rfl) (.inl ⟨by omega, by omega⟩)) (v_nm (v := .int (wd : Int)) 1 rfl)) (by rw [Int.natCast_add, Int.natCast_mul])) (by omega) (by omega)) fun v H1 e1 p1 => ?_
    obtain ⟨l, rfl, hl⟩ := p1
    have hwa1 := e1 _ _ hwa
    refine wb_ifT (VT.is (t_eq (x := .str "mask") (vp_prop g1 T.cW hr (v_nm (v := .ref wa) 0 rfl) hwa1 (wa, W) (fun H2 e2 => ⟨rfl, (hW.ex e1).ex e2⟩) (fun _ _ _ q => q)) v_str) (sd (by decide +kernel))) fun H2 e2 => ?_
    have hlen : (List.range' (b * wd) (b * wd + wd - b * wd)).length = wd := by rw [List.length_range']; omega
    refine wb_ret (vp_ty (P := fun v H' => ∃ q, v = .ref q ∧ H' q = some (.tup (natV (lanesP wd c b)))) call_tuple_of T.tuple boot_tuple (vap_cons (vp_lc (n := wd) (Y := fun i v _ => v = .int ((b * wd + i : Nat) : Int)) [("at", 5)] sc_block_lanes.nd (blkOk_by (N := n_block_lanes) (sc := defScope s_block_lanes) (by decide +kernel)) (fun i => imm_eq) (vi_L (fun i => mono_eq) ((v_nm (v := .ref l) 4 rfl).imp fun v H3 e3 q => ⟨l, _, q, sq_of (e3 _ _ (e2 _ _ hl)), by unfold natV; rw [List.length_map, hlen], fun i x hx => ?_⟩)) (by omega) (keep := fun i => decide (b * wd + i < c)) (P0 := fun i v _ => v = .int ((b * wd + i : Nat) : Int)) fun i x H3 hi e3 hx => ?_) (mono_newL fun i => mono_eq) fun _ _ _ _ => vap_nil) fun vs H3 e3 p3 Q k3 => ?_) fun v H3 e3 q => k v H3 ((e1.trans e2).trans e3) q
    · unfold natV at hx
      rw [List.getElem?_map] at hx
      obtain ⟨m, hm, rfl⟩ := Option.map_eq_some_iff.mp hx
      have hi : i < wd := by
        have := (List.getElem?_eq_some_iff.mp hm).1
        omega
      rw [List.getElem?_range' (by omega)] at hm
      rw [← Option.some.inj hm]
      simp
    · subst hx
      refine turn_nm 5 sc_block_lanes.nd rfl rfl rfl (fun s H0 C cl fp => ts_one (VT.is (t_lt (v_nm (v := .int ((b * wd + i : Nat) : Int)) 5 rfl) (v_nm (v := .int (c : Int)) 2 rfl)) ?_)) fun _ s H0 C cl fp => ?_
      · exact decide_eq_decide.mpr (by omega)
      · exact v_nm 5 rfl
    · obtain ⟨v1, r, rfl, ⟨q, ys, rfl, _, hq, ho⟩, rfl⟩ := p3
      refine ⟨q, ys, rfl, .inl ⟨sq_of hq, fun z hz => k3 _ _ (Ex.new hz) ⟨z, rfl, ?_⟩⟩⟩
      have key : ∀ (ks : List Nat) (ys : List V), Paired (fun (i : Nat) (y : V) => y = .int ((b * wd + i : Nat) : Int)) ks ys → ys = natV (ks.map fun i => b * wd + i) := by
        intro ks
        induction ks with
        | nil => intro ys h; cases h; rfl
        | cons k ks ih =>
          intro ys h
          cases h with
          | cons r t => rw [r, ih _ t]; rfl
      rw [key _ _ ho, upd_same]
      unfold lanesP
      rw [filter_map_idx (List.range' (b * wd) wd) (fun i => b * wd + i) wd (by rw [List.range'_eq_map_range])]
end
end Vw
end
section
/-! groups. -/
namespace Vw
open PySem PySem.Spec PyProof.Rows L2 Evl
def gdone (b : Bool) (n i : Nat) : List (Nat × Nat × Bool) := if b then (if i = 0 then [] else [(0, n - 1, true)]) else (List.range i).map fun k => (k, k, false)
theorem gdone_all (b : Bool) (n : Nat) (h : 1 ≤ n) : gdone b n n = groupsP b n := by
  unfold gdone groupsP
  cases b with
  | true => rw [if_pos rfl, if_pos rfl, if_neg (by omega)]
  | false => rfl
theorem bunP_len (b : Bool) (n : Nat) : (bunP b n).length ≤ 1 := by
  unfold bunP
  cases b <;> simp
def GrpL (gs : List (Nat × Nat × Bool)) : VPd := fun v H' => ∃ q xs, v = .ref q ∧ H' q = some (.lst xs) ∧ TpAll H' xs (gs.map grpD)
section
variable {P : Program} {w : World} {K : PySem.W.Frag} {mg : Str → Option Value} {base : Heap} {CL CS CO CV CW : Addr}
abbrev spGroups (K : PySem.W.Frag) (CL CS CO : Addr) : Sp := PuSp (fun (g : Addr × LoopD × V × Bool) vs H => vs = [.ref g.1, g.2.2.1] ∧ LoopAt CL CS CO H g.1 g.2.1 ∧ BunAt K H g.2.2.1 (bunP g.2.2.2 g.2.1.ss.length) ∧ 1 ≤ g.2.1.ss.length ∧ g.2.1.ss.length ≤ 5) fun g => GrpL (groupsP g.2.2.2 g.2.1.ss.length)
theorem ok_groups {f : Addr} {fd : FuncData} (F : Fd K "groups" "groups" s_groups [] [] f fd) (T : Txt K mg CL CS CO CV CW) (m1 : HasM P w K mg base CO "__len__" 1 ["self"] (spLoopLen CL CS CO)) : FnOk P w K mg base CX0 3 f fd ["loop", "bundles"] (spGroups K CL CS CO) := by
  refine F.ok sc_groups (fun vs H Q E h => ?_) (fun cdv A outer s H vs Q E hr h => ?_)
  · obtain ⟨g, ⟨rfl, _⟩, _⟩ := h
    rfl
  · obtain ⟨⟨oa, L, vb, b⟩, ⟨rfl, hL, ⟨bl, bx, rfl, hbl, tb⟩, l1, l5⟩, k⟩ := h
    dsimp only at hL hbl tb l1 l5 k
    obtain ⟨n, hn⟩ : ∃ n, n = L.ss.length := ⟨_, rfl⟩
    rw [← hn] at tb l1 l5 k
    refine wb_set 2 sc_groups.nd (v_lst va_nil (by simp)) fun v H1 e1 p1 => ?_
    obtain ⟨fl, rfl, hf0, hf⟩ := p1
    refine wb_set 3 sc_groups.nd v_int fun v H2 e2 p2 => ?_
    subst p2
    refine wb_while (fun m σ' H' => Ex H H' ∧ ∃ i, i ≤ n ∧ m = n - i ∧ (b = true → i = 0 ∨ i = n) ∧ (∃ xs, H' fl = some (.lst xs) ∧ TpAll H' xs ((gdone b n i).map grpD)) ∧ ∃ o, σ' = [some (.ref oa), some (.ref bl), some (.ref fl), some (.int (i : Int)), o, none, none]) n
      ⟨e1.trans e2, 0, by omega, rfl, fun _ => .inl rfl, ⟨[], e2 _ _ hf, by cases b <;> exact .nil⟩, none, rfl⟩ fun m σ' H' r => ?_
    obtain ⟨eH, i, hi, rfl, hbi, ⟨xs, hxs, tx⟩, o, rfl⟩ := r
    have hL2 := hL.ex eH
    obtain ⟨dx, ql, qs, d, la, sa, ha, hin⟩ := id hL2
    have hbl2 := ex_t eH hbl
    have tb2 := tb.ex eH
    refine ⟨_, t_lt (v_nm (v := .int (i : Int)) 3 rfl) (v_lenO (n := L.ss.length) m1 (hr.mono (by decide)) T.len (v_nm (v := .ref oa) 0 rfl) ha (oa, L) (fun H4 e4 => ⟨rfl, hL2.ex e4⟩) (fun v H4 q => q) (by omega)), fun ht H3 e3 => ?_, fun ht H3 e3 => ?_⟩
    · have hlt : i < n := by
        have := of_decide_eq_true ht
        omega
      refine ⟨fun σ2 H4 => Ex H H4 ∧ ∃ i', i < i' ∧ i' ≤ n ∧ (b = true → i' = 0 ∨ i' = n) ∧ (∃ xs, H4 fl = some (.lst xs) ∧ TpAll H4 xs ((gdone b n i').map grpD)) ∧ ∃ o, σ2 = [some (.ref oa), some (.ref bl), some (.ref fl), some (.int (i' : Int)), o, none, none],
        fun σ2 H4 ⟨a, i', a1, a2, a3, a4, a5⟩ => ⟨n - i', by omega, a, i', a2, rfl, a3, a4, a5⟩, ?_⟩
      have hbx : bx.length = (bunP b n).length := by rw [tb.length, List.length_map]
      refine wb_lc (n := (bunP b n).length) (Y := fun _ v H1 => b = true ∧ Tp H1 v (bunD (0, (n : Int) - 1))) 4 [("first", 5), ("last", 6)] sc_groups.nd (blkOk_by (N := n_groups) (sc := defScope s_groups) (by decide +kernel)) (fun i => imm_eq)
        (vi_T (fun i v H1 H2 e ⟨q0, q1⟩ => ⟨q0, q1.ex e⟩) ((v_nm (v := .ref bl) 1 rfl).imp fun v H4 e4 q => ⟨bl, bx, q, ex_t (e3.trans e4) hbl2, hbx, fun j x hj => ?_⟩)) (Nat.le_trans (bunP_len b n) (by decide)) (keep := fun _ => decide (i = 0)) (P0 := fun _ v _ => v = .int ((n : Int) - 1)) (fun j x H4 hj e4 hx => ?_) (fun v H4 e4 p4 => ?_) rfl
      · obtain ⟨dd, hdd, t⟩ := tpAll_get tb2 hj
        unfold bunP at hdd
        cases b with
        | false => cases hdd
        | true =>
          rw [if_pos rfl] at hdd
          match j, hdd with
          | 0, hdd =>
            rw [← Option.some.inj hdd] at t
            exact ⟨rfl, t.ex (e3.trans e4)⟩
      · obtain ⟨_, t⟩ := hx
        obtain ⟨pp, rfl, hpp⟩ := tp_bun t
        refine turn_two 5 6 rfl sc_groups.nd rfl rfl (SqT.of hpp) rfl rfl rfl (fun s H0 C cl fp => ts_one (VT.is (t_eq (v_nm (v := .int 0) 5 rfl) (v_nm (v := .int (i : Int)) 3 rfl)) ?_)) fun _ s H0 C cl fp => ?_
        · exact decide_eq_decide.mpr ⟨fun e => by have := V.int.inj e; omega, fun e => by rw [e]; rfl⟩
        · exact v_nm (v := .int ((n : Int) - 1)) 6 rfl
      · obtain ⟨el, ys, rfl, hel0, hel, ho⟩ := p4
        have e34 := e3.trans e4
        have hxs4 := e34 _ _ hxs
        have nf : el ≠ fl := fun e => by rw [e, e3 _ _ hxs] at hel0; cases hel0
        have bnd : xs.length ≤ 10 := by
          rw [tx.length, List.length_map]
          unfold gdone
          cases b with
          | true => by_cases z : i = 0 <;> simp [z]
          | false => simp; omega
        cases b with
        | true =>
          have i0 : i = 0 := by
            rcases hbi rfl with h | h
            · exact h
            · omega
          subst i0
          have ey : ys = [.int ((n : Int) - 1)] := by
            have z : Outs (fun _ => true) (fun _ v _ => v = V.int ((n : Int) - 1)) 1 ys H4 := ho
            exact outs_all z
          subst ey
          refine wb_ifT (VT.is (t_gt (v_len (k := 1) T.len (v_nm (v := .ref el) 4 rfl) fun H' e' => .inl ⟨_, sq_of (e' _ _ hel), rfl⟩) v_int) (by simp)) fun H5 e5 => ?_
          refine wb_app (xs := xs) (e5 _ _ hxs4) (v_nm (v := .ref fl) 2 rfl) (P := fun v H' => Tp H' v (grpD (0, n - 1, true))) (vt_tup (vta_cons (vt_of (v_nm (v := .int ((0 : Nat) : Int)) 3 rfl) (.int _)) (vta_cons (vt_of (VE.is (v_ixL (v_nm (v := .ref el) 4 rfl) v_int (sq_of (e5 _ _ hel)) (by rfl)) (show V.int ((n : Int) - 1) = V.int ((n - 1 : Nat) : Int) by rw [show (n : Int) - 1 = ((n - 1 : Nat) : Int) by omega])) (.int _)) (vta_cons (vt_of v_bl (.bl _)) vta_nil))) (by simp)) (by omega) fun v H6 e6 p6 => ?_
          have h6 := e6 _ _ (e5 _ _ hxs4)
          refine wb_set 3 sc_groups.nd (v_add (v_ixL (v := .int ((n : Int) - 1)) (v_nm (v := .ref el) 4 rfl) v_int (sq_of (by rw [upd_ne nf]; exact e6 _ _ (e5 _ _ hel))) (by rfl)) v_int) fun v H7 e7 p7 => wb_nil (wb_nil ?_)
          subst p7
          have eAll := ((eH.trans e34).trans e5).trans e6
          refine ⟨(eAll.mut hf0).trans e7, n, by omega, Nat.le_refl _, fun _ => .inr rfl, ⟨_, e7 _ _ upd_same, ?_⟩, some (.ref el), ?_⟩
          · have z : gdone true n n = [(0, n - 1, true)] := by unfold gdone; rw [if_pos rfl, if_neg (by omega)]
            rw [z]
            have z0 : xs = [] := by
              have := tx.length
              unfold gdone at this
              simp at this
              exact this
            have kx : Kt H6 H7 := (kt_lst h6).trans (kt_ex e7)
            rw [z0]
            exact .cons (p6.kt kx) .nil
          · have z : ∀ j : Int, j = (n : Int) - 1 + 1 → ([some (V.ref oa), some (V.ref bl), some (V.ref fl), some (V.int ((0 : Nat) : Int)), o, none, none].set 4 (some (V.ref el))).set 3 (some (V.int ((n : Int) - 1 + 1))) = [some (V.ref oa), some (V.ref bl), some (V.ref fl), some (V.int j), some (V.ref el), none, none] := fun j e => by rw [e]; rfl
            exact z n (by omega)
        | false =>
          have ey : ys = [] := by
            have := ho.len
            simp [bunP] at this
            exact this
          subst ey
          refine wb_ifF (VT.is (t_gt (v_len (k := 0) T.len (v_nm (v := .ref el) 4 rfl) fun H' e' => .inl ⟨_, sq_of (e' _ _ hel), rfl⟩) v_int) (by simp)) fun H5 e5 => ?_
          refine wb_app (xs := xs) (e5 _ _ hxs4) (v_nm (v := .ref fl) 2 rfl) (P := fun v H' => Tp H' v (grpD (i, i, false))) (vt_tup (vta_cons (vt_of (v_nm (v := .int (i : Int)) 3 rfl) (.int _)) (vta_cons (vt_of (v_nm (v := .int (i : Int)) 3 rfl) (.int _)) (vta_cons (vt_of v_bl (.bl _)) vta_nil))) (by simp)) (by omega) fun v H6 e6 p6 => ?_
          have h6 := e6 _ _ (e5 _ _ hxs4)
          refine wb_set 3 sc_groups.nd (v_add (v_nm (v := .int (i : Int)) 3 rfl) v_int) fun v H7 e7 p7 => wb_nil (wb_nil ?_)
          subst p7
          have eAll := ((eH.trans e34).trans e5).trans e6
          refine ⟨(eAll.mut hf0).trans e7, i + 1, Nat.lt_succ_self i, hlt, (fun z => nomatch z), ⟨_, e7 _ _ upd_same, ?_⟩, _, rfl⟩
          have z : gdone false n (i + 1) = gdone false n i ++ [(i, i, false)] := by
            unfold gdone
            rw [if_neg (by simp), if_neg (by simp), List.range_succ, List.map_append]
            rfl
          rw [z, List.map_append]
          exact (((tx.ex (e34.trans (e5.trans e6))).append (.cons p6 .nil)).kt ((kt_lst h6).trans (kt_ex e7)))
    · have hge : i = n := by
        have := of_decide_eq_false ht
        omega
      subst hge
      refine wb_ret (v_nm (v := .ref fl) 2 rfl) fun v H4 e4 p4 => k v H4 ((eH.trans e3).trans e4) ?_
      subst p4
      refine ⟨fl, xs, rfl, e4 _ _ (e3 _ _ hxs), ?_⟩
      rw [← gdone_all b i l1]
      exact tx.ex (e3.trans e4)
end
end Vw
end
section
/-! Weaver: its __init__, lanes, early, beginning. -/
namespace Vw
open PySem PySem.Spec PyProof.Rows L2 Evl
def fsV (lo wa : Addr) (w c many : Nat) (gl : Addr) : List (Str × V) := putF "groups" (.ref gl) (putF "many" (.int (many : Int)) (putF "count" (.int (c : Int)) (putF "kept_width" (.int (w : Int)) (putF "kept_way" (.ref wa) (putF "loop" (.ref lo) [])))))
section
variable (lo wa : Addr) (w c many : Nat) (gl : Addr)
theorem fsV_groups : (fsV lo wa w c many gl).lookup ("groups" : Str) = some (.ref gl) := by unfold fsV; rw [lookup_putF, if_pos rfl]
theorem fsV_many : (fsV lo wa w c many gl).lookup ("many" : Str) = some (.int (many : Int)) := by unfold fsV; rw [lookup_putF, if_neg (by decide +kernel), lookup_putF, if_pos rfl]
theorem fsV_count : (fsV lo wa w c many gl).lookup ("count" : Str) = some (.int (c : Int)) := by unfold fsV; rw [lookup_putF, if_neg (by decide +kernel), lookup_putF, if_neg (by decide +kernel), lookup_putF, if_pos rfl]
theorem fsV_width : (fsV lo wa w c many gl).lookup ("kept_width" : Str) = some (.int (w : Int)) := by unfold fsV; rw [lookup_putF, if_neg (by decide +kernel), lookup_putF, if_neg (by decide +kernel), lookup_putF, if_neg (by decide +kernel), lookup_putF, if_pos rfl]
theorem fsV_way : (fsV lo wa w c many gl).lookup ("kept_way" : Str) = some (.ref wa) := by unfold fsV; rw [lookup_putF, if_neg (by decide +kernel), lookup_putF, if_neg (by decide +kernel), lookup_putF, if_neg (by decide +kernel), lookup_putF, if_neg (by decide +kernel), lookup_putF, if_pos rfl]
theorem fsV_loop : (fsV lo wa w c many gl).lookup ("loop" : Str) = some (.ref lo) := by unfold fsV; rw [lookup_putF, if_neg (by decide +kernel), lookup_putF, if_neg (by decide +kernel), lookup_putF, if_neg (by decide +kernel), lookup_putF, if_neg (by decide +kernel), lookup_putF, if_neg (by decide +kernel), lookup_putF, if_pos rfl]
theorem fsV_no {m : Str} (h : m ∉ (["groups", "many", "count", "kept_width", "kept_way", "loop"] : List Str)) : (fsV lo wa w c many gl).lookup m = none := by
  have e : ∀ k ∈ (["groups", "many", "count", "kept_width", "kept_way", "loop"] : List Str), ¬ m = k := fun k hk e => h (e ▸ hk)
  unfold fsV
  rw [lookup_putF, if_neg (e _ (by decide +kernel)), lookup_putF, if_neg (e _ (by decide +kernel)), lookup_putF, if_neg (e _ (by decide +kernel)), lookup_putF, if_neg (e _ (by decide +kernel)), lookup_putF, if_neg (e _ (by decide +kernel)), lookup_putF, if_neg (e _ (by decide +kernel))]
  rfl
end
structure WvD where
  L : LoopD
  W : WayD
  b : Bool
  w : Nat
  c : Nat
structure WvOk (D : WvD) : Prop where
  lo : LoopOk D.L
  wo : WayOk D.W
  bn : D.W.bun = bunP D.b D.L.ss.length
  w1 : 1 ≤ D.w
  w2 : D.w ≤ 200
  c2 : D.c ≤ 300
  ko : (D.b = true ∧ D.W.ahead = 0) ∨ (D.b = false ∧ ∀ n, D.L.srcsAt n = [])
def WvIn (K : PySem.W.Frag) (CL CS CO CW : Addr) (H : Hp) (D : WvD) (lo wa gl : Addr) : Prop := LoopAt CL CS CO H lo D.L ∧ WayAt K CW H wa D.W ∧ ∃ gs, H gl = some (.lst gs) ∧ TpAll H gs ((groupsP D.b D.L.ss.length).map grpD)
theorem WvIn.ex {K : PySem.W.Frag} {CL CS CO CW : Addr} {H H' : Hp} {D : WvD} {lo wa gl : Addr} (h : WvIn K CL CS CO CW H D lo wa gl) (e : Ex H H') : WvIn K CL CS CO CW H' D lo wa gl :=
  let ⟨a, b, gs, c, d⟩ := h
  ⟨a.ex e, b.ex e, gs, e _ _ c, d.ex e⟩
def WvAt (K : PySem.W.Frag) (CL CS CO CV CW : Addr) (H : Hp) (a : Addr) (D : WvD) : Prop := ∃ dx lo wa gl, H a = some (.ins CV dx (fsV lo wa D.w D.c (manyP D.w D.c) gl)) ∧ WvIn K CL CS CO CW H D lo wa gl
theorem WvAt.ex {K : PySem.W.Frag} {CL CS CO CV CW : Addr} {H H' : Hp} {a : Addr} {D : WvD} (h : WvAt K CL CS CO CV CW H a D) (e : Ex H H') : WvAt K CL CS CO CV CW H' a D := let ⟨dx, lo, wa, gl, p, q⟩ := h; ⟨dx, lo, wa, gl, e _ _ p, q.ex e⟩
theorem manyP_le (w c : Nat) (h : 1 ≤ w) : manyP w c ≤ c := by
  unfold manyP
  rw [Nat.div_le_iff_le_mul_add_pred (by omega)]
  have : c * 1 ≤ w * c := by rw [Nat.mul_comm]; exact Nat.mul_le_mul_right c h
  omega
theorem LoopAt.exb {CL CS CO x Cx dx : Addr} {H H' : Hp} {a : Addr} {L : LoopD} (hx : H x = some (.ins Cx dx [])) (h : LoopAt CL CS CO H a L) (b : ExB x H H') : LoopAt CL CS CO H' a L := by
  obtain ⟨d2, ql, qs, d, la, sa, ha, hin⟩ := h
  exact ⟨d2, ql, qs, d, la, sa, b _ _ (ins_ne hx ha (fsO_lines _ _ _)) ha, ⟨b _ _ (fun e => by have := hin.ln; rw [e, hx] at this; cases this) hin.ln, hin.la.exb hx b, b _ _ (fun e => by have := hin.sn; rw [e, hx] at this; cases this) hin.sn, Paired.mapP hin.sa fun s a q => q.exb hx b, b _ _ (fun e => by have := hin.dn; rw [e, hx] at this; cases this) hin.dn⟩⟩
section
variable {P : Program} {w : World} {K : PySem.W.Frag} {mg : Str → Option Value} {base : Heap} {CL CS CO CV CW : Addr}
abbrev preWv (K : PySem.W.Frag) (CL CS CO CW : Addr) : (WvD × Addr × Addr) → List V → Hp → Prop := fun g r H => r = [.ref g.2.1, .ref g.2.2, .int (g.1.w : Int), .int (g.1.c : Int)] ∧ WvOk g.1 ∧ LoopAt CL CS CO H g.2.1 g.1.L ∧ WayAt K CW H g.2.2 g.1.W
abbrev postWv (K : PySem.W.Frag) (CL CS CO CW : Addr) : (WvD × Addr × Addr) → List (Str × V) → Hp → Prop := fun g fs H => ∃ gl, fs = fsV g.2.1 g.2.2 g.1.w g.1.c (manyP g.1.w g.1.c) gl ∧ WvIn K CL CS CO CW H g.1 g.2.1 g.2.2 gl
theorem ok_Weaver_init {f : Addr} {fd : FuncData} (F : Fd K "__init__" "Weaver.__init__" s_Weaver_init [] [] f fd) (T : Txt K mg CL CS CO CV CW) (h1 : Has P w K mg base "block_number" 3 ["way", "width", "count"] (spBlockNumber K CW)) (h2 : Has P w K mg base "groups" 3 ["loop", "bundles"] (spGroups K CL CS CO))
    (g1 : HasG P w K mg base CW "bundles" 1 (spWayGet K CW fun W v H' => BunAt K H' v W.bun)) : FnOk P w K mg base CX0 4 f fd ["self", "loop", "way", "width", "count"] (InSp CV (preWv K CL CS CO CW) (postWv K CL CS CO CW)) := by
  refine F.ok sc_Weaver_init (fun vs H Q E h => ?_) (fun cdv A outer s H vs Q E hr h => ?_)
  · obtain ⟨g, x, dx, r, rfl, _, ⟨rfl, _⟩, _⟩ := h
    rfl
  · obtain ⟨⟨D, lo, wa⟩, x, dx, r, rfl, hx, ⟨rfl, ok, hL, hW⟩, k⟩ := h
    dsimp only at ok hL hW k
    have hw2 := ok.w2
    have hc2 := ok.c2
    refine wb_fld T.cV T.nVl (v_nm (v := .ref lo) 1 rfl) (v_nm (v := .ref x) 0 rfl) hx (by decide) fun v H1 e1 p1 H2 e2 => ?_
    have b2 : ExB x H (upd H2 x (.ins CV dx (putF "loop" v []))) := exb_upd (e1.trans e2)
    subst p1
    refine wb_fld T.cV T.nVw (v_nm (v := .ref wa) 2 rfl) (v_nm (v := .ref x) 0 rfl) upd_same (by show 1 < 1000; decide) fun v H3 e3 p3 H4 e4 => ?_
    have b4 := (b2.ex (e3.trans e4)).upd (u := .ins CV dx (putF "kept_way" v (putF "loop" (.ref lo) [])))
    subst p3
    refine wb_fld T.cV T.nVk (v_nm (v := .int (D.w : Int)) 3 rfl) (v_nm (v := .ref x) 0 rfl) upd_same (by show 2 < 1000; decide) fun v H5 e5 p5 H6 e6 => ?_
    have b6 := (b4.ex (e5.trans e6)).upd (u := .ins CV dx (putF "kept_width" v (putF "kept_way" (.ref wa) (putF "loop" (.ref lo) []))))
    subst p5
    refine wb_fld T.cV T.nVc (v_nm (v := .int (D.c : Int)) 4 rfl) (v_nm (v := .ref x) 0 rfl) upd_same (by show 3 < 1000; decide) fun v H7 e7 p7 H8 e8 => ?_
    have b8 := (b6.ex (e7.trans e8)).upd (u := .ins CV dx (putF "count" v (putF "kept_width" (.int (D.w : Int)) (putF "kept_way" (.ref wa) (putF "loop" (.ref lo) [])))))
    subst p7
    refine wb_fld T.cV T.nVm (P := fun v _ => v = .int (manyP D.w D.c : Int)) (vp_call h1 hr (wa, D.W, D.w, D.c) (va_cons (v_nm (v := .ref wa) 2 rfl) (va_cons (v_nm (v := .int (D.w : Int)) 3 rfl) (va_cons (v_nm (v := .int (D.c : Int)) 4 rfl) va_nil))) (fun vs H9 e9 q => ⟨q, hW.exb hx (b8.ex e9), ok.w1, by show D.w ≤ 2000; omega, by show D.c ≤ 2000; omega⟩) (fun _ _ _ q => q)) (v_nm (v := .ref x) 0 rfl) upd_same (by show 4 < 1000; decide) fun v H9 e9 p9 H10 e10 => ?_
    have b10 := (b8.ex (e9.trans e10)).upd (u := .ins CV dx (putF "many" v (putF "count" (.int (D.c : Int)) (putF "kept_width" (.int (D.w : Int)) (putF "kept_way" (.ref wa) (putF "loop" (.ref lo) []))))))
    subst p9
    have hW10 := hW.exb hx b10
    obtain ⟨dw, dd, vb, hwa, hdd, hbn⟩ := id hW10
    refine wb_fld T.cV T.nVg (P := GrpL (groupsP D.b D.L.ss.length)) (vp_callD h2 hr (vap_v (v_nm (v := .ref lo) 1 rfl) (vap_cons (P := fun v H' => BunAt K H' v D.W.bun) (vp_prop g1 T.cW (hr.mono (by decide)) (v_nm (v := .ref wa) 2 rfl) hwa (wa, D.W) (fun H11 e11 => ⟨rfl, hW10.ex e11⟩) (fun _ _ _ q => q)) (fun v H H' e q => q.ex e) fun _ _ _ _ => vap_nil)) fun vs H11 e11 q => ?_) (v_nm (v := .ref x) 0 rfl) upd_same (by show 5 < 1000; decide) fun v H11 e11 p11 H12 e12 => ?_
    · obtain ⟨_, rfl, vb2, _, rfl, hb2, rfl⟩ := q
      exact ⟨(lo, D.L, vb2, D.b), ⟨rfl, hL.exb hx (b10.ex e11), by rw [← ok.bn]; exact hb2, ok.lo.l1, ok.lo.l5⟩, fun v H' e' q => q⟩
    · obtain ⟨gl, gs, rfl, hgl, tg⟩ := p11
      have b12 := (b10.ex (e11.trans e12)).upd (u := .ins CV dx (fsV lo wa D.w D.c (manyP D.w D.c) gl))
      have ng : gl ≠ x := fun e => by
        rw [e, e11 _ _ upd_same] at hgl
        cases hgl
      have hx12 := e12 _ _ (e11 _ _ (upd_same (H := H10) (a := x) (o := .ins CV dx (putF "many" (.int (manyP D.w D.c : Int)) (putF "count" (.int (D.c : Int)) (putF "kept_width" (.int (D.w : Int)) (putF "kept_way" (.ref wa) (putF "loop" (.ref lo) []))))))))
      refine wb_nil (k _ _ b12 upd_same ⟨gl, rfl, hL.exb hx b12, hW.exb hx b12, gs, ?_, ?_⟩)
      · rw [upd_ne ng]
        exact e12 _ _ hgl
      · exact (tg.ex e12).kt (kt_upd fun xs e => by rw [hx12] at e; cases e)
abbrev spLanes (K : PySem.W.Frag) (CL CS CO CV CW : Addr) : Sp := PuSp (fun (g : Addr × WvD × Nat) vs H => vs = [.ref g.1, .int (g.2.2 : Int)] ∧ WvAt K CL CS CO CV CW H g.1 g.2.1 ∧ WvOk g.2.1 ∧ g.2.2 ≤ 400) fun g v H' => ∃ q, v = .ref q ∧ H' q = some (.tup (natV (lanesP g.2.1.w g.2.1.c g.2.2)))
theorem ok_Weaver_lanes {f : Addr} {fd : FuncData} (F : Fd K "lanes" "Weaver.lanes" s_Weaver_lanes [] [] f fd) (T : Txt K mg CL CS CO CV CW) (h1 : Has P w K mg base "block_lanes" 3 ["way", "width", "count", "block"] (spBlockLanes K CW)) : FnOk P w K mg base CX0 4 f fd ["self", "block"] (spLanes K CL CS CO CV CW) := by
  refine F.ok sc_Weaver_lanes (fun vs H Q E h => ?_) (fun cdv A outer s H vs Q E hr h => ?_)
  · obtain ⟨g, ⟨rfl, _⟩, _⟩ := h
    rfl
  · obtain ⟨⟨a, D, b⟩, ⟨rfl, ⟨dx, lo, wa, gl, ha, hL, hW, hg⟩, ok, hb⟩, k⟩ := h
    dsimp only at ha hL hW hg ok hb k
    have hc2 := ok.c2
    refine wb_ret ?_ k
    exact vp_call h1 hr (wa, D.W, D.w, D.c, b) (va_cons (v_fld T.cV T.nVw (v_nm (v := .ref a) 0 rfl) ha (fsV_way _ _ _ _ _ _)) (va_cons (v_fld T.cV T.nVk (v_nm (v := .ref a) 0 rfl) ha (fsV_width _ _ _ _ _ _)) (va_cons (v_fld T.cV T.nVc (v_nm (v := .ref a) 0 rfl) ha (fsV_count _ _ _ _ _ _)) (va_cons (v_nm (v := .int (b : Int)) 1 rfl) va_nil)))) (fun vs H1 e1 q => ⟨q, hW.ex e1, ok.w1, ok.w2, by show D.c ≤ 2000; omega, hb⟩) (fun _ _ _ q => q)
end
end Vw
end
section
/-! Weaver: early, beginning. -/
namespace Vw
open PySem PySem.Spec PyProof.Rows L2 Evl
theorem groupsP_false {n i : Nat} {g : Nat × Nat × Bool} (h : (groupsP false n)[i]? = some g) : i < n ∧ g = (i, i, false) := by
  unfold groupsP at h
  rw [if_neg (by simp)] at h
  rw [List.getElem?_map] at h
  obtain ⟨m, hm, rfl⟩ := Option.map_eq_some_iff.mp h
  obtain ⟨h1, h2⟩ := List.getElem?_eq_some_iff.mp hm
  rw [List.length_range] at h1
  rw [List.getElem_range] at h2
  subst h2
  exact ⟨h1, rfl⟩
theorem loadsP_nil {L : LoopD} {n a : Nat} (h : L.srcsAt n = []) : loadsP L n a = [] := by unfold loadsP; rw [h]; rfl
theorem lanesP_len (w c b : Nat) : (lanesP w c b).length ≤ w := by
  unfold lanesP
  have := List.length_filter_le (fun a => decide (a < c)) (List.range' (b * w) w)
  rw [List.length_range'] at this
  exact this
section
variable {P : Program} {w : World} {K : PySem.W.Frag} {mg : Str → Option Value} {base : Heap} {CL CS CO CV CW : Addr}
abbrev spEarly (K : PySem.W.Frag) (CL CS CO CV CW : Addr) : Sp := PuSp (fun (g : Addr × WvD × Nat × Addr) vs H => vs = [.ref g.1, .int (g.2.2.1 : Int)] ∧ WvAt K CL CS CO CV CW H g.1 g.2.1 ∧ WvOk g.2.1 ∧ g.2.2.1 ≤ 400 ∧ g.2.1.b = false ∧ H g.2.2.2 ≠ none) fun g => EvA g.2.2.2 []
theorem ok_Weaver_early {f : Addr} {fd : FuncData} (F : Fd K "early" "Weaver.early" s_Weaver_early [] [] f fd) (T : Txt K mg CL CS CO CV CW) (h1 : Has P w K mg base "loads_of" 3 ["loop", "number", "at"] (spLoads CL CS CO)) (m1 : HasM P w K mg base CV "lanes" 4 ["self", "block"] (spLanes K CL CS CO CV CW))
    (g1 : HasG P w K mg base CW "guard" 1 (spWayGet K CW fun W v _ => v = .bl W.guard)) : FnOk P w K mg base CX0 5 f fd ["self", "block"] (spEarly K CL CS CO CV CW) := by
  refine F.ok sc_Weaver_early (fun vs H Q E h => ?_) (fun cdv A outer s H vs Q E hr h => ?_)
  · obtain ⟨g, ⟨rfl, _⟩, _⟩ := h
    rfl
  · obtain ⟨⟨a, D, b, av⟩, ⟨rfl, hV, ok, hb, hbf, hav⟩, k⟩ := h
    dsimp only at hV ok hb hbf hav k
    obtain ⟨dx, lo, wa, gl, ha, hL, hW, gs, hgl, tg⟩ := id hV
    have hno : ∀ n, D.L.srcsAt n = [] := by
      rcases ok.ko with ⟨h, _⟩ | ⟨_, h⟩
      · rw [h] at hbf; cases hbf
      · exact h
    obtain ⟨dw, dd, vb, hwa, hdd, hbn⟩ := id hW
    refine wb_if (w_t (w_and (t_val (t := D.W.guard) (vp_prop g1 T.cW (hr.mono (by decide)) (v_fld T.cV T.nVw (v_nm (v := .ref a) 0 rfl) ha (fsV_way _ _ _ _ _ _)) hwa (wa, D.W) (fun H1 e1 => ⟨rfl, hW.ex e1⟩) (fun _ _ _ q => q))) fun _ => w_and1 (t_ge (v_nm (v := .int (b : Int)) 1 rfl) (v_fld T.cV T.nVm (v_nm (v := .ref a) 0 rfl) ha (fsV_many _ _ _ _ _ _))))) (fun ht H1 e1 => ?_) (fun ht H1 e1 => ?_)
    · refine wb_ret (v_lst va_nil (by simp)) fun v H2 e2 ⟨q, h1, h2, h3⟩ => k v H2 (e1.trans e2) ⟨q, [], h1, fun e => ?_, h3, .nil⟩
      cases z : H av with
      | none => exact hav z
      | some o => rw [e, e1 _ _ z] at h2; cases h2
    · refine wb_nil ?_
      refine wb_set 2 sc_Weaver_early.nd (v_lst va_nil (by simp)) fun v H2 e2 p2 => ?_
      obtain ⟨fl, rfl, hf0', hf⟩ := p2
      have hf0 : H fl = none := fresh_back e1 hf0'
      have fav : fl ≠ av := fun e => hav (e ▸ hf0)
      have e12 := e1.trans e2
      refine wb_forL (v_fld T.cV T.nVg (v_nm (v := .ref a) 0 rfl) (e12 _ _ ha) (fsV_groups _ _ _ _ _ _)) fun v H3 e3 p3 => ⟨gl, gs, fun i σ' H' => Ex H H' ∧ H' fl = some (.lst []) ∧ ∃ o3 o4 o5 o6, σ' = [some (.ref a), some (.int (b : Int)), some (.ref fl), o3, o4, o5, o6, none],
        p3, sq_of ((e12.trans e3) _ _ hgl), ⟨e12.trans e3, e3 _ _ hf, none, none, none, none, rfl⟩, fun i σ' H' _ r => sq_of (r.1 _ _ hgl), fun i x σ' H' hx r => ?_, fun σ' H' r => ?_⟩
      · obtain ⟨eH, hf', o3, o4, o5, o6, rfl⟩ := r
        obtain ⟨dt, hdt, t⟩ := tpAll_get tg hx
        rw [List.getElem?_map, hbf] at hdt
        obtain ⟨g, hg, rfl⟩ := Option.map_eq_some_iff.mp hdt
        obtain ⟨hi, rfl⟩ := groupsP_false hg
        obtain ⟨gp, rfl, hgp⟩ := tp_grp t
        refine wg_three 3 4 5 sc_Weaver_early.nd (SqT.of (eH _ _ hgp)) ?_
        refine wb_forTn (vp_meth m1 T.cV hr (v_nm (v := .ref a) 0 rfl) (eH _ _ ha) (fsV_no _ _ _ _ _ _ (by decide +kernel)) (a, D, b) (va_cons (v_nm (v := .int (b : Int)) 1 rfl) va_nil) (fun vs H4 e4 q => ⟨by rw [q], hV.ex (eH.trans e4), ok, hb⟩) (fun _ _ _ q => q)) fun v H4 e4 p4 => ?_
        obtain ⟨q, rfl, hq⟩ := p4
        refine ⟨q, _, fun j σ' H' => (Ex H H' ∧ Kt H4 H') ∧ H' fl = some (.lst []) ∧ ∃ o6, σ' = [some (.ref a), some (.int (b : Int)), some (.ref fl), some (.int (i : Int)), some (.int (i : Int)), some (.bl false), o6, none],
          rfl, SqT.of hq, ⟨⟨eH.trans e4, Kt.refl _⟩, e4 _ _ hf', _, rfl⟩, fun j σ' H' _ r => SqT.of (r.1.2 _ _ hq), fun j x σ' H' hx r => ?_, fun σ' H' r => ?_⟩
        · obtain ⟨⟨eH2, kH2⟩, hf2, o6', rfl⟩ := r
          unfold natV at hx
          rw [List.getElem?_map] at hx
          obtain ⟨m, hm, rfl⟩ := Option.map_eq_some_iff.mp hx
          refine wg_nm 6 sc_Weaver_early.nd ?_
          refine wb_ifT (t_not (t_val (v_nm (v := .bl false) 5 rfl))) fun H5 e5 => ?_
          refine wb_ext (xs := []) (e5 _ _ hf2) (v_nm (v := .ref fl) 2 rfl) (P := EvL []) (vp_call h1 (hr.mono (by decide)) (lo, D.L, i, m, lo) (va_cons (v_fld T.cV T.nVl (v_nm (v := .ref a) 0 rfl) ((eH2.trans e5) _ _ ha) (fsV_loop _ _ _ _ _ _)) (va_cons (v_nm (v := .int (i : Int)) 3 rfl) (va_cons (v_nm (v := .int (m : Int)) 6 rfl) va_nil))) (fun vs H6 e6 q => ⟨q, hL.ex ((eH2.trans e5).trans e6), ok.lo, hi, ?_⟩) (fun v H6 e6 q => ?_)) fun v H6 e6 p6 => ?_
          · intro z
            obtain ⟨_, _, _, _, _, _, h, _⟩ := hL
            rw [((eH2.trans e5).trans e6) _ _ h] at z
            cases z
          · have := q.l
            dsimp only at this
            rw [loadsP_nil (hno i)] at this
            exact this
          · obtain ⟨z, zs, rfl, hz, tz⟩ := p6
            cases tz
            have h6 := e6 _ _ (e5 _ _ hf2)
            refine ⟨z, [], rfl, hz, by simp, wb_nil (wb_nil ⟨⟨((eH2.trans e5).trans e6).mut hf0, (kH2.trans (kt_ex (e5.trans e6))).trans (kt_lst h6)⟩, upd_same, _, rfl⟩)⟩
        · obtain ⟨⟨eH2, _⟩, hf2, o6', rfl⟩ := r
          exact wb_nil ⟨eH2, hf2, _, _, _, _, rfl⟩
      · obtain ⟨eH, hf', o3, o4, o5, o6, rfl⟩ := r
        refine wb_if (t_ge (v_nm (v := .int (b : Int)) 1 rfl) (v_fld T.cV T.nVm (v_nm (v := .ref a) 0 rfl) (eH _ _ ha) (fsV_many _ _ _ _ _ _))) (fun ht H4 e4 => ?_) (fun ht H4 e4 => ?_)
        · refine wb_ret (vp_lc (n := 0) (Y := fun _ _ _ => True) (P0 := fun _ _ _ => True) (keep := fun _ => true) [("load", 7)] sc_Weaver_early.nd (blkOk_by (N := n_Weaver_early) (sc := defScope s_Weaver_early) (by decide +kernel)) (fun i _ _ _ _ _ => trivial) (vi_L (fun i _ _ _ _ _ => trivial) ((v_nm (v := .ref fl) 2 rfl).imp fun v H5 e5 q => ⟨fl, [], q, sq_of (e5 _ _ (e4 _ _ hf')), rfl, fun _ _ _ => trivial⟩)) (by decide) fun i x H5 hi _ _ => absurd hi (Nat.not_lt_zero _)) fun v H5 e5 ⟨q, ys, h1, h2, h3, ho⟩ => k v H5 ((eH.trans e4).trans e5) ⟨q, [], h1, fun e => ?_, ?_, .nil⟩
          · cases z : H av with
            | none => exact hav z
            | some o => rw [e, (eH.trans e4) _ _ z] at h2; cases h2
          · have := ho.len
            rw [h3, List.eq_nil_of_length_eq_zero (Nat.le_zero.mp this)]
        · refine wb_nil (wb_ret (v_nm (v := .ref fl) 2 rfl) fun v H5 e5 p5 => k v H5 ((eH.trans e4).trans e5) ⟨fl, [], p5, fav, e5 _ _ (e4 _ _ hf'), .nil⟩)
abbrev spBeg (K : PySem.W.Frag) (CL CS CO CV CW : Addr) : Sp := PuSp (fun (g : Addr × WvD × Nat) vs H => vs = [.ref g.1, .int (g.2.2 : Int)] ∧ WvAt K CL CS CO CV CW H g.1 g.2.1 ∧ WvOk g.2.1 ∧ g.2.2 ≤ 390) fun _ => EvL []
theorem ok_Weaver_beginning {f : Addr} {fd : FuncData} (F : Fd K "beginning" "Weaver.beginning" s_Weaver_beginning [] [] f fd) (T : Txt K mg CL CS CO CV CW) (m1 : HasM P w K mg base CV "early" 5 ["self", "block"] (spEarly K CL CS CO CV CW))
    (g1 : HasG P w K mg base CW "ahead" 1 (spWayGet K CW fun W v _ => v = .int W.ahead)) : FnOk P w K mg base CX0 6 f fd ["self", "block"] (spBeg K CL CS CO CV CW) := by
  refine F.ok sc_Weaver_beginning (fun vs H Q E h => ?_) (fun cdv A outer s H vs Q E hr h => ?_)
  · obtain ⟨g, ⟨rfl, _⟩, _⟩ := h
    rfl
  · obtain ⟨⟨a, D, b⟩, ⟨rfl, hV, ok, hb⟩, k⟩ := h
    dsimp only at hV ok hb k
    obtain ⟨dx, lo, wa, gl, ha, hL, hW, hgs⟩ := id hV
    obtain ⟨dw, dd, vb, hwa, hdd, hbn⟩ := id hW
    obtain ⟨far, hfar⟩ : ∃ far : Nat, D.W.ahead = (far : Int) := ⟨D.W.ahead.toNat, by have := ok.wo.a0; omega⟩
    have hf3 : far ≤ 3 := by have := ok.wo.a3; omega
    refine wb_set 2 sc_Weaver_beginning.nd (P := fun v _ => v = .int (far : Int)) (vp_prop g1 T.cW (hr.mono (by decide)) (v_fld T.cV T.nVw (v_nm (v := .ref a) 0 rfl) ha (fsV_way _ _ _ _ _ _)) hwa (wa, D.W) (fun H1 e1 => ⟨rfl, hW.ex e1⟩) (fun v _ _ q => by rw [q, hfar])) fun v H1 e1 p1 => ?_
    subst p1
    refine wb_if (t_eq (v_nm (v := .int (far : Int)) 2 rfl) v_int) (fun ht H2 e2 => ?_) (fun ht H2 e2 => ?_)
    · exact wb_ret (v_lst va_nil (by simp)) fun v H3 e3 ⟨q, h1, h2, h3⟩ => k v H3 ((e1.trans e2).trans e3) ⟨q, [], h1, h3, .nil⟩
    · have hne : far ≠ 0 := fun e => by
        have := of_decide_eq_false ht
        rw [e] at this
        exact this rfl
      have hbf : D.b = false := by
        rcases ok.ko with ⟨_, h⟩ | ⟨h, _⟩
        · rw [hfar] at h; omega
        · exact h
      have e12 := e1.trans e2
      refine wb_nil ?_
      refine wb_set 3 sc_Weaver_beginning.nd (P := fun v H' => ∃ q ns, v = .ref q ∧ H' q = some (.lst (natV ns)) ∧ ns.length ≤ 4 ∧ ∀ m ∈ ns, m ≤ 400) (vp_if (t_gt (v_nm (v := .int (b : Int)) 1 rfl) v_int) (fun _ => (v_lst (va_cons (v_add (v_nm (v := .int (b : Int)) 1 rfl) (v_nm (v := .int (far : Int)) 2 rfl)) va_nil) (by simp)).imp fun v H3 e3 ⟨q, h1, _, h3⟩ => ⟨q, [b + far], h1, h3, by simp, fun m hm => by rw [List.mem_singleton.mp hm]; omega⟩)
        (fun _ => (v_listR1 (k := far + 1) T.list T.range (VE.is (v_add (v_nm (v := .int (far : Int)) 2 rfl) v_int) (by rw [Int.natCast_add]; rfl)) (by omega)).imp fun v H3 e3 ⟨q, h1, h3⟩ => ⟨q, _, h1, h3, by rw [List.length_range]; omega, fun m hm => by have := List.mem_range.mp hm; omega⟩)) fun v H3 e3 p3 => ?_
      obtain ⟨tl, ns, rfl, htl, hl4, hm4⟩ := p3
      have e13 := e12.trans e3
      refine wb_ret (vp_lc2 (n := ns.length) (Y := fun i v _ => ∃ m, v = .int (m : Nat) ∧ m ≤ 400) 4 5 (own := [("target", 4), ("event", 5)]) rfl sc_Weaver_beginning.nd (blkOk_by (N := n_Weaver_beginning) (sc := defScope s_Weaver_beginning) (by decide +kernel)) (vi_L (fun i _ _ _ _ q => q) ((v_nm (v := .ref tl) 3 rfl).imp fun v H4 e4 q => ⟨tl, _, q, sq_of (e4 _ _ htl), by unfold natV; rw [List.length_map], fun i x hx => ?_⟩)) (by omega) (fun _ => []) (fun _ => by simp) rfl rfl rfl rfl (fun x => rfl) (fun x y => rfl) (fun x y => rfl) (by decide) (by decide)
        fun i x H4 Dd hi e4 hy hD hD0 => ?_) fun v H4 e4 p4 => ?_
      · unfold natV at hx
        rw [List.getElem?_map] at hx
        obtain ⟨m, hm, rfl⟩ := Option.map_eq_some_iff.mp hx
        exact ⟨m, rfl, hm4 m (List.mem_of_getElem? hm)⟩
      · obtain ⟨m, rfl, hm⟩ := hy
        intro s0 H0 C cl fp
        have e := e13.trans e4
        exact vp_meth m1 T.cV hr (v_nm (v := .ref a) 0 rfl) (e _ _ ha) (fsV_no _ _ _ _ _ _ (by decide +kernel)) (a, D, m, Dd) (va_cons (v_nm (v := .int (m : Int)) 4 rfl) va_nil) (fun vs H5 e5 q => ⟨by rw [q], hV.ex (e.trans e5), ok, hm, hbf, fun z => by
          cases zz : H4 Dd with
          | none => exact hD zz
          | some o => rw [e5 _ _ zz] at z; cases z⟩) (fun v H5 e5 q => q)
      · obtain ⟨q, ys, rfl, _, hq, ty⟩ := p4
        refine k _ H4 (e13.trans e4) ⟨q, ys, rfl, hq, ?_⟩
        rw [List.flatMap_eq_nil_iff.mpr (fun _ _ => rfl)] at ty
        exact ty
end
end Vw
end
section
/-! Weaver: group, events; wide_list. -/
namespace Vw
open PySem PySem.Spec PyProof.Rows L2 Evl
def groupQ (L : LoopD) (g : Nat × Nat × Bool) (ls : List Nat) : List Ev := if g.2.2 then ls.flatMap (fun a => iterP L a (List.range' g.1 (g.2.1 + 1 - g.1))) else ls.map fun a => endP L g.1 a
def evB (L : LoopD) (b : Bool) (w c j : Nat) : List Ev := (List.range j).flatMap fun blk => (groupsP b L.ss.length).flatMap fun g => groupQ L g (lanesP w c blk)
def evG (L : LoopD) (b : Bool) (w c blk i : Nat) : List Ev := ((groupsP b L.ss.length).take i).flatMap fun g => groupQ L g (lanesP w c blk)
def wideP (L : LoopD) (b : Bool) (w c : Nat) : List Ev := evB L b w c (manyP w c)
theorem flat_range {α β : Type} (f : α → List β) (d : α) : ∀ l : List α, (List.range l.length).flatMap (fun i => f (l.getD i d)) = l.flatMap f := by
  intro l
  rw [List.flatMap_def, List.flatMap_def]
  congr 1
  apply List.ext_getElem
  · simp
  · intro i h1 h2
    simp only [List.length_map, List.length_range] at h1
    simp [List.getD_eq_getElem?_getD, h1]
theorem map_range {α β : Type} (f : α → β) (d : α) (l : List α) : (List.range l.length).map (fun i => f (l.getD i d)) = l.map f := by
  apply List.ext_getElem
  · simp
  · intro i h1 h2
    simp only [List.length_map, List.length_range] at h1
    simp [List.getD_eq_getElem?_getD, h1]
theorem groupsP_mem {b : Bool} {n : Nat} {g : Nat × Nat × Bool} (h : g ∈ groupsP b n) (h1 : 1 ≤ n) : g.1 ≤ g.2.1 ∧ g.2.1 < n ∧ g.2.2 = b := by
  unfold groupsP at h
  cases b with
  | true =>
    rw [if_pos rfl] at h
    rw [List.mem_singleton.mp h]
    exact ⟨Nat.zero_le _, by show n - 1 < n; omega, rfl⟩
  | false =>
    rw [if_neg (by simp)] at h
    obtain ⟨k, hk, rfl⟩ := List.mem_map.mp h
    exact ⟨Nat.le_refl _, List.mem_range.mp hk, rfl⟩
theorem groupsP_len (b : Bool) {n : Nat} (h1 : 1 ≤ n) : (groupsP b n).length ≤ n := by
  unfold groupsP
  cases b <;> simp
  exact h1
theorem groupQ_len (L : LoopD) (ok : LoopOk L) {b : Bool} {g : Nat × Nat × Bool} (hg : g ∈ groupsP b L.ss.length) (ls : List Nat) : (groupQ L g ls).length ≤ 20 * ls.length := by
  unfold groupQ
  have h5 := ok.l5
  obtain ⟨g1, g2, _⟩ := groupsP_mem hg ok.l1
  split
  · exact flat_len (fun a => by
      have := iterP_len L ok a (List.range' g.1 (g.2.1 + 1 - g.1))
      rw [List.length_range'] at this
      omega) ls
  · rw [List.length_map]
    omega
theorem flat_len2 {α β : Type} {f : α → List β} {k : Nat} : ∀ (l : List α), (∀ x ∈ l, (f x).length ≤ k) → (l.flatMap f).length ≤ k * l.length
  | [], _ => by simp
  | x :: l, h => by
    rw [List.flatMap_cons, List.length_append, List.length_cons, Nat.mul_succ]
    have := flat_len2 l (fun y hy => h y (List.mem_cons_of_mem _ hy))
    have := h x List.mem_cons_self
    omega
theorem evG_len (L : LoopD) (ok : LoopOk L) (b : Bool) (w c blk i : Nat) : (evG L b w c blk i).length ≤ 100 * w := by
  unfold evG
  have h5 := ok.l5
  have h := flat_len2 (f := fun g => groupQ L g (lanesP w c blk)) (k := 20 * w) ((groupsP b L.ss.length).take i) fun g hg => by
    have := groupQ_len L ok (List.mem_of_mem_take hg) (lanesP w c blk)
    have := lanesP_len w c blk
    omega
  have h2 : ((groupsP b L.ss.length).take i).length ≤ 5 := by
    rw [List.length_take]
    have := groupsP_len b ok.l1
    omega
  have : 20 * w * ((groupsP b L.ss.length).take i).length ≤ 20 * w * 5 := Nat.mul_le_mul_left _ h2
  omega
theorem evG_all (L : LoopD) (b : Bool) (w c blk : Nat) : evG L b w c blk (groupsP b L.ss.length).length = (groupsP b L.ss.length).flatMap fun g => groupQ L g (lanesP w c blk) := by
  unfold evG
  rw [List.take_length]
theorem evB_succ (L : LoopD) (b : Bool) (w c j : Nat) : evB L b w c (j + 1) = evB L b w c j ++ evG L b w c j (groupsP b L.ss.length).length := by
  rw [evG_all]
  unfold evB
  rw [List.range_succ, List.flatMap_append, List.flatMap_cons, List.flatMap_nil, List.append_nil]
theorem evG_succ (L : LoopD) (b : Bool) (w c blk i : Nat) {g : Nat × Nat × Bool} (h : (groupsP b L.ss.length)[i]? = some g) : evG L b w c blk (i + 1) = evG L b w c blk i ++ groupQ L g (lanesP w c blk) := by
  unfold evG
  rw [take_snoc h, List.flatMap_append, List.flatMap_cons, List.flatMap_nil, List.append_nil]
theorem evB_len (L : LoopD) (ok : LoopOk L) (b : Bool) (w c : Nat) : ∀ j, (evB L b w c j).length ≤ 100 * (w * j)
  | 0 => by simp [evB]
  | j + 1 => by
    rw [evB_succ, List.length_append, Nat.mul_succ]
    have := evB_len L ok b w c j
    have := evG_len L ok b w c j (groupsP b L.ss.length).length
    omega
theorem many_mul (w c : Nat) {j : Nat} (h : j ≤ manyP w c) : w * j ≤ c + w := by
  have h1 : w * j ≤ w * manyP w c := Nat.mul_le_mul_left _ h
  have h2 : w * manyP w c ≤ c + w - 1 := Nat.mul_div_le _ _
  omega
section
variable {X : Cx} {σ : L2.St} {H H' : Hp} {o : Expr} {pos : Pos} {P P' : VPd} {m : Str} {k : Nat} {ps : List Str} {G : Type} {pre : G → List V → Hp → Prop} {post : G → VPd}
theorem vp_meth0D {C : Addr} {apos : Pos} {pl : Sem Bool} (F : HasM X.prog X.w X.K X.mg X.base C m k ps (PuSp pre post)) (c : Cls X.K C) (hr : Room k X.A) (ho : VP X σ H o P)
    (hp : ∀ v H1, Ex H H1 → P v H1 → ∃ pp dx fs g, v = .ref pp ∧ H1 pp = some (.ins C dx fs) ∧ fs.lookup m = none ∧ pre g [.ref pp] H1 ∧ ∀ v H', Ex H1 H' → post g v H' → P' v H')
    (ht : eval (.Call (.Attribute o m apos) [] [] pos) X.env = (do
      let ov ← eval o X.env
      standAt apos.atName
      let (f, first) ← holding [ov] (getMethod ov m pl)
      callWith pos f first (backTo pos (starEach [] X.env)) (backToKw pos (keywordEach [] X.env))) := by rfl) : VP X σ H (.Call (.Attribute o m apos) [] [] pos) P' := by
  obtain ⟨f, fd, F1, F2, F3⟩ := F.ex
  intro H1 e1 Q q
  refine toE (pe_meth0 (pl := pl) we_pe c F2 F1 hr F3 .nil pass0 ht) (ho H1 e1 _ fun u H2 e2 p2 => ?_)
  obtain ⟨pp, dx, fs, g, rfl, hi, hl, h1, h2⟩ := hp u H2 (e1.trans e2) p2
  refine ⟨pp, dx, fs, rfl, hi, hl, ?_⟩
  exact ⟨g, h1, fun v H4 e4 p4 => q v H4 (e2.trans e4) (h2 v H4 e4 p4)⟩
end
section
variable {P : Program} {w : World} {K : PySem.W.Frag} {mg : Str → Option Value} {base : Heap} {CL CS CO CV CW : Addr}
abbrev spGroup (K : PySem.W.Frag) (CL CS CO CV CW : Addr) : Sp := PuSp (fun (g : Addr × WvD × (Nat × Nat × Bool) × Addr × List Nat) vs H => vs = [.ref g.1, .int (g.2.2.1.1 : Int), .int (g.2.2.1.2.1 : Int), .bl g.2.2.1.2.2, .ref g.2.2.2.1] ∧ WvAt K CL CS CO CV CW H g.1 g.2.1 ∧ WvOk g.2.1 ∧ g.2.2.1 ∈ groupsP g.2.1.b g.2.1.L.ss.length ∧ H g.2.2.2.1 = some (.tup (natV g.2.2.2.2)) ∧ g.2.2.2.2.length ≤ 200) fun g => EvL (groupQ g.2.1.L g.2.2.1 g.2.2.2.2)
theorem ok_Weaver_group {f : Addr} {fd : FuncData} (F : Fd K "group" "Weaver.group" s_Weaver_group [] [] f fd) (T : Txt K mg CL CS CO CV CW) (h1 : Has P w K mg base "loads_of" 3 ["loop", "number", "at"] (spLoads CL CS CO)) (h2 : Has P w K mg base "iteration_events" 4 ["loop", "at", "numbers"] (spIter CL CS CO)) (h3 : Has P w K mg base "end_of" 3 ["loop", "number", "at"] (spEnd CL CS CO))
    (g1 : HasG P w K mg base CW "ahead" 1 (spWayGet K CW fun W v _ => v = .int W.ahead)) : FnOk P w K mg base CX0 5 f fd ["self", "first", "last", "bundled", "lanes"] (spGroup K CL CS CO CV CW) := by
  refine F.ok sc_Weaver_group (fun vs H Q E h => ?_) (fun cdv A outer s H vs Q E hr h => ?_)
  · obtain ⟨g, ⟨rfl, _⟩, _⟩ := h
    rfl
  · obtain ⟨⟨a, D, ⟨gf, gt, gb⟩, ll, ls⟩, ⟨rfl, hV, ok, hg, hll, hls⟩, k⟩ := h
    dsimp only at hV ok hg hll hls k
    obtain ⟨dx, lo, wa, gl, ha, hL, hW, hgs⟩ := id hV
    obtain ⟨dw, dd, vb, hwa, hdd, hbn⟩ := id hW
    obtain ⟨q1, q2, q3⟩ := groupsP_mem hg ok.lo.l1
    dsimp only at q1 q2 q3
    have h5 := ok.lo.l5
    have hlo : ∀ {H1 : Hp}, Ex H H1 → H1 lo ≠ none := fun {H1} e z => by
      obtain ⟨_, _, _, _, _, _, h, _⟩ := hL
      rw [e _ _ h] at z
      cases z
    have src : ∀ {i : Nat} {x : V}, (natV ls)[i]? = some x → x = .int (ls.getD i 0 : Nat) := fun {i x} hx => by
      unfold natV at hx
      rw [List.getElem?_map] at hx
      obtain ⟨m, hm, rfl⟩ := Option.map_eq_some_iff.mp hx
      rw [List.getD_eq_getElem?_getD, hm]
      rfl
    have lnat : (natV ls).length = ls.length := by unfold natV; rw [List.length_map]
    have hgf : gf < D.L.ss.length := by omega
    have nlen : (List.range' gf (gt + 1 - gf)).length ≤ 5 := by rw [List.length_range']; omega
    refine wb_if (t_val (v_nm (v := .bl gb) 3 rfl)) (fun ht H1 e1 => ?_) (fun ht H1 e1 => ?_)
    · subst ht
      refine wb_set 5 sc_Weaver_group.nd (v_listR2 (i := gf) (j := gt + 1) T.list T.range (v_nm (v := .int (gf : Int)) 1 rfl) (VE.is (v_add (v_nm (v := .int (gt : Int)) 2 rfl) v_int) (by rw [Int.natCast_add]; rfl)) (by omega) (by omega)) fun v H2 e2 p2 => ?_
      obtain ⟨nl, rfl, hnl⟩ := p2
      have e12 := e1.trans e2
      refine wb_ret (vp_lc2 (n := ls.length) (Y := fun i v _ => v = .int (ls.getD i 0 : Nat)) 7 8 (own := [("at", 7), ("event", 8)]) rfl sc_Weaver_group.nd (blkOk_by (N := n_Weaver_group) (sc := defScope s_Weaver_group) (by decide +kernel)) (vi_T (fun i => mono_eq) ((v_nm (v := .ref ll) 4 rfl).imp fun v H3 e3 q => ⟨ll, _, q, SqT.of ((e12.trans e3) _ _ hll), lnat, fun i x hx => src hx⟩)) (by omega)
        (fun i => (iterP D.L (ls.getD i 0) (List.range' gf (gt + 1 - gf))).map evD) (fun i => by
          rw [List.length_map]
          have := iterP_len D.L ok.lo (ls.getD i 0) (List.range' gf (gt + 1 - gf))
          omega) rfl rfl rfl rfl (fun x => rfl) (fun x y => rfl) (fun x y => rfl) (by decide) (by decide) fun i x H3 Dd hi e3 hy hD hD0 => ?_) fun v H3 e3 p3 => ?_
      · subst hy
        intro s0 H0 C cl fp
        have e := e12.trans e3
        exact vp_call h2 hr (lo, D.L, ls.getD i 0, nl, List.range' gf (gt + 1 - gf), Dd) (va_cons (v_fld T.cV T.nVl (v_nm (v := .ref a) 0 rfl) (e _ _ ha) (fsV_loop _ _ _ _ _ _)) (va_cons (v_nm (v := .int (ls.getD i 0 : Nat)) 7 rfl) (va_cons (v_nm (v := .ref nl) 5 rfl) va_nil))) (fun vs H5 e5 q => ⟨q, hL.ex (e.trans e5), ok.lo, (e3.trans e5) _ _ hnl, fun n hn => by show n < D.L.ss.length; have := List.mem_range'_1.mp hn; omega, by show (List.range' gf (gt + 1 - gf)).length ≤ 100; omega, fun z => by
          cases zz : H3 Dd with
          | none => exact hD zz
          | some o => rw [e5 _ _ zz] at z; cases z⟩) (fun v H5 e5 q => q)
      · obtain ⟨q, ys, rfl, _, hq, ty⟩ := p3
        refine k _ H3 (e12.trans e3) ⟨q, ys, rfl, hq, ?_⟩
        rw [flat_range (fun m => (iterP D.L m (List.range' gf (gt + 1 - gf))).map evD) 0 ls] at ty
        unfold groupQ
        rw [if_pos rfl, List.map_flatMap]
        exact ty
    · subst ht
      have hbf : D.b = false := q3.symm
      have hno : ∀ n, D.L.srcsAt n = [] := by
        rcases ok.ko with ⟨h, _⟩ | ⟨_, h⟩
        · rw [h] at hbf; cases hbf
        · exact h
      refine wb_nil ?_
      refine wb_set 6 sc_Weaver_group.nd (v_lst va_nil (by simp)) fun v H2 e2 p2 => ?_
      obtain ⟨fl, rfl, hf0', hf⟩ := p2
      have hf0 : H fl = none := fresh_back e1 hf0'
      have e12 := e1.trans e2
      refine wb_if (t_eq (x := .int D.W.ahead) (vp_prop g1 T.cW (hr.mono (by decide)) (v_fld T.cV T.nVw (v_nm (v := .ref a) 0 rfl) (e12 _ _ ha) (fsV_way _ _ _ _ _ _)) (e12 _ _ hwa) (wa, D.W) (fun H3 e3 => ⟨rfl, hW.ex (e12.trans e3)⟩) (fun _ _ _ q => q)) v_int) (fun ht H3 e3 => ?_) (fun ht H3 e3 => ?_)
      · have e13 := e12.trans e3
        refine wb_ext (xs := []) (e3 _ _ hf) (v_nm (v := .ref fl) 6 rfl) (vp_lc2 (n := ls.length) (Y := fun i v _ => v = .int (ls.getD i 0 : Nat)) 7 8 (own := [("at", 7), ("event", 8)]) rfl sc_Weaver_group.nd (blkOk_by (N := n_Weaver_group) (sc := defScope s_Weaver_group) (by decide +kernel)) (vi_T (fun i => mono_eq) ((v_nm (v := .ref ll) 4 rfl).imp fun v H4 e4 q => ⟨ll, _, q, SqT.of ((e13.trans e4) _ _ hll), lnat, fun i x hx => src hx⟩)) (by omega)
          (fun i => []) (fun i => by simp) rfl rfl rfl rfl (fun x => rfl) (fun x y => rfl) (fun x y => rfl) (by decide) (by decide) fun i x H4 Dd hi e4 hy hD hD0 => ?_) fun v H4 e4 p4 => ?_
        · subst hy
          intro s0 H0 C cl fp
          have e := e13.trans e4
          refine vp_call h1 (hr.mono (by decide)) (lo, D.L, gf, ls.getD i 0, Dd) (va_cons (v_fld T.cV T.nVl (v_nm (v := .ref a) 0 rfl) (e _ _ ha) (fsV_loop _ _ _ _ _ _)) (va_cons (v_nm (v := .int (gf : Int)) 1 rfl) (va_cons (v_nm (v := .int (ls.getD i 0 : Nat)) 7 rfl) va_nil))) (fun vs H5 e5 q => ⟨q, hL.ex (e.trans e5), ok.lo, hgf, fun z => by
            cases zz : H4 Dd with
            | none => exact hD zz
            | some o => rw [e5 _ _ zz] at z; cases z⟩) (fun v H5 e5 q => ?_)
          dsimp only at q
          rw [loadsP_nil (hno gf)] at q
          exact q
        · obtain ⟨q, ys, rfl, _, hq, ty⟩ := p4
          rw [List.flatMap_eq_nil_iff.mpr (fun _ _ => rfl)] at ty
          cases ty
          refine ⟨q, [], rfl, hq, by simp, wb_nil ?_⟩
          have EA : Ex H (upd H4 fl (.lst ([] ++ []))) := (e13.trans e4).mut hf0
          have HA : (upd H4 fl (.lst ([] ++ []))) fl = some (.lst []) := upd_same
          generalize upd H4 fl (.lst ([] ++ [])) = H9 at EA HA ⊢
          refine wb_ret (P := EvL (groupQ D.L (gf, gt, false) ls)) (vp_op op_cat (PA := fun v _ => v = .ref fl) (PB := fun _ v H' => ∃ q ys, v = .ref q ∧ H' q = some (.lst ys) ∧ TpAll H' ys (ls.map fun m => evD (endP D.L gf m)) ∧ ys.length ≤ ls.length) (v_nm (v := .ref fl) 6 rfl) (fun x H4 e4 p4 => VP.imp (vp_lc (n := ls.length) (Y := fun i v _ => v = .int (ls.getD i 0 : Nat)) (P0 := fun i v H' => Tp H' v (evD (endP D.L gf (ls.getD i 0)))) (keep := fun _ => true) [("at", 7)] sc_Weaver_group.nd (blkOk_by (N := n_Weaver_group) (sc := defScope s_Weaver_group) (by decide +kernel)) (fun i => imm_tp)
            (vi_T (fun i => mono_eq) ((v_nm (v := .ref ll) 4 rfl).imp fun v H5 e5 q => ⟨ll, _, q, SqT.of ((((EA).trans e4).trans e5) _ _ hll), lnat, fun i x hx => src hx⟩)) (by omega) fun i x H5 hi e5 hy => ?_) fun v H5 e5 p5 => ?_) (fun x H4 y H5 e4 p4 e5 p5 Q k5 => ?_)) fun v H4 e4 p4 => k v H4 ((EA).trans e4) p4
          · subst hy
            refine turn_nm 7 sc_Weaver_group.nd rfl rfl rfl (fun s H0 C cl fp => ts_nil) fun _ s H0 C cl fp => ?_
            have e := ((EA).trans e4).trans e5
            exact vp_call h3 (hr.mono (by decide)) (lo, D.L, gf, ls.getD i 0) (va_cons (v_fld T.cV T.nVl (v_nm (v := .ref a) 0 rfl) (e _ _ ha) (fsV_loop _ _ _ _ _ _)) (va_cons (v_nm (v := .int (gf : Int)) 1 rfl) (va_cons (v_nm (v := .int (ls.getD i 0 : Nat)) 7 rfl) va_nil))) (fun vs H6 e6 q => ⟨q, hL.ex (e.trans e6), hgf⟩) (fun v H6 e6 q => q)
          · obtain ⟨q, ys, rfl, _, hq, ho⟩ := p5
            have ty := outs_tp (d := fun i => evD (endP D.L gf (ls.getD i 0))) ho
            rw [List.filter_eq_self.mpr (fun _ _ => rfl), map_range (fun m => evD (endP D.L gf m)) 0 ls] at ty
            exact ⟨q, ys, rfl, hq, ty, ho.len⟩
          · subst p4
            obtain ⟨q, ys, rfl, hq, ty, ly⟩ := p5
            refine ⟨fl, q, [], ys, rfl, rfl, (e4.trans e5) _ _ (HA), hq, sz_of (by simp; omega), fun p hp => k5 _ _ (Ex.new hp) ⟨p, ys, rfl, upd_same, ?_⟩⟩
            unfold groupQ
            rw [if_neg (by simp), List.map_map]
            exact ty.kt (kt_new hp)
      · refine wb_nil ?_
        have EA := e12.trans e3
        have HA := e3 _ _ hf
        refine wb_ret (P := EvL (groupQ D.L (gf, gt, false) ls)) (vp_op op_cat (PA := fun v _ => v = .ref fl) (PB := fun _ v H' => ∃ q ys, v = .ref q ∧ H' q = some (.lst ys) ∧ TpAll H' ys (ls.map fun m => evD (endP D.L gf m)) ∧ ys.length ≤ ls.length) (v_nm (v := .ref fl) 6 rfl) (fun x H4 e4 p4 => VP.imp (vp_lc (n := ls.length) (Y := fun i v _ => v = .int (ls.getD i 0 : Nat)) (P0 := fun i v H' => Tp H' v (evD (endP D.L gf (ls.getD i 0)))) (keep := fun _ => true) [("at", 7)] sc_Weaver_group.nd (blkOk_by (N := n_Weaver_group) (sc := defScope s_Weaver_group) (by decide +kernel)) (fun i => imm_tp)
          (vi_T (fun i => mono_eq) ((v_nm (v := .ref ll) 4 rfl).imp fun v H5 e5 q => ⟨ll, _, q, SqT.of ((((EA).trans e4).trans e5) _ _ hll), lnat, fun i x hx => src hx⟩)) (by omega) fun i x H5 hi e5 hy => ?_) fun v H5 e5 p5 => ?_) (fun x H4 y H5 e4 p4 e5 p5 Q k5 => ?_)) fun v H4 e4 p4 => k v H4 ((EA).trans e4) p4
        · subst hy
          refine turn_nm 7 sc_Weaver_group.nd rfl rfl rfl (fun s H0 C cl fp => ts_nil) fun _ s H0 C cl fp => ?_
          have e := ((EA).trans e4).trans e5
          exact vp_call h3 (hr.mono (by decide)) (lo, D.L, gf, ls.getD i 0) (va_cons (v_fld T.cV T.nVl (v_nm (v := .ref a) 0 rfl) (e _ _ ha) (fsV_loop _ _ _ _ _ _)) (va_cons (v_nm (v := .int (gf : Int)) 1 rfl) (va_cons (v_nm (v := .int (ls.getD i 0 : Nat)) 7 rfl) va_nil))) (fun vs H6 e6 q => ⟨q, hL.ex (e.trans e6), hgf⟩) (fun v H6 e6 q => q)
        · obtain ⟨q, ys, rfl, _, hq, ho⟩ := p5
          have ty := outs_tp (d := fun i => evD (endP D.L gf (ls.getD i 0))) ho
          rw [List.filter_eq_self.mpr (fun _ _ => rfl), map_range (fun m => evD (endP D.L gf m)) 0 ls] at ty
          exact ⟨q, ys, rfl, hq, ty, ho.len⟩
        · subst p4
          obtain ⟨q, ys, rfl, hq, ty, ly⟩ := p5
          refine ⟨fl, q, [], ys, rfl, rfl, (e4.trans e5) _ _ (HA), hq, sz_of (by simp; omega), fun p hp => k5 _ _ (Ex.new hp) ⟨p, ys, rfl, upd_same, ?_⟩⟩
          unfold groupQ
          rw [if_neg (by simp), List.map_map]
          exact ty.kt (kt_new hp)
end
end Vw
end
section
/-! Weaver.events; wide_list. -/
namespace Vw
open PySem PySem.Spec PyProof.Rows L2 Evl
section
variable {P : Program} {w : World} {K : PySem.W.Frag} {mg : Str → Option Value} {base : Heap} {CL CS CO CV CW : Addr}
abbrev spEvents (K : PySem.W.Frag) (CL CS CO CV CW : Addr) : Sp := PuSp (fun (g : Addr × WvD) vs H => vs = [.ref g.1] ∧ WvAt K CL CS CO CV CW H g.1 g.2 ∧ WvOk g.2) fun g => EvL (wideP g.2.L g.2.b g.2.w g.2.c)
theorem ok_Weaver_events {f : Addr} {fd : FuncData} (F : Fd K "events" "Weaver.events" s_Weaver_events [] [] f fd) (T : Txt K mg CL CS CO CV CW) (m1 : HasM P w K mg base CV "beginning" 6 ["self", "block"] (spBeg K CL CS CO CV CW)) (m2 : HasM P w K mg base CV "group" 5 ["self", "first", "last", "bundled", "lanes"] (spGroup K CL CS CO CV CW))
    (m3 : HasM P w K mg base CV "lanes" 4 ["self", "block"] (spLanes K CL CS CO CV CW)) (g1 : HasG P w K mg base CW "tail" 1 (spWayGet K CW fun _ v _ => v = .str "mask")) : FnOk P w K mg base CX0 7 f fd ["self"] (spEvents K CL CS CO CV CW) := by
  refine F.ok sc_Weaver_events (fun vs H Q E h => ?_) (fun cdv A outer s H vs Q E hr h => ?_)
  · obtain ⟨g, ⟨rfl, _⟩, _⟩ := h
    rfl
  · obtain ⟨⟨a, D⟩, ⟨rfl, hV, ok⟩, k⟩ := h
    dsimp only at hV ok k
    obtain ⟨dx, lo, wa, gl, ha, hL, hW, gs, hgl, tg⟩ := id hV
    obtain ⟨dw, dd, vb, hwa, hdd, hbn⟩ := id hW
    have hw2 := ok.w2
    have hc2 := ok.c2
    have hm := manyP_le D.w D.c ok.w1
    have hgs : gs.length = (groupsP D.b D.L.ss.length).length := by rw [tg.length, List.length_map]
    refine wb_set 1 sc_Weaver_events.nd (v_lst va_nil (by simp)) fun v H1 e1 p1 => ?_
    obtain ⟨fl, rfl, hf0, hf⟩ := p1
    refine wb_forR (k := (manyP D.w D.c : Int)) T.range (v_fld T.cV T.nVm (v_nm (v := .ref a) 0 rfl) (e1 _ _ ha) (fsV_many _ _ _ _ _ _)) (by omega) (by omega)
      (fun j σ' H' => Ex H H' ∧ (∃ xs, H' fl = some (.lst xs) ∧ TpAll H' xs ((evB D.L D.b D.w D.c j).map evD)) ∧ ∃ o2 o3 o4 o5, σ' = [some (.ref a), some (.ref fl), o2, o3, o4, o5])
      (fun H2 e2 => ⟨e1.trans e2, ⟨[], e2 _ _ hf, .nil⟩, none, none, none, none, rfl⟩) (fun j σ' H' hj r => ?_) (fun σ' H' r => ?_)
    · obtain ⟨eH, ⟨xs, hxs, tx⟩, o2, o3, o4, o5, rfl⟩ := r
      have hj' : j < manyP D.w D.c := by omega
      have bB : xs.length ≤ 50000 := by
        rw [tx.length, List.length_map]
        have h1 := evB_len D.L ok.lo D.b D.w D.c j
        have h2 := many_mul D.w D.c (Nat.le_of_lt hj')
        omega
      refine wg_nm 2 sc_Weaver_events.nd ?_
      refine wb_ext (xs := xs) hxs (v_nm (v := .ref fl) 1 rfl) (P := EvL []) (vp_meth m1 T.cV hr (v_nm (v := .ref a) 0 rfl) (eH _ _ ha) (fsV_no _ _ _ _ _ _ (by decide +kernel)) (a, D, j) (va_cons (v_nm (v := .int (j : Int)) 2 rfl) va_nil) (fun vs H3 e3 q => ⟨by rw [q], hV.ex (eH.trans e3), ok, by show j ≤ 390; omega⟩) (fun _ _ _ q => q)) fun v H3 e3 p3 => ?_
      obtain ⟨q, zs, rfl, hq, tz⟩ := p3
      cases tz
      have h3 := e3 _ _ hxs
      have E3 : Ex H (upd H3 fl (.lst (xs ++ []))) := (eH.trans e3).mut hf0
      have T3 : TpAll (upd H3 fl (.lst (xs ++ []))) xs ((evB D.L D.b D.w D.c j).map evD) := (tx.ex e3).kt (kt_lst h3)
      have S3 : (upd H3 fl (.lst (xs ++ []))) fl = some (.lst xs) := by rw [upd_same, List.append_nil]
      refine ⟨q, [], rfl, hq, by simp; omega, ?_⟩
      generalize upd H3 fl (.lst (xs ++ [])) = H4 at E3 T3 S3 ⊢
      refine wb_forL (v_fld T.cV T.nVg (v_nm (v := .ref a) 0 rfl) (E3 _ _ ha) (fsV_groups _ _ _ _ _ _)) fun v H5 e5 p5 => ⟨gl, gs, fun i σ' H' => Ex H H' ∧ (∃ xs, H' fl = some (.lst xs) ∧ TpAll H' xs ((evB D.L D.b D.w D.c j ++ evG D.L D.b D.w D.c j i).map evD)) ∧ ∃ o3 o4 o5, σ' = [some (.ref a), some (.ref fl), some (.int (j : Int)), o3, o4, o5],
        p5, sq_of ((E3.trans e5) _ _ hgl), ⟨E3.trans e5, ⟨xs, e5 _ _ S3, by rw [show evG D.L D.b D.w D.c j 0 = [] from rfl, List.append_nil]; exact T3.ex e5⟩, o3, o4, o5, rfl⟩, fun i σ' H' _ r => sq_of (r.1 _ _ hgl), fun i x σ' H' hx r => ?_, fun σ' H' r => ?_⟩
      · obtain ⟨eH2, ⟨ys, hys, ty⟩, o3', o4', o5', rfl⟩ := r
        obtain ⟨dt, hdt, t⟩ := tpAll_get tg hx
        rw [List.getElem?_map] at hdt
        obtain ⟨⟨gf, gt, gb⟩, hg, rfl⟩ := Option.map_eq_some_iff.mp hdt
        obtain ⟨gp, rfl, hgp⟩ := tp_grp t
        have bY : ys.length ≤ 70000 := by
          rw [ty.length, List.length_map, List.length_append]
          have h1 := evB_len D.L ok.lo D.b D.w D.c j
          have h2 := many_mul D.w D.c (Nat.le_of_lt hj')
          have h3 := evG_len D.L ok.lo D.b D.w D.c j i
          omega
        have hgm := List.mem_of_getElem? hg
        have lnl := lanesP_len D.w D.c j
        refine wg_three 3 4 5 sc_Weaver_events.nd (SqT.of (eH2 _ _ hgp)) ?_
        refine wb_ext (xs := ys) hys (v_nm (v := .ref fl) 1 rfl) (P := EvL (groupQ D.L (gf, gt, gb) (lanesP D.w D.c j))) (vp_methD m2 T.cV (hr.mono (by decide)) (v_nm (v := .ref a) 0 rfl) (eH2 _ _ ha) (fsV_no _ _ _ _ _ _ (by decide +kernel))
          (vap_v (v_nm (v := .int (gf : Int)) 3 rfl) (vap_v (v_nm (v := .int (gt : Int)) 4 rfl) (vap_v (v_nm (v := .bl gb) 5 rfl) (vap_cons (P := fun v H' => ∃ q, v = .ref q ∧ H' q = some (.tup (natV (lanesP D.w D.c j)))) (vp_meth m3 T.cV (hr.mono (by decide)) (v_nm (v := .ref a) 0 rfl) (eH2 _ _ ha) (fsV_no _ _ _ _ _ _ (by decide +kernel)) (a, D, j) (va_cons (v_nm (v := .int (j : Int)) 2 rfl) va_nil) (fun vs H6 e6 q => ⟨by rw [q], hV.ex (eH2.trans e6), ok, by show j ≤ 400; omega⟩) (fun _ _ _ q => q)) mono_at fun _ _ _ _ => vap_nil)))) fun vs H6 e6 q => ?_) fun v H6 e6 p6 => ?_
        · obtain ⟨_, rfl, _, rfl, _, rfl, _, _, rfl, ⟨ll, rfl, hll⟩, rfl⟩ := q
          exact ⟨(a, D, (gf, gt, gb), ll, lanesP D.w D.c j), ⟨rfl, hV.ex (eH2.trans e6), ok, hgm, hll, by show (lanesP D.w D.c j).length ≤ 200; omega⟩, fun v H' e' q => q⟩
        · obtain ⟨z, zs, rfl, hz, tz⟩ := p6
          have lz : zs.length ≤ 4000 := by
            rw [tz.length, List.length_map]
            have := groupQ_len D.L ok.lo hgm (lanesP D.w D.c j)
            omega
          refine ⟨z, zs, rfl, hz, by omega, wb_nil ⟨(eH2.trans e6).mut hf0, ⟨_, upd_same, ?_⟩, _, _, _, rfl⟩⟩
          rw [evG_succ D.L D.b D.w D.c j i hg, ← List.append_assoc, List.map_append]
          exact ((ty.ex e6).append tz).kt (kt_lst (e6 _ _ hys))
      · obtain ⟨eH2, ⟨ys, hys, ty⟩, o3', o4', o5', rfl⟩ := r
        refine wb_nil ⟨eH2, ⟨ys, hys, ?_⟩, _, _, _, _, rfl⟩
        rw [evB_succ]
        rw [hgs] at ty
        exact ty
    · obtain ⟨eH, ⟨xs, hxs, tx⟩, o2, o3, o4, o5, rfl⟩ := r
      refine wb_no (VT.is (t_eq (x := .str "mask") (vp_prop g1 T.cW (hr.mono (by decide)) (v_fld T.cV T.nVw (v_nm (v := .ref a) 0 rfl) (eH _ _ ha) (fsV_way _ _ _ _ _ _)) (eH _ _ hwa) (wa, D.W) (fun H3 e3 => ⟨rfl, hW.ex (eH.trans e3)⟩) (fun _ _ _ q => q)) v_str) (sd (by decide +kernel))) fun H3 e3 => ?_
      refine wb_ret (v_nm (v := .ref fl) 1 rfl) fun v H4 e4 p4 => k v H4 ((eH.trans e3).trans e4) ⟨fl, xs, p4, e4 _ _ (e3 _ _ hxs), ?_⟩
      exact tx.ex (e3.trans e4)
abbrev spWideList (K : PySem.W.Frag) (CL CS CO CV CW : Addr) : Sp := PuSp (fun (g : WvD × Addr × Addr) vs H => vs = [.ref g.2.1, .ref g.2.2, .int (g.1.w : Int), .int (g.1.c : Int)] ∧ WvOk g.1 ∧ LoopAt CL CS CO H g.2.1 g.1.L ∧ WayAt K CW H g.2.2 g.1.W) fun g => EvL (wideP g.1.L g.1.b g.1.w g.1.c)
theorem ok_wide_list {f : Addr} {fd : FuncData} (F : Fd K "wide_list" "wide_list" s_wide_list [] [] f fd) (T : Txt K mg CL CS CO CV CW) (hI : HasI P w K mg base CV 4 ["self", "loop", "way", "width", "count"] (InSp CV (preWv K CL CS CO CW) (postWv K CL CS CO CW))) (m1 : HasM P w K mg base CV "events" 7 ["self"] (spEvents K CL CS CO CV CW)) :
    FnOk P w K mg base CX0 8 f fd ["loop", "way", "width", "count"] (spWideList K CL CS CO CV CW) := by
  refine F.ok sc_wide_list (fun vs H Q E h => ?_) (fun cdv A outer s H vs Q E hr h => ?_)
  · obtain ⟨g, ⟨rfl, _⟩, _⟩ := h
    rfl
  · obtain ⟨⟨D, lo, wa⟩, ⟨rfl, ok, hL, hW⟩, k⟩ := h
    dsimp only at ok hL hW k
    refine wb_ret (P := EvL (wideP D.L D.b D.w D.c)) (vp_meth0D (P := fun v H' => ∃ x, v = .ref x ∧ WvAt K CL CS CO CV CW H' x D) m1 T.cV hr (vp_make hI T.gV (hr.mono (by decide)) (D, lo, wa) (va_cons (v_nm (v := .ref lo) 0 rfl) (va_cons (v_nm (v := .ref wa) 1 rfl) (va_cons (v_nm (v := .int (D.w : Int)) 2 rfl) (va_cons (v_nm (v := .int (D.c : Int)) 3 rfl) va_nil)))) (fun vs H1 H2 e1 q e2 => ⟨q, ok, hL.ex (e1.trans e2), hW.ex (e1.trans e2)⟩) (fun H' x dx fs e' h0 hx po => ?_)) fun v H1 e1 p1 => ?_) k
    · obtain ⟨gl, rfl, hin⟩ := po
      exact ⟨x, rfl, dx, lo, wa, gl, hx, hin⟩
    · obtain ⟨x, rfl, hV⟩ := p1
      obtain ⟨dx, lo', wa', gl, ha, hin⟩ := id hV
      exact ⟨x, dx, _, (x, D), rfl, ha, fsV_no _ _ _ _ _ _ (by decide +kernel), ⟨rfl, hV, ok⟩, fun v H' e' q => q⟩
end
end Vw
end
section
/-! enumerate(t), t a tuple. -/
namespace Vw
open PySem PySem.Spec PyProof.Rows L2 Evl
open PySem (Begins begins_tuple Draws)
abbrev enO (it : Addr) : Obj := { cls := .type "enumerate", data := .fields #[.none, .bool false, .ref it, rawInt 0, .none, .none] }
set_option maxHeartbeats 1000000 in
theorem meets_enum1 {v : Value} {o : Obj} {G : Heap → Prop} (B : Begins v o G) : Meets (Builtin.«enumerate.__new__» ⟨[.type "enumerate", v], []⟩) (fun _ R s => G s.heap ∧ R (.ok (.ret (.ref (s.heap.push o).objs.size))) { s with heap := (s.heap.push o).push (enO s.heap.objs.size) }) :=
  .of_wp fun prog w A R s z => by
    obtain ⟨hp, gg, dd, tk, os⟩ := s
    obtain ⟨z1, z2⟩ := z
    have hs := sub_enumerate
    have iter1 : ∀ {A2 : Around} {E : Value → Shared → Prop} {Q : Value → Shared → Prop}, Q (.ref hp.objs.size) ⟨hp.push o, gg, dd, tk, os⟩ → wpAny (model prog w) A2 (pyIter v) Q E ⟨hp, gg, dd, tk, os⟩ := fun q => B.iter prog w _ _ ⟨hp, gg, dd, tk, os⟩ _ z1 q
    wp_walk using iter1
    refine wpAny_stack_any fun st => wpAny_pure ?_
    split
    · rename_i c _ _ _ _ _
      cases (c == Value.type "enumerate") <;> (wp_walk using iter1; exact ⟨_, rfl, z2⟩)
    · wp_walk using iter1
      exact ⟨_, rfl, z2⟩
section
variable {prog : Program} {w : World} {A : Around} {E : Value → Shared → Prop} {s : Shared}
theorem enum1_begins {v : Value} {o : Obj} {G : Heap → Prop} {Q : Value → Shared → Prop} (B : Begins v o G) (h1 : G s.heap)
    (h : ∀ h', IsEnum h' (s.heap.objs.size + 1) s.heap.objs.size 0 .none → h'.get? s.heap.objs.size = some o → (∀ b o, s.heap.get? b = some o → h'.get? b = some o) → Q (.ref (s.heap.objs.size + 1)) { s with heap := h' }) : wpAny (model prog w) A (call (.type "enumerate") [v]) Q E s := by
  refine callType_new F.called_enumerate (by decide) (F.typeCall_enumerate_1 _) (F.newCall_enumerate_1 _) (fun obj => F.args_object_init_2 obj _) F.entry_enumerate_new (meets_enum1 B) ⟨h1, ?_⟩
  have sz : (s.heap.push o).objs.size = s.heap.objs.size + 1 := Heap.size_push ..
  have got : ((s.heap.push o).push (enO s.heap.objs.size)).get? (s.heap.push o).objs.size = some (enO s.heap.objs.size) := Heap.get?_push_size _ rfl
  show _ ∧ _
  rw [sz] at got ⊢
  exact ⟨⟨_, got, rfl⟩, h _ got (Heap.get?_push_of_some _ (Heap.get?_push_size _ B.free)) fun b o x => Heap.get?_push_of_some _ (Heap.get?_push_of_some _ x)⟩
end
/-- the tuple at a, each item in a new pair -/
def IteT (K : PySem.W.Frag) (a : Addr) : It :=
  ⟨fun i H => ∃ (xs : List V) (x : V), SqT K H a xs ∧ xs[i]? = some x, fun i H v H' => ∃ p x, v = .ref p ∧ H p = none ∧ H' = upd H p (.tup [.int (i : Nat), x]) ∧ ∀ xs, SqT K H a xs → xs[i]? = some x, fun i H => ∃ xs : List V, SqT K H a xs ∧ xs.length ≤ i⟩
theorem turn_enumT {P : Program} {w : World} {K : PySem.W.Frag} {elts : List Expr} {kk : Nat} {tpos : Pos} (a e it : Addr) :
    Turn P w K (.Tuple elts kk tpos) (IteT K a) [e, it] e (fun i h => (∃ old, IsEnum h e it ((i : Nat) : Int) old) ∧ h.IsTupleIter it a i ∧ e ≠ it) where
  mem := by simp
  obj := fun i h st b hb => by
    obtain ⟨⟨old, he⟩, ⟨o, ho, hc, hd⟩, _⟩ := st
    rcases List.mem_cons.mp hb with z | z
    · rw [z]; exact ⟨_, he, fun v q => nomatch q⟩
    · rw [List.mem_singleton.mp z]; exact ⟨o, ho, fun v q => by rw [hd] at q; cases q⟩
  keep := fun i h h' st k => ⟨let ⟨old, he⟩ := st.1; ⟨old, k e (by simp) _ he⟩, st.2.1.at fun o q => k it (by simp) o q, st.2.2⟩
  item := by
    intro X hP hw hK hc i pins s σ H E I hf st hg
    subst hP hw hK
    obtain ⟨⟨old, he⟩, hit, hne⟩ := st
    obtain ⟨xs, x, hq, hx⟩ := hg
    obtain ⟨its, rv, p, hz⟩ := I.tuple hq
    obtain ⟨u, hu, ru⟩ := rv.get hx
    have hel : e < s.heap.objs.size := Heap.lt_size he
    have hil : it < s.heap.objs.size := by obtain ⟨_, q, _⟩ := hit; exact Heap.lt_size q
    have pt : s.heap.IsTuple a its.toArray := p
    have ea : e ≠ a := fun z => by
      obtain ⟨o, ho, hcl, _⟩ := pt
      rw [← z] at ho
      have he' : s.heap.get? e = some _ := he
      rw [he'] at ho
      rw [← Option.some.inj ho] at hcl
      exact absurd hcl (by simp)
    have ia : a ≠ it := fun z => by
      obtain ⟨o, ho, hcl, _⟩ := pt
      obtain ⟨o2, ho2, hc2, _⟩ := hit
      rw [z, ho2] at ho
      rw [← Option.some.inj ho, hc2] at hcl
      exact absurd hcl (by simp)
    have D := Draws.tuple (prog := X.prog) (w := X.w) (A := X.A.in1) (I.ok.hd hc) it a ia its.toArray
    refine wpAny_pyNext_enum_itemD D he ⟨hit, pt⟩ (by simpa using (List.getElem?_eq_some_iff.mp hu).1) hne (by simp [hne, ea]) fun y h' tk hy ho st2 hT hsz hk => ?_
    have ey : y = u := by
      have z : its[i]? = some y := by simpa using hy
      rw [hu] at z
      exact (Option.some.inj z).symm
    subst ey
    refine ⟨_, rfl, wpAny_letOwnedTupleGo_enum (s := { s with heap := h', toks := tk + 1 }) ho fun h'' he' sb => ?_⟩
    have hT2 : h''.get? s.heap.objs.size = some { cls := .type "tuple", data := .seq #[.int i tk, y] } := (sb.2 _ (Nat.ne_of_gt hel)).trans hT
    have new : ObjOk X.prog X.w (upd H s.heap.objs.size (.tup [.int (i : Nat), x])) h'' s.heap.objs.size (.tup [.int (i : Nat), x]) := ⟨by show 2 ≤ sizeLine; decide, [.int i tk, y], .cons ⟨_, rfl⟩ (.cons ru .nil), ⟨_, hT2, rfl, _, rfl⟩⟩
    have I1 : Inv X pins σ (upd H s.heap.objs.size (.tup [.int (i : Nat), x])) { s with heap := h'', toks := tk + 1 } :=
      I.turnedNew (ch := [e, it]) (fun b ob hb q => (sb.2 b (fun z => hb (by simp [z]))).trans (hk b ob (fun z => hb (by simp [z])) (fun z => hb (by simp [z])) q)) hf (Nat.le_refl _) new
    refine ⟨.ref s.heap.objs.size, _, I1, rfl, ⟨_, x, rfl, I.hok.fresh (Nat.le_refl _), rfl, fun ys hy => by rw [I.tuple_inj hy hq]; exact hx⟩, ⟨⟨y, by rw [show ((i + 1 : Nat) : Int) = (i : Int) + 1 by omega]; exact he'⟩, st2.1.at fun o q => (sb.2 it (Ne.symm hne)).trans q, hne⟩, fun b hb => ?_⟩
    have hb' : b < s.heap.objs.size := by
      rcases List.mem_cons.mp hb with z | z
      · rw [z]; exact hel
      · rw [List.mem_singleton.mp z]; exact hil
    rw [upd_ne (Nat.ne_of_lt hb')]
    exact (hf b hb).1
  done := by
    intro X hP hw hK hc i pins s σ H E I hf st hg
    subst hP hw hK
    obtain ⟨⟨old, he⟩, hit, hne⟩ := st
    obtain ⟨xs, hq, hx⟩ := hg
    obtain ⟨its, rv, p, hz⟩ := I.tuple hq
    obtain ⟨f0, f1, f2, f3, f4, f5⟩ := hf it (by simp)
    have hl := rv.length
    have pt : s.heap.IsTuple a its.toArray := p
    have ia : a ≠ it := fun z => by
      obtain ⟨o, ho, hcl, _⟩ := pt
      obtain ⟨o2, ho2, hc2, _⟩ := hit
      rw [z, ho2] at ho
      rw [← Option.some.inj ho, hc2] at hcl
      exact absurd hcl (by simp)
    have D : Draws X.prog X.w X.A.in1 it [it, a] i (fun _ _ => False) (fun j h => i ≤ j ∧ h.IsTupleIter it a j ∧ h.IsTuple a its.toArray) := {
      live := fun _ _ st => let ⟨o, ho, _⟩ := st.2.1; ⟨o, ho⟩
      frame := fun _ _ _ st hk => ⟨st.1, st.2.1.at fun o e => hk it (by simp) o e, st.2.2.at fun o e => hk a (by simp) o e⟩
      item := fun j s Q E hj st hQ => absurd hj (by have := st.1; omega)
      done := fun s Q E st hE => PySem.wpAny_nextOf_tuple_end (show X.A.in1.handled = none from I.ok.hd hc) st.2.1 st.2.2 (by simp; omega) hE }
    exact wpAny_pyNext_enum_endD D he ⟨Nat.le_refl _, hit, pt⟩ fun h' eb => ⟨rfl, I.turned (t' := s.toks) (fun b o hb q => eb b o hb q) f0 f1 f3 f4 f5⟩
  self := fun A i s Q E st h => let ⟨⟨_, he⟩, _⟩ := st; wpAny_pyIter_enum he h
def iEnumT (K : PySem.W.Frag) (ta : TA) : TI := fun σ H R => ta σ H fun vs H1 => ∃ a xs, vs = [.ref a] ∧ SqT K H1 a xs ∧ R (IteT K a) H1
theorem pi_enumT {X : Cx} {e : Expr} {ta : TA} {p pos tpos : Pos} {elts : List Expr} {kk : Nat} (hg : Gl X "enumerate") (hm : X.mg "enumerate" = none) (ha : PA X [e] ta) (hs : starEach [e] X.env = [(false, eval e X.env)] := by rfl) : PI X (.Tuple elts kk tpos) (.Call (.Name "enumerate" p) [e] [] pos) (iEnumT X.K ta) := by
  refine ⟨fun pins s σ H R I h => ?_⟩
  refine Call_ (ld_blt I hg hm boot_enumerate (PyProof.Rows.callWith_type1 (thn (ha.run pos pins s σ H _ I h) fun us s1 ⟨vs, H1, I1, r1, q1⟩ => ?_) hs rfl))
  obtain ⟨a, xs, ex, hq, q⟩ := q1
  subst ex
  cases r1 with
  | cons r rr =>
    cases rr
    cases r
    obtain ⟨its, rv, pt, hz⟩ := I1.tuple hq
    refine enum1_begins (begins_tuple a its.toArray) (show s1.heap.IsTuple a its.toArray from pt) fun h' he hit hk => wpAny_pyIter_enum he ?_
    have I2 : Inv X pins σ H1 { s1 with heap := h' } := I1.kept (t' := s1.toks) hk
    refine ⟨s1.heap.objs.size + 1, [s1.heap.objs.size + 1, s1.heap.objs.size], _, _, H1, rfl, I2, turn_enumT a (s1.heap.objs.size + 1) s1.heap.objs.size, ⟨⟨.none, he⟩, ⟨_, hit, rfl, rfl⟩, Nat.succ_ne_self _⟩, fun b hb => ?_, q⟩
    have le : s1.heap.objs.size ≤ b := by
      rcases List.mem_cons.mp hb with z | z
      · rw [z]; exact Nat.le_add_right _ _
      · rw [List.mem_singleton.mp z]; exact Nat.le_refl _
    exact I1.fpOk le (I1.hok.fresh le)
section
variable {X : Cx} {σ : L2.St} {H H' : Hp} {e : Expr} {pos p : Pos} {D : Ends} {sts body : List Stmt} {P : VPd}
theorem vi_enumT {n : Nat} {Y : Nat → VPd} {elts : List Expr} {kk : Nat} {tpos : Pos} (m : ∀ i, Mono (Y i)) (hm : X.mg "enumerate" = none) (h : VP X σ H e (TupP X.K n Y)) (hg : Gl X "enumerate" := by rfl) (hs : starEach [e] X.env = [(false, eval e X.env)] := by rfl) :
    VI X σ H (.Tuple elts kk tpos) (.Call (.Name "enumerate" p) [e] [] pos) n fun i v H' => ∃ T x, v = .ref T ∧ H' T = some (.tup [.int (i : Nat), x]) ∧ Y i x H' := fun H1 e1 R q =>
  toI (pi_enumT hg hm (pa_cons we_pe pa_nil hs) hs) (h H1 e1 _ fun v H2 e2 p2 => by
    obtain ⟨a, xs, rfl, hx, hl, hY⟩ := p2
    refine ⟨a, xs, rfl, hx, q _ H2 e2 ⟨fun i H' hi e' => ?_, fun H' e' => ⟨xs, ex_t e' hx, Nat.le_of_eq hl⟩, fun i H' x H'' hi e' y => ?_⟩⟩
    · obtain ⟨x, ex⟩ := get_at hl hi
      exact ⟨xs, x, ex_t e' hx, ex⟩
    · obtain ⟨T, w, rfl, hT, rfl, y⟩ := y
      exact ⟨Ex.new hT, T, w, rfl, upd_same, m i _ _ _ (e'.trans (Ex.new hT)) (hY i w (y xs (ex_t e' hx)))⟩)
/-- for (..) in enumerate(t), t a tuple -/
theorem wb_forET {elts : List Expr} {kk : Nat} {tpos : Pos} (hm : X.mg "enumerate" = none) (h : VP X σ H e P) (k : ∀ v H1, Ex H H1 → P v H1 → ∃ (l : Addr) (xs : List V) (Pv : Nat → L2.St → Hp → Prop), v = .ref l ∧ SqT X.K H1 l xs ∧ Pv 0 σ H1 ∧ (∀ i σ' H', i ≤ xs.length → Pv i σ' H' → SqT X.K H' l xs) ∧
      (∀ i x σ' H' t, xs[i]? = some x → Pv i σ' H' → H' t = none → WG X (.Tuple elts kk tpos) (.ref t) σ' (upd H' t (.tup [.int (i : Nat), x])) fun σ2 H2 => WB X body (Lp X D sts (Pv (i + 1))) σ2 H2) ∧ ∀ σ' H', Pv xs.length σ' H' → WB X sts D σ' H')
    (hp : PassesOwn (model X.prog X.w) X.A X.env X.xe := by exact PassesOwn.never) (hc : X.calm = true := by rfl) (hg : Gl X "enumerate" := by rfl) (hst : starEach [e] X.env = [(false, eval e X.env)] := by rfl)
    (hf : ∀ x, foldedSetIterable (.Call (.Name "enumerate" p) [e] [] pos) X.env x = pure x := by intro _; rfl) {pos2 : Pos} : WB X (.For (.Tuple elts kk tpos) (.Call (.Name "enumerate" p) [e] [] pos) body [] pos2 :: sts) D σ H :=
  wb_cons (toS (ps_for hp hc (pi_enumT hg hm (pa_cons we_pe pa_nil hst) hst) wg_pg wb_pss hf) (h H (Ex.refl H) _ fun v H1 e1 p1 => by
    obtain ⟨l, xs, Pv, rfl, hx, h0, hl, hs, hd⟩ := k v H1 e1 p1
    refine ⟨l, xs, rfl, hx, fun i m σ' H' => m = xs.length - i ∧ i ≤ xs.length ∧ Pv i σ' H', ⟨xs.length, by simp, Nat.zero_le _, h0⟩, ?_⟩
    rintro i m σ' H' ⟨rfl, hi, pv⟩
    have q := hl i σ' H' hi pv
    by_cases hlt : i < xs.length
    · refine .inr ⟨⟨xs, xs[i], q, List.getElem?_eq_getElem hlt⟩, Pv (i + 1), fun σ2 H2 p2 => ⟨xs.length - (i + 1), by omega, rfl, hlt, p2⟩, fun x H2 y => ?_⟩
      obtain ⟨t, z, rfl, ht, rfl, y⟩ := y
      exact hs i z σ' H' t (y xs q) pv ht
    · have e : i = xs.length := by omega
      subst e
      exact .inl ⟨⟨xs, q, Nat.le_refl _⟩, hd σ' H' pv⟩))
end
end Vw
end
section
/-! sorted(a list of alike tuples). -/
namespace Vw
open PySem PySem.Spec PyProof.Rows L2 Evl
open PySem.W (AllAlike Sortable EachIs dataLe sorted_data)
theorem bs_of {H : Hp} : ∀ {xs : List V} {us : List Value} {ds : List PyData}, Vals xs us → TpAll H xs ds → ∃ bs : List (Value × V × PyData), bs.map (·.1) = us ∧ bs.map (·.2.1) = xs ∧ bs.map (·.2.2) = ds ∧ ∀ b ∈ bs, RelV b.2.1 b.1 ∧ Tp H b.2.1 b.2.2
  | _, _, _, .nil, .nil => ⟨[], rfl, rfl, rfl, fun _ h => nomatch h⟩
  | _, _, _, .cons (a := x) (b := u) r rs, .cons (d := d) t ts => by
    obtain ⟨bs, h1, h2, h3, h4⟩ := bs_of rs ts
    refine ⟨(u, x, d) :: bs, by rw [List.map_cons, h1], by rw [List.map_cons, h2], by rw [List.map_cons, h3], fun b hb => ?_⟩
    rcases List.mem_cons.mp hb with rfl | hb
    · exact ⟨r, t⟩
    · exact h4 b hb
theorem bs_vals : ∀ {bs : List (Value × V × PyData)}, (∀ b ∈ bs, RelV b.2.1 b.1) → Vals (bs.map (·.2.1)) (bs.map (·.1))
  | [], _ => .nil
  | b :: bs, h => .cons (h b List.mem_cons_self) (bs_vals fun c hc => h c (List.mem_cons_of_mem _ hc))
theorem bs_tp {H : Hp} : ∀ {bs : List (Value × V × PyData)}, (∀ b ∈ bs, Tp H b.2.1 b.2.2) → TpAll H (bs.map (·.2.1)) (bs.map (·.2.2))
  | [], _ => .nil
  | b :: bs, h => .cons (h b List.mem_cons_self) (bs_tp fun c hc => h c (List.mem_cons_of_mem _ hc))
theorem each_self {β : Type} {R : Value → β → Prop} {f : β → Value} : ∀ {bs : List β}, (∀ b ∈ bs, R (f b) b) → EachIs R (bs.map f) bs
  | [], _ => .nil
  | b :: bs, h => .cons (h b List.mem_cons_self) (each_self fun c hc => h c (List.mem_cons_of_mem _ hc))
theorem each_eq {β : Type} {f : β → Value} : ∀ {us : List Value} {bs : List β}, EachIs (fun v b => v = f b) us bs → us = bs.map f
  | _, _, .nil => rfl
  | _, _, .cons r t => by rw [List.map_cons, r, each_eq t]
/-- sorted(xs): the same items in some order -/
def rSortedTp (K : PySem.W.Frag) : List V → Hp → VK → Prop := fun vs H Q => ∃ a xs ds, vs = [V.ref a] ∧ SqL K H a xs ∧ TpAll H xs ds ∧ AllAlike ds ∧ Sortable ds ∧ (∀ d ∈ ds, d.depth ≤ 10) ∧ ∀ ys es p, ys.Perm xs → TpAll H ys es → es.Perm ds → H p = none → Q (.ref p) (upd H p (.lst ys))
theorem cr_sortedTp {X : Cx} (hu : X.A.units + 64 < cLine) : CallR X (.builtin "sorted") (rSortedTp X.K) := by
  intro pins s σ H vs us Q I r h
  obtain ⟨a, xs, ds, rfl, hs, tx, al, so, dp, q⟩ := h
  obtain ⟨its, rv, hl, hz⟩ := I.list hs
  obtain ⟨u, rfl, ru⟩ := vals1 r
  obtain rfl : u = Value.ref a := ru
  obtain ⟨bs, h1, h2, h3, h4⟩ := bs_of rv tx
  have e1 : EachIs (fun (v : Value) (b : Value × V × PyData) => v = b.1) its bs := by
    rw [← h1]
    exact each_self fun b _ => rfl
  have e2 : EachIs (fun (v : Value) (b : Value × V × PyData) => ∃ as, Reads s.heap v b.2.2 as) its bs := by
    rw [← h1]
    exact each_self fun b hb => Dp.reads I _ _ _ (h4 b hb).2.dp (h4 b hb).1
  have lb : bs.length = its.length := by rw [← h1, List.length_map]
  refine sorted_data (enc := fun b : Value × V × PyData => b.2.2) hl.isList e1 e2 (by rw [h3]; exact al) (by rw [h3]; exact so) (by rw [lb, ← rv.length]; exact hz) (fun b hb => ?_) fun out hlo eo => ?_
  · have : b.2.2.depth ≤ 10 := dp _ (by rw [← h3]; exact List.mem_map.mpr ⟨b, hb, rfl⟩)
    omega
  · have pm : (bs.mergeSort (dataLe false fun b : Value × V × PyData => b.2.2)).Perm bs := List.mergeSort_perm _ _
    generalize bs.mergeSort (dataLe false fun b : Value × V × PyData => b.2.2) = cs at eo pm
    have eout := each_eq eo
    have hc : ∀ b ∈ cs, RelV b.2.1 b.1 ∧ Tp H b.2.1 b.2.2 := fun b hb => h4 b (pm.mem_iff.mp hb)
    obtain ⟨c, hat⟩ := sortedAll_at s.heap its (List.toArray out)
    have py : (cs.map (·.2.1)).Perm xs := by rw [← h2]; exact pm.map _
    have lo : s.heap.objs.size ≤ s.heap.objs.size + 1 := Nat.le_succ _
    refine ⟨.ref (s.heap.objs.size + 1), upd H (s.heap.objs.size + 1) (.lst (cs.map (·.2.1))), I.laid (t' := s.toks) (fun _ _ => sortedAll_old) lo ⟨?_, out, c, ?_, hat⟩, rfl, q _ (cs.map (·.2.2)) _ py (bs_tp fun b hb => (hc b hb).2) (by rw [← h3]; exact pm.map _) (I.hok.fresh lo)⟩
    · rw [py.length_eq]
      exact hz
    · rw [eout]
      exact bs_vals fun b hb => (hc b hb).1
end Vw
end
section
/-! distances: numbered_refs. -/
namespace Vw
open PySem PySem.Spec PyProof.Rows L2 Evl
abbrev NR := Nat × Int × Int
def nrD (z : Str) (r : NR) : PyData := .tuple [.int (r.1 : Int), .int r.2.1, refD z r.2.2]
theorem tp_nr {H : Hp} {v : V} {z : Str} {r : NR} (h : Tp H v (nrD z r)) : ∃ p q, v = .ref p ∧ H p = some (.tup [.int (r.1 : Int), .int r.2.1, .ref q]) ∧ H q = some (.tup [.str z, .int r.2.2]) := by
  unfold nrD at h
  cases h with
  | @tup a xs _ e t =>
    cases t with
    | cons h1 t =>
      cases t with
      | cons h2 t =>
        cases t with
        | cons h3 t =>
          cases t
          cases h1
          cases h2
          obtain ⟨q, rfl, hq⟩ := tp_ref h3
          exact ⟨a, q, rfl, e, hq⟩
def tgtN (L : LoopD) (n : Nat) : List NR := match L.tgtAt n with
  | none => []
  | some o => [(n, -1, o)]
def srcN (L : LoopD) (n : Nat) : List NR := (List.range (L.srcsAt n).length).map fun (s : Nat) => (n, Int.ofNat s, (L.srcsAt n).getD s 0)
def refsN (L : LoopD) (n : Nat) : List NR := tgtN L n ++ srcN L n
def nrefsP (L : LoopD) : List NR := (List.range L.ss.length).flatMap (refsN L)
theorem refsN_len (L : LoopD) (ok : LoopOk L) (n : Nat) : (refsN L n).length ≤ 4 := by
  unfold refsN tgtN srcN
  rw [List.length_append, List.length_map, List.length_range]
  have h1 : (L.srcsAt n).length ≤ 3 := by
    unfold LoopD.srcsAt
    cases h : L.ss[n]? with
    | none => simp
    | some s => exact (ok.ok s (List.mem_of_getElem? h)).few
  have h2 : (match L.tgtAt n with
    | none => ([] : List NR)
    | some o => [(n, -1, o)]).length ≤ 1 := by cases L.tgtAt n <;> simp
  omega
def nrefsTo (L : LoopD) (i : Nat) : List NR := (List.range i).flatMap (refsN L)
theorem nrefsTo_succ (L : LoopD) (i : Nat) : nrefsTo L (i + 1) = nrefsTo L i ++ tgtN L i ++ srcN L i := by
  unfold nrefsTo
  rw [List.range_succ, List.flatMap_append, List.flatMap_cons, List.flatMap_nil, List.append_nil, List.append_assoc]
  rfl
theorem nrefsTo_len (L : LoopD) (ok : LoopOk L) : ∀ i, (nrefsTo L i).length ≤ 4 * i
  | 0 => by simp [nrefsTo]
  | i + 1 => by
    rw [nrefsTo_succ, List.append_assoc, List.length_append]
    have := nrefsTo_len L ok i
    have h := refsN_len L ok i
    unfold refsN at h
    omega
def NrA (z : Str) (av : Addr) (rs : List NR) : VPd := fun v H' => ∃ q xs, v = .ref q ∧ q ≠ av ∧ H' q = some (.lst xs) ∧ TpAll H' xs (rs.map (nrD z))
section
variable {P : Program} {w : World} {K : PySem.W.Frag} {mg : Str → Option Value} {base : Heap} {CL CS CO CV CW : Addr}
abbrev spNrefs (CL CS CO : Addr) : Sp := PuSp (fun (g : Addr × LoopD × Addr) vs H => vs = [.ref g.1] ∧ LoopAt CL CS CO H g.1 g.2.1 ∧ LoopOk g.2.1 ∧ H g.2.2 ≠ none) fun g => NrA g.2.1.z g.2.2 (nrefsP g.2.1)
theorem ok_numbered_refs {f : Addr} {fd : FuncData} (F : Fd K "numbered_refs" "numbered_refs" s_numbered_refs [] [] f fd) (T : Txt K mg CL CS CO CV CW) (g1 : HasG P w K mg base CO "statements" 1 (spGetV CO "kept_statements")) (g2 : HasG P w K mg base CS "target" 1 (spGetV CS "kept_target")) (g3 : HasG P w K mg base CS "sources" 1 (spGetV CS "kept_sources")) :
    FnOk P w K mg base CX0 3 f fd ["loop"] (spNrefs CL CS CO) := by
  refine F.ok sc_numbered_refs (fun vs H Q E h => ?_) (fun cdv A outer s H vs Q E hr h => ?_)
  · obtain ⟨g, ⟨rfl, _⟩, _⟩ := h
    rfl
  · obtain ⟨⟨oa, L, av⟩, ⟨rfl, hL, ok, hav⟩, k⟩ := h
    dsimp only at hL ok hav k
    obtain ⟨dx, ql, qs, d, la, sa, ha, hin⟩ := id hL
    have h5 := ok.l5
    have lsa : (sa.map V.ref).length = L.ss.length := by rw [List.length_map, hin.sa.len]
    refine wb_set 1 sc_numbered_refs.nd (v_lst va_nil (by simp)) fun v H1 e1 p1 => ?_
    obtain ⟨f, rfl, hf0, hf⟩ := p1
    refine wb_forET T.enumerate (P := fun v _ => v = .ref qs) (vp_prop g1 T.cO hr (v_nm (v := .ref oa) 0 rfl) (e1 _ _ ha) (oa, dx, _, .ref qs) (fun H3 e3 => ⟨rfl, e3 _ _ (e1 _ _ ha), fsO_stms _ _ _⟩) (fun _ _ _ q => q)) fun v H2 e2 p2 => ⟨qs, sa.map V.ref, fun i σ' H' => Ex H H' ∧ (∃ xs, H' f = some (.lst xs) ∧ TpAll H' xs ((nrefsTo L i).map (nrD L.z))) ∧ ∃ o2 o3, σ' = [some (.ref oa), some (.ref f), o2, o3, none, none],
      p2, SqT.of ((e1.trans e2) _ _ hin.sn), ⟨e1.trans e2, ⟨[], e2 _ _ hf, .nil⟩, none, none, rfl⟩, fun i σ' H' _ r => SqT.of (r.1 _ _ hin.sn), fun i x σ' H' t hx r ht => ?_, fun σ' H' r => ?_⟩
    · obtain ⟨eH, ⟨xs, hxs, tx⟩, o2, o3, rfl⟩ := r
      rw [List.getElem?_map] at hx
      obtain ⟨sn, hs, rfl⟩ := Option.map_eq_some_iff.mp hx
      obtain ⟨st, hst, dS, vt, vs, hsn, t1, t2⟩ := paired_get hin.sa hs
      obtain ⟨qv, ys, rfl, hqv, ty⟩ := tp_tup t2
      have hi : i < L.ss.length := (List.getElem?_eq_some_iff.mp hst).1
      have etg : L.tgtAt i = st.tgt := by unfold LoopD.tgtAt; rw [hst]; rfl
      have esr : L.srcsAt i = st.srcs := by unfold LoopD.srcsAt; rw [hst]; rfl
      have few := (ok.ok st (List.mem_of_getElem? hst)).few
      have ly : ys.length = (L.srcsAt i).length := by rw [ty.length, List.length_map, esr]
      have bnd : xs.length ≤ 100 := by
        rw [tx.length, List.length_map]
        have := nrefsTo_len L ok i
        omega
      have ntf : f ≠ t := fun e => by rw [← e, hxs] at ht; cases ht
      have E2 : Ex H (upd H' t (.tup [.int (i : Nat), .ref sn])) := eH.trans (Ex.new ht)
      have F2 : (upd H' t (.tup [.int (i : Nat), .ref sn])) f = some (.lst xs) := by rw [upd_ne ntf]; exact hxs
      have X2 : TpAll (upd H' t (.tup [.int (i : Nat), .ref sn])) xs ((nrefsTo L i).map (nrD L.z)) := tx.ex (Ex.new ht)
      refine wg_two 2 3 sc_numbered_refs.nd (SqT.of upd_same) ?_
      generalize upd H' t (.tup [.int (i : Nat), .ref sn]) = H2 at E2 F2 X2 ⊢
      -- the sources, behind the target
      have srcs : ∀ (H3 : Hp) (zs : List V), Ex H H3 → H3 f = some (.lst zs) → TpAll H3 zs ((nrefsTo L i ++ tgtN L i).map (nrD L.z)) → zs.length ≤ 101 →
          ∀ {v H4}, Ex H3 H4 → (∃ q ws, v = V.ref q ∧ H4 q = some (.lst ws) ∧ TpAll H4 ws ((srcN L i).map (nrD L.z))) → ∃ b ws, v = V.ref b ∧ H4 b = some (.lst ws) ∧ zs.length + ws.length ≤ 100000 ∧
            (Ex H (upd H4 f (.lst (zs ++ ws))) ∧ (∃ xs, (upd H4 f (.lst (zs ++ ws))) f = some (.lst xs) ∧ TpAll (upd H4 f (.lst (zs ++ ws))) xs ((nrefsTo L (i + 1)).map (nrD L.z)))) := fun H3 zs E3 F3 Z3 lz v H4 e4 p4 => by
        obtain ⟨q, ws, rfl, hq, tw⟩ := p4
        have lw : ws.length ≤ 3 := by
          rw [tw.length, List.length_map]
          unfold srcN
          rw [List.length_map, List.length_range, esr]
          exact few
        refine ⟨q, ws, rfl, hq, by omega, (E3.trans e4).mut hf0, _, upd_same, ?_⟩
        rw [nrefsTo_succ, List.map_append]
        exact ((Z3.ex e4).append tw).kt (kt_lst (e4 _ _ F3))
      have comp : ∀ (H3 : Hp), Ex H H3 → ∀ (H4 : Hp), Ex H3 H4 → ∀ j x, ys[j]? = some x → ∃ o, (L.srcsAt i)[j]? = some o ∧ Tp H4 x (refD L.z o) := fun H3 E3 H4 e4 j x hj => by
        obtain ⟨dd, hdd, tt⟩ := tpAll_get ty hj
        rw [List.getElem?_map] at hdd
        obtain ⟨o, ho, rfl⟩ := Option.map_eq_some_iff.mp hdd
        exact ⟨o, by rw [esr]; exact ho, tt.ex (E3.trans e4)⟩
      have outs : ∀ {H3 H4 : Hp} {v : V}, NewL H3 (fun _ => true) (fun j v H' => Tp H' v (nrD L.z (i, Int.ofNat j, (L.srcsAt i).getD j 0))) (L.srcsAt i).length v H4 → ∃ q ws, v = V.ref q ∧ H4 q = some (.lst ws) ∧ TpAll H4 ws ((srcN L i).map (nrD L.z)) := fun {H3 H4 v} h => by
        obtain ⟨q, ws, h1, _, h3, ho⟩ := h
        refine ⟨q, ws, h1, h3, ?_⟩
        have z := outs_tp (d := fun j => nrD L.z (i, Int.ofNat j, (L.srcsAt i).getD j 0)) ho
        rw [List.filter_eq_self.mpr (fun _ _ => rfl)] at z
        unfold srcN
        rw [List.map_map]
        exact z
      refine wb_if (t_notN (x := vt) (vp_prop g2 T.cS hr (v_nm (v := .ref sn) 3 rfl) (E2 _ _ hsn) (sn, dS, _, vt) (fun H3 e3 => ⟨rfl, e3 _ _ (E2 _ _ hsn), fsS_target _ _ _⟩) (fun _ _ _ q => q))) (fun hb H3 e3 => ?_) (fun hb H3 e3 => ?_)
      · have tt : ∃ o, st.tgt = some o := by
          cases hh : st.tgt with
          | none =>
            rw [hh] at t1
            cases t1
            simp at hb
          | some o => exact ⟨o, rfl⟩
        obtain ⟨o, ho⟩ := tt
        rw [ho] at t1
        have E3 := E2.trans e3
        refine wb_app (xs := xs) (e3 _ _ F2) (v_nm (v := .ref f) 1 rfl) (P := fun v H' => Tp H' v (nrD L.z (i, -1, o))) (vt_tup (vta_cons (vt_of (v_nm (v := .int (i : Int)) 2 rfl) (.int _)) (vta_cons (vt_of (v_neg v_int) (.int _)) (vta_cons (vt_of (vp_prop g2 T.cS hr (v_nm (v := .ref sn) 3 rfl) (E3 _ _ hsn) (sn, dS, _, vt) (fun H4 e4 => ⟨rfl, e4 _ _ (E3 _ _ hsn), fsS_target _ _ _⟩) (fun _ _ _ q => q)) (t1.ex E3)) vta_nil))) (by simp)) (by omega) fun v H4 e4 p4 => wb_nil ?_
        have E4 : Ex H (upd H4 f (.lst (xs ++ [v]))) := (E3.trans e4).mut hf0
        have F4 : (upd H4 f (.lst (xs ++ [v]))) f = some (.lst (xs ++ [v])) := upd_same
        have X4 : TpAll (upd H4 f (.lst (xs ++ [v]))) (xs ++ [v]) ((nrefsTo L i ++ tgtN L i).map (nrD L.z)) := by
          rw [List.map_append]
          refine ((X2.ex (e3.trans e4)).append ?_).kt (kt_lst (e4 _ _ (e3 _ _ F2)))
          unfold tgtN
          rw [etg, ho]
          exact .cons p4 .nil
        generalize upd H4 f (.lst (xs ++ [v])) = H5 at E4 F4 X4 ⊢
        refine wb_ext (xs := xs ++ [v]) F4 (v_nm (v := .ref f) 1 rfl) (vp_lc (P0 := fun j v H' => Tp H' v (nrD L.z (i, Int.ofNat j, (L.srcsAt i).getD j 0))) (keep := fun _ => true) [("at", 4), ("source", 5)] sc_numbered_refs.nd (blkOk_by (N := n_numbered_refs) (sc := defScope s_numbered_refs) (by decide +kernel)) (fun i => imm_tp)
          (vi_enumT (n := (L.srcsAt i).length) (Y := fun j v H' => ∃ o, (L.srcsAt i)[j]? = some o ∧ Tp H' v (refD L.z o)) (fun j v H1 H2 e ⟨o, q1, q2⟩ => ⟨o, q1, q2.ex e⟩) T.enumerate ((vp_prop (P := fun v _ => v = .ref qv) g3 T.cS hr (v_nm (v := .ref sn) 3 rfl) (E4 _ _ hsn) (sn, dS, _, .ref qv) (fun H6 e6 => ⟨rfl, e6 _ _ (E4 _ _ hsn), fsS_sources _ _ _⟩) (fun _ _ _ q => q)).imp fun v H6 e6 q => ⟨qv, ys, q, SqT.of ((E4.trans e6) _ _ hqv), ly, comp _ E4 _ e6⟩)) (by rw [esr]; omega) fun j x H6 hj e6 hx => ?_) fun v H6 e6 p6 => ?_
        · obtain ⟨T0, y, rfl, hT0, o, ho, ty0⟩ := hx
          obtain ⟨pp, rfl, hpp⟩ := tp_ref ty0
          refine turn_two 4 5 rfl sc_numbered_refs.nd rfl rfl (SqT.of hT0) rfl rfl rfl (fun s H0 C cl fp => ts_nil) fun _ s H0 C cl fp => ?_
          refine vt_tup (vta_cons (vt_of (v_nm (v := .int (i : Int)) 2 rfl) (.int _)) (vta_cons (vt_of (v_nm (v := .int (j : Int)) 4 rfl) (.int _)) (vta_cons (vt_of (v_nm (v := .ref pp) 5 rfl) ?_) vta_nil))) (by simp)
          rw [List.getD_eq_getElem?_getD, ho]
          exact ty0
        · obtain ⟨b, ws, q1, q2, q3, q4, q5⟩ := srcs H5 _ E4 F4 X4 (by rw [List.length_append]; simp; omega) e6 (outs p6)
          exact ⟨b, ws, q1, q2, q3, wb_nil ⟨q4, q5, _, _, rfl⟩⟩
      · have tt : st.tgt = none := by
          cases hh : st.tgt with
          | none => rfl
          | some o =>
            rw [hh] at t1
            obtain ⟨p, rfl, _⟩ := tp_ref t1
            simp at hb
        refine wb_nil ?_
        have E4 := E2.trans e3
        have X4 : TpAll H3 xs ((nrefsTo L i ++ tgtN L i).map (nrD L.z)) := by
          unfold tgtN
          rw [etg, tt, List.append_nil]
          exact X2.ex e3
        refine wb_ext (xs := xs) (e3 _ _ F2) (v_nm (v := .ref f) 1 rfl) (vp_lc (P0 := fun j v H' => Tp H' v (nrD L.z (i, Int.ofNat j, (L.srcsAt i).getD j 0))) (keep := fun _ => true) [("at", 4), ("source", 5)] sc_numbered_refs.nd (blkOk_by (N := n_numbered_refs) (sc := defScope s_numbered_refs) (by decide +kernel)) (fun i => imm_tp)
          (vi_enumT (n := (L.srcsAt i).length) (Y := fun j v H' => ∃ o, (L.srcsAt i)[j]? = some o ∧ Tp H' v (refD L.z o)) (fun j v H1 H2 e ⟨o, q1, q2⟩ => ⟨o, q1, q2.ex e⟩) T.enumerate ((vp_prop (P := fun v _ => v = .ref qv) g3 T.cS hr (v_nm (v := .ref sn) 3 rfl) (E4 _ _ hsn) (sn, dS, _, .ref qv) (fun H6 e6 => ⟨rfl, e6 _ _ (E4 _ _ hsn), fsS_sources _ _ _⟩) (fun _ _ _ q => q)).imp fun v H6 e6 q => ⟨qv, ys, q, SqT.of ((E4.trans e6) _ _ hqv), ly, comp _ E4 _ e6⟩)) (by rw [esr]; omega) fun j x H6 hj e6 hx => ?_) fun v H6 e6 p6 => ?_
        · obtain ⟨T0, y, rfl, hT0, o, ho, ty0⟩ := hx
          obtain ⟨pp, rfl, hpp⟩ := tp_ref ty0
          refine turn_two 4 5 rfl sc_numbered_refs.nd rfl rfl (SqT.of hT0) rfl rfl rfl (fun s H0 C cl fp => ts_nil) fun _ s H0 C cl fp => ?_
          refine vt_tup (vta_cons (vt_of (v_nm (v := .int (i : Int)) 2 rfl) (.int _)) (vta_cons (vt_of (v_nm (v := .int (j : Int)) 4 rfl) (.int _)) (vta_cons (vt_of (v_nm (v := .ref pp) 5 rfl) ?_) vta_nil))) (by simp)
          rw [List.getD_eq_getElem?_getD, ho]
          exact ty0
        · obtain ⟨b, ws, q1, q2, q3, q4, q5⟩ := srcs H3 _ E4 (e3 _ _ F2) X4 (by omega) e6 (outs p6)
          exact ⟨b, ws, q1, q2, q3, wb_nil ⟨q4, q5, _, _, rfl⟩⟩
    · obtain ⟨eH, ⟨xs, hxs, tx⟩, o2, o3, rfl⟩ := r
      refine wb_ret (v_nm (v := .ref f) 1 rfl) fun v H3 e3 p3 => k v H3 (eH.trans e3) ⟨f, xs, p3, fun e => hav (e ▸ hf0), e3 _ _ hxs, ?_⟩
      rw [lsa] at tx
      exact tx.ex e3
end
end Vw
end
section
/-! distances: meets, reach. -/
namespace Vw
open PySem PySem.Spec PyProof.Rows L2 Evl
open PySem.W (AllAlike Sortable)
abbrev MT := Nat × Int × Nat × Int × Int
def mtD (m : MT) : PyData := .tuple [.int (m.1 : Int), .int m.2.1, .int (m.2.2.1 : Int), .int m.2.2.2.1, .int m.2.2.2.2]
theorem tp_mt {H : Hp} {v : V} {m : MT} (h : Tp H v (mtD m)) : ∃ p, v = .ref p ∧ H p = some (.tup [.int (m.1 : Int), .int m.2.1, .int (m.2.2.1 : Int), .int m.2.2.2.1, .int m.2.2.2.2]) := by
  unfold mtD at h
  cases h with
  | @tup a xs _ e t =>
    cases t with
    | cons h1 t => cases t with
      | cons h2 t => cases t with
        | cons h3 t => cases t with
          | cons h4 t => cases t with
            | cons h5 t =>
              cases t
              cases h1
              cases h2
              cases h3
              cases h4
              cases h5
              exact ⟨a, rfl, e⟩
def meetP (st : Int) (a b : NR) : List MT := if a.2.1 = -1 ∨ b.2.1 = -1 then (if (a.2.2 - b.2.2) % st = 0 then [(a.1, a.2.1, b.1, b.2.1, (a.2.2 - b.2.2) / st)] else []) else []
def meetsAt (st : Int) (rs : List NR) (i : Nat) : List MT := (rs.drop (i + 1)).flatMap (meetP st (rs.getD i (0, 0, 0)))
def meetsTo (st : Int) (rs : List NR) (i : Nat) : List MT := (List.range i).flatMap (meetsAt st rs)
def meetsP (L : LoopD) : List MT := meetsTo L.st (nrefsP L) (nrefsP L).length
theorem meetP_len (st : Int) (a b : NR) : (meetP st a b).length ≤ 1 := by
  unfold meetP
  split
  · split <;> simp
  · simp
theorem meetsTo_succ (st : Int) (rs : List NR) (i : Nat) : meetsTo st rs (i + 1) = meetsTo st rs i ++ meetsAt st rs i := by
  unfold meetsTo
  rw [List.range_succ, List.flatMap_append, List.flatMap_cons, List.flatMap_nil, List.append_nil]
def reachP (L : LoopD) : Nat := ((meetsP L).map fun m => m.2.2.2.2.natAbs).foldr max 0
/-- a tuple of these values -/
def TupE (xs : List V) : VPd := fun v H' => ∃ q, v = .ref q ∧ H' q = some (.tup xs)
theorem mono_tupE {xs : List V} : Mono (TupE xs) := fun _ _ _ e ⟨q, a, b⟩ => ⟨q, a, e _ _ b⟩
section
variable {X : Cx} {σ : L2.St} {H H' : Hp} {a b e : Expr} {pos p : Pos} {x : V}
theorem vp_catT {xs ys : List V} (ha : VP X σ H a (TupE xs)) (hb : VP X σ H b (TupE ys)) (hx : xs ≠ []) (hy : ys ≠ []) (hz : xs.length + ys.length ≤ 1000) : VP X σ H (.BinOp a .Add b pos) (TupE (xs ++ ys)) :=
  vp_op op_catT ha (fun x H1 e1 _ => hb.mono e1) fun x H1 y H2 e1 p1 e2 p2 Q k => by
    obtain ⟨q1, rfl, h1⟩ := p1
    obtain ⟨q2, rfl, h2⟩ := p2
    exact ⟨q1, q2, xs, ys, rfl, rfl, SqT.of (e2 _ _ h1), SqT.of h2, hx, sz_of (by omega), fun z => absurd z hy, fun _ p hp => k _ _ (Ex.new hp) ⟨p, rfl, upd_same⟩⟩
/-- x in (.., ..) -/
theorem t_inT {xs : List V} (ha : VE X σ H a x) (hb : VP X σ H b (TupE xs)) (fx : flatV x = true) (fs : xs.all flatV = true) (hm : behindInMarks .In b = false := by rfl) : VT X σ H (.Compare a [.In] [b] pos) (inV x xs) :=
  tp_cmp op_in_seq ha (fun x1 H1 e1 p1 => (hb.mono e1)) (fun x1 H1 y H2 e1 p1 e2 p2 Q k => by
    subst p1
    obtain ⟨q, rfl, hq⟩ := p2
    exact ⟨q, xs, rfl, .inr (SqT.of hq), fx, fs, k _ H2 (Ex.refl _) rfl⟩) hm
end
theorem inV_two (i j k : Int) : inV (.int i) [.int j, .int k] = decide (j = i ∨ k = i) := by
  unfold inV
  rw [Bool.eq_iff_iff, List.any_eq_true, decide_eq_true_eq]
  constructor
  · rintro ⟨x, hx, e⟩
    rcases List.mem_cons.mp hx with rfl | hx
    · exact .inl (of_decide_eq_true e)
    · rw [List.mem_singleton.mp hx] at e
      exact .inr (of_decide_eq_true e)
  · rintro (e | e)
    · exact ⟨.int j, by simp, decide_eq_true e⟩
    · exact ⟨.int k, by simp, decide_eq_true e⟩
theorem nrefs_off (L : LoopD) (ok : LoopOk L) : ∀ r ∈ nrefsP L, OffOk r.2.2 := by
  intro r hr
  unfold nrefsP at hr
  obtain ⟨n, hn, hr⟩ := List.mem_flatMap.mp hr
  have hn' := List.mem_range.mp hn
  have okn := ok.ok _ (List.getElem_mem hn')
  unfold refsN tgtN srcN LoopD.tgtAt LoopD.srcsAt at hr
  rw [List.getElem?_eq_getElem hn'] at hr
  rcases List.mem_append.mp hr with hr | hr
  · simp only [Option.bind_some] at hr
    cases h : (L.ss[n]).tgt with
    | none => rw [h] at hr; cases hr
    | some o =>
      rw [h] at hr
      rw [List.mem_singleton.mp hr]
      exact okn.tgt o h
  · obtain ⟨s, hs, rfl⟩ := List.mem_map.mp hr
    have hs' := List.mem_range.mp hs
    simp only [Option.map_some, Option.getD_some] at hs' ⊢
    rw [List.getD_eq_getElem?_getD, List.getElem?_eq_getElem hs']
    exact okn.srcs _ (List.getElem_mem hs')
section
variable {P : Program} {w : World} {K : PySem.W.Frag} {mg : Str → Option Value} {base : Heap} {CL CS CO CV CW : Addr}
def MtL (ms : List MT) : VPd := fun v H' => ∃ q xs es, v = .ref q ∧ H' q = some (.lst xs) ∧ TpAll H' xs es ∧ es.Perm (ms.map mtD)
abbrev spMeets (CL CS CO : Addr) : Sp := PuSp (fun (g : Addr × LoopD) vs H => vs = [.ref g.1] ∧ LoopAt CL CS CO H g.1 g.2 ∧ LoopOk g.2) fun g => MtL (meetsP g.2)
theorem ok_meets {f : Addr} {fd : FuncData} (F : Fd K "meets" "meets" s_meets [] [] f fd) (T : Txt K mg CL CS CO CV CW) (h1 : Has P w K mg base "numbered_refs" 3 ["loop"] (spNrefs CL CS CO)) (m1 : HasM P w K mg base CO "line" 3 ["self", "name"] (spLoopLine CL CS CO)) (m2 : HasM P w K mg base CL "distance" 4 ["self", "first", "second"] (spDistance CL)) :
    FnOk P w K mg base CX0 5 f fd ["loop"] (spMeets CL CS CO) := by
  refine F.ok sc_meets (fun vs H Q E h => ?_) (fun cdv A outer s H vs Q E hr h => ?_)
  · obtain ⟨g, ⟨rfl, _⟩, _⟩ := h
    rfl
  · obtain ⟨⟨oa, L⟩, ⟨rfl, hL, ok⟩, k⟩ := h
    dsimp only at hL ok k
    obtain ⟨dx, ql, qs, d, la, sa, ha, hin⟩ := id hL
    obtain ⟨dl, hla⟩ := id hin.la
    have h5 := ok.l5
    have hs1 := ok.s1
    have hs6 := ok.s6
    have hN : (nrefsP L).length ≤ 20 := by
      have := nrefsTo_len L ok L.ss.length
      unfold nrefsTo at this
      unfold nrefsP
      omega
    have hoff := nrefs_off L ok
    refine wb_set 1 sc_meets.nd (v_lst va_nil (by simp)) fun v H1 e1 p1 => ?_
    obtain ⟨f, rfl, hf0, hf⟩ := p1
    refine wb_set 2 sc_meets.nd (vp_call h1 (hr.mono (by decide)) (oa, L, f) (va_cons (v_nm (v := .ref oa) 0 rfl) va_nil) (fun vs H2 e2 q => ⟨q, hL.ex (e1.trans e2), ok, by rw [e2 _ _ hf]; intro z; cases z⟩) (fun _ _ _ q => q)) fun v H2 e2 p2 => ?_
    obtain ⟨rl, rx, rfl, nrf, hrl, tr⟩ := p2
    have lrx : rx.length = (nrefsP L).length := by rw [tr.length, List.length_map]
    have hf2 := e2 _ _ hf
    have e12 := e1.trans e2
    refine wb_forE T.enumerate (v_nm (v := .ref rl) 2 rfl) fun v H3 e3 p3 => ⟨rl, rx, fun i σ' H' => (Ex H H' ∧ H' rl = some (.lst rx) ∧ TpAll H' rx ((nrefsP L).map (nrD L.z))) ∧ (∃ xs, H' f = some (.lst xs) ∧ TpAll H' xs ((meetsTo L.st (nrefsP L) i).map mtD)) ∧ ((meetsTo L.st (nrefsP L) i).length ≤ 20 * i) ∧ ∃ o3 o4 o5 o6, σ' = [some (.ref oa), some (.ref f), some (.ref rl), o3, o4, o5, o6],
      p3, sq_of (e3 _ _ hrl), ⟨⟨e12.trans e3, e3 _ _ hrl, tr.ex e3⟩, ⟨[], e3 _ _ hf2, .nil⟩, by simp [meetsTo], none, none, none, none, rfl⟩, fun i σ' H' _ r => sq_of r.1.2.1, fun i x σ' H' t hx r ht => ?_, fun σ' H' r => ?_⟩
    · obtain ⟨⟨eH, hrl', tr'⟩, ⟨xs, hxs, tx⟩, lm, o3, o4, o5, o6, rfl⟩ := r
      obtain ⟨dd, hdd, tone⟩ := tpAll_get tr' hx
      rw [List.getElem?_map] at hdd
      obtain ⟨one, hone, rfl⟩ := Option.map_eq_some_iff.mp hdd
      have hi : i < (nrefsP L).length := (List.getElem?_eq_some_iff.mp hone).1
      have eone : (nrefsP L).getD i (0, 0, 0) = one := by rw [List.getD_eq_getElem?_getD, hone]; rfl
      obtain ⟨p1, q1, rfl, hp1, hq1⟩ := tp_nr tone
      have ntf : f ≠ t := fun e => by rw [← e, hxs] at ht; cases ht
      have nrt : rl ≠ t := fun e => by rw [← e, hrl'] at ht; cases ht
      have E2 : Ex H (upd H' t (.tup [.int (i : Nat), .ref p1])) := eH.trans (Ex.new ht)
      have F2 : (upd H' t (.tup [.int (i : Nat), .ref p1])) f = some (.lst xs) := by rw [upd_ne ntf]; exact hxs
      have R2 : (upd H' t (.tup [.int (i : Nat), .ref p1])) rl = some (.lst rx) := by rw [upd_ne nrt]; exact hrl'
      have eN : Ex H' (upd H' t (.tup [.int (i : Nat), .ref p1])) := Ex.new ht
      refine wg_two 3 4 sc_meets.nd (SqT.of upd_same) ?_
      generalize upd H' t (.tup [.int (i : Nat), .ref p1]) = H2 at E2 F2 R2 eN ⊢
      refine wb_forL (v_slL (v_nm (v := .ref rl) 2 rfl) (sq_of R2) (vo_some (i := ((i + 1 : Nat) : Int)) (VE.is (v_add (v_nm (v := .int (i : Int)) 3 rfl) v_int) (by rw [Int.natCast_add]; rfl))) vo_none) fun v H3 e3 p3 => ?_
      obtain ⟨sl, rfl, hsl0, hsl⟩ := p3
      rw [cut_from] at hsl
      have nsf : sl ≠ f := fun e => by rw [e, F2] at hsl0; cases hsl0
      refine ⟨sl, rx.drop (i + 1), fun j σ' H' => (Ex H H' ∧ Kt H2 H' ∧ H' rl = some (.lst rx) ∧ H' sl = some (.lst (rx.drop (i + 1)))) ∧ (∃ xs, H' f = some (.lst xs) ∧ TpAll H' xs ((meetsTo L.st (nrefsP L) i ++ (((nrefsP L).drop (i + 1)).take j).flatMap (meetP L.st one)).map mtD)) ∧ ∃ o5 o6, σ' = [some (.ref oa), some (.ref f), some (.ref rl), some (.int (i : Int)), some (.ref p1), o5, o6],
        rfl, sq_of hsl, ⟨⟨E2.trans e3, kt_ex e3, e3 _ _ R2, hsl⟩, ⟨xs, e3 _ _ F2, by rw [List.take_zero, List.flatMap_nil, List.append_nil]; exact (tx.ex eN).ex e3⟩, o5, o6, rfl⟩, fun j σ' H' _ r => sq_of r.1.2.2.2, fun j x σ' H' hx r => ?_, fun σ' H' r => ?_⟩
      · obtain ⟨⟨eH4, kH4, rl4, sl4⟩, ⟨ys, hys, ty⟩, o5', o6', rfl⟩ := r
        have hx2 : rx[i + 1 + j]? = some x := by rw [← hx, List.getElem?_drop]
        obtain ⟨dd, hdd, toth⟩ := tpAll_get ((tr'.ex eN).kt kH4) hx2
        rw [List.getElem?_map] at hdd
        obtain ⟨oth, hoth, rfl⟩ := Option.map_eq_some_iff.mp hdd
        have hoth2 : ((nrefsP L).drop (i + 1))[j]? = some oth := by rw [List.getElem?_drop]; exact hoth
        obtain ⟨p2, q2, rfl, hp2, hq2⟩ := tp_nr toth
        have hp1' := kH4 _ _ (eN _ _ hp1)
        have hq1' := kH4 _ _ (eN _ _ hq1)
        have of1 := hoff one (List.mem_of_getElem? hone)
        have of2 := hoff oth (List.mem_of_getElem? hoth)
        have eflat : (((nrefsP L).drop (i + 1)).take (j + 1)).flatMap (meetP L.st one) = (((nrefsP L).drop (i + 1)).take j).flatMap (meetP L.st one) ++ meetP L.st one oth := by
          rw [take_snoc hoth2, List.flatMap_append, List.flatMap_cons, List.flatMap_nil, List.append_nil]
        have bnd : ys.length ≤ 1000 := by
          rw [ty.length, List.length_map, List.length_append]
          have b1 := flat_len2 (f := meetP L.st one) (k := 1) (((nrefsP L).drop (i + 1)).take j) (fun b _ => meetP_len _ _ _)
          have b2 : (((nrefsP L).drop (i + 1)).take j).length ≤ 20 := by rw [List.length_take, List.length_drop]; omega
          omega
        refine wg_nm 5 sc_meets.nd ?_
        refine wb_if (w_t (w_and (VT.is (t_eq (v_ixT (v := .str L.z) (v_ixT (v := .ref q1) (v_nm (v := .ref p1) 4 rfl) v_int (SqT.of hp1') (by rfl)) v_int (SqT.of hq1') (by rfl)) (v_ixT (v := .str L.z) (v_ixT (v := .ref q2) (v_nm (v := .ref p2) 5 rfl) v_int (SqT.of hp2) (by rfl)) v_int (SqT.of hq2) (by rfl))) (t := true) (by simp)) fun _ =>
          w_and1 (VT.is (t_inT (x := .int (-1)) (xs := [.int one.2.1, .int oth.2.1]) (v_neg v_int) (v_tupN (va_cons (v_ixT (v_nm (v := .ref p1) 4 rfl) v_int (SqT.of hp1') (by rfl)) (va_cons (v_ixT (v_nm (v := .ref p2) 5 rfl) v_int (SqT.of hp2) (by rfl)) va_nil)) (by simp)) rfl rfl) (inV_two _ _ _)))) (fun hb H5 e5 => ?_) (fun hb H5 e5 => ?_)
        · have hb1 : one.2.1 = -1 ∨ oth.2.1 = -1 := by simpa using hb
          have E5 := eH4.trans e5
          have hp1'' := e5 _ _ hp1'
          have hq1'' := e5 _ _ hq1'
          have hp2'' := e5 _ _ hp2
          have hq2'' := e5 _ _ hq2
          refine wb_set 6 sc_meets.nd (P := fun v _ => v = distV one.2.2 oth.2.2 L.st) (vp_meth m2 T.cL hr (vp_meth (P := fun v _ => v = .ref la) m1 T.cO (hr.mono (by decide)) (v_nm (v := .ref oa) 0 rfl) (E5 _ _ ha) (fsO_no _ _ _ (by decide +kernel) (by decide +kernel) (by decide +kernel)) (oa, L, la) (va_cons (v_ixT (v := .str L.z) (v_ixT (v := .ref q1) (v_nm (v := .ref p1) 4 rfl) v_int (SqT.of hp1'') (by rfl)) v_int (SqT.of hq1'') (by rfl)) va_nil)
              (fun vs H6 e6 q => ⟨by rw [q], dx, ql, qs, d, sa, (E5.trans e6) _ _ ha, hin.kl (kl_ex (E5.trans e6))⟩) (fun _ _ _ q => q)) (E5 _ _ hla) (fsL_no _ _ (by decide +kernel) (by decide +kernel)) (la, L.z, L.st, one.2.2, oth.2.2)
            (va_cons (v_ixT (v_ixT (v := .ref q1) (v_nm (v := .ref p1) 4 rfl) v_int (SqT.of hp1'') (by rfl)) v_int (SqT.of hq1'') (by rfl)) (va_cons (v_ixT (v_ixT (v := .ref q2) (v_nm (v := .ref p2) 5 rfl) v_int (SqT.of hp2'') (by rfl)) v_int (SqT.of hq2'') (by rfl)) va_nil)) (fun vs H6 e6 q => ⟨by rw [q], hin.la.ex (E5.trans e6), hs1, hs6, of1, of2⟩) (fun _ _ _ q => q)) fun v H6 e6 p6 => ?_
          subst p6
          have E6 := E5.trans e6
          have e56 := e5.trans e6
          by_cases hd : (one.2.2 - oth.2.2) % L.st = 0
          · have ed : distV one.2.2 oth.2.2 L.st = .int ((one.2.2 - oth.2.2) / L.st) := by unfold distV; rw [if_pos hd]
            rw [ed]
            have em : meetP L.st one oth = [(one.1, one.2.1, oth.1, oth.2.1, (one.2.2 - oth.2.2) / L.st)] := by unfold meetP; rw [if_pos hb1, if_pos hd]
            refine wb_ifT (VT.is (t_notN (v_nm (v := .int ((one.2.2 - oth.2.2) / L.st)) 6 rfl)) rfl) fun H7 e7 => ?_
            have sl1 : ∀ {x1 x2 x3 : V}, ¬ (HT.sIx [x1, x2, x3].length 0 none = 0 ∧ HT.sIx [x1, x2, x3].length [x1, x2, x3].length (some 2) = [x1, x2, x3].length) := fun {x1 x2 x3} => by show ¬ (HT.sIx 3 0 none = 0 ∧ HT.sIx 3 3 (some 2) = 3); decide
            refine wb_app (xs := ys) (e7 _ _ (e56 _ _ hys)) (v_nm (v := .ref f) 1 rfl) (P := TupE ([.int (one.1 : Int), .int one.2.1] ++ [.int (oth.1 : Int), .int oth.2.1] ++ [.int ((one.2.2 - oth.2.2) / L.st)])) (vp_catT (xs := [.int (one.1 : Int), .int one.2.1] ++ [.int (oth.1 : Int), .int oth.2.1]) (ys := [.int ((one.2.2 - oth.2.2) / L.st)]) (vp_catT (xs := [.int (one.1 : Int), .int one.2.1]) (ys := [.int (oth.1 : Int), .int oth.2.1]) ((v_slT (v_nm (v := .ref p1) 4 rfl) (SqT.of (e7 _ _ (e6 _ _ hp1''))) vo_none (vo_some (i := 2) v_int) sl1).imp fun v H8 e8 ⟨q, a, _, b⟩ => ⟨q, a, b⟩) ((v_slT (v_nm (v := .ref p2) 5 rfl) (SqT.of (e7 _ _ (e6 _ _ hp2''))) vo_none (vo_some (i := 2) v_int) sl1).imp fun v H8 e8 ⟨q, a, _, b⟩ => ⟨q, a, b⟩) (by simp) (by simp) (by simp))
              (v_tupN (va_cons (v_nm (v := .int ((one.2.2 - oth.2.2) / L.st)) 6 rfl) va_nil) (by simp)) (by simp) (by simp) (by simp)) (by omega) fun v H8 e8 p8 => ?_
            obtain ⟨q, rfl, hq⟩ := p8
            have e48 := (e56.trans e7).trans e8
            have hys8 := e48 _ _ hys
            have kx : Kt H8 (upd H8 f (.lst (ys ++ [.ref q]))) := kt_lst hys8
            refine wb_nil (wb_nil (wb_nil ⟨⟨(eH4.trans e48).mut hf0, (kH4.trans (kt_ex e48)).trans kx, ?_, ?_⟩, ⟨_, upd_same, ?_⟩, _, _, rfl⟩))
            · rw [upd_ne nrf]; exact e48 _ _ rl4
            · rw [upd_ne nsf]; exact e48 _ _ sl4
            · rw [eflat, em, ← List.append_assoc, List.map_append]
              exact ((ty.ex e48).append (.cons (.tup hq (.cons (.int _) (.cons (.int _) (.cons (.int _) (.cons (.int _) (.cons (.int _) .nil)))))) .nil)).kt kx
          · have ed : distV one.2.2 oth.2.2 L.st = .non := by unfold distV; rw [if_neg hd]
            rw [ed]
            have em : meetP L.st one oth = [] := by unfold meetP; rw [if_pos hb1, if_neg hd]
            refine wb_no (VT.is (t_notN (v_nm (v := .non) 6 rfl)) rfl) fun H7 e7 => wb_nil (wb_nil ?_)
            have e47 := e56.trans e7
            refine ⟨⟨eH4.trans e47, kH4.trans (kt_ex e47), e47 _ _ rl4, e47 _ _ sl4⟩, ⟨ys, e47 _ _ hys, ?_⟩, _, _, rfl⟩
            rw [eflat, em, List.append_nil]
            exact ty.ex e47
        · have hb1 : ¬ (one.2.1 = -1 ∨ oth.2.1 = -1) := by simpa using hb
          have em : meetP L.st one oth = [] := by unfold meetP; rw [if_neg hb1]
          refine wb_nil (wb_nil ⟨⟨eH4.trans e5, kH4.trans (kt_ex e5), e5 _ _ rl4, e5 _ _ sl4⟩, ⟨ys, e5 _ _ hys, ?_⟩, _, _, rfl⟩)
          rw [eflat, em, List.append_nil]
          exact ty.ex e5
      · obtain ⟨⟨eH4, kH4, rl4, sl4⟩, ⟨ys, hys, ty⟩, o5', o6', rfl⟩ := r
        have ld : (rx.drop (i + 1)).length = ((nrefsP L).drop (i + 1)).length := by rw [List.length_drop, List.length_drop, lrx]
        rw [ld, List.take_length] at ty
        have es : meetsTo L.st (nrefsP L) (i + 1) = meetsTo L.st (nrefsP L) i ++ ((nrefsP L).drop (i + 1)).flatMap (meetP L.st one) := by
          rw [meetsTo_succ]
          unfold meetsAt
          rw [eone]
        refine wb_nil ⟨⟨eH4, rl4, (tr'.ex eN).kt kH4⟩, ⟨ys, hys, by rw [es]; exact ty⟩, ?_, _, _, _, _, rfl⟩
        rw [es, List.length_append]
        have b1 := flat_len2 (f := meetP L.st one) (k := 1) ((nrefsP L).drop (i + 1)) (fun b _ => meetP_len _ _ _)
        rw [List.length_drop] at b1
        omega
    · obtain ⟨⟨eH, hrl', tr'⟩, ⟨xs, hxs, tx⟩, lm, o3, o4, o5, o6, rfl⟩ := r
      rw [lrx] at tx
      refine wb_ret (P := MtL (meetsP L)) (vp_bi (cr_sortedTp (hr.units)) T.sorted boot_sorted (va_cons (v_nm (v := .ref f) 1 rfl) va_nil) fun vs H3 e3 q Q3 k3 => ?_) fun v H3 e3 p3 => k v H3 (eH.trans e3) p3
      subst q
      refine ⟨f, xs, _, rfl, sq_of (e3 _ _ hxs), tx.ex e3, ?_, ?_, ?_, fun ys es p _ h2 h3 hp => k3 _ _ (Ex.new hp) ⟨p, ys, es, rfl, upd_same, h2.kt (kt_new hp), h3⟩⟩
      · intro a ha b hb
        obtain ⟨m1, _, rfl⟩ := List.mem_map.mp ha
        obtain ⟨m2, _, rfl⟩ := List.mem_map.mp hb
        rfl
      · refine .inl fun a ha => ?_
        obtain ⟨m1, _, rfl⟩ := List.mem_map.mp ha
        exact ⟨_, _, rfl⟩
      · intro a ha
        obtain ⟨m1, _, rfl⟩ := List.mem_map.mp ha
        show PyData.depth (.tuple _) ≤ 10
        simp [PyData.depth, PyData.depthAll]
end
end Vw
end
section
/-! list comprehensions over a list told by a word; reach. -/
namespace Vw
open PySem PySem.Spec PyProof.Rows L2 Evl
section
variable {X : Cx} {σ : L2.St} {H H' : Hp} {tg iter elt : Expr} {ifs : List Expr} {pos p : Pos} {scope : Scope} {own : List (Str × Nat)} {ι : Type}
/-- the walk of [.. for tg in xs ..], xs a list that is told by C -/
theorem vp_lcX {n : ι → Nat} {Y P0 : ι → Nat → VPd} {keep : ι → Nat → Bool} {C : ι → Prop} (own : List (Str × Nat)) (hN : X.N.Nodup) (ok : BlkOk X.N X.env.scope scope own) (mo : ∀ c i, Imm (P0 c i)) (mY : ∀ c i, Mono (Y c i)) (hi : VP X σ H iter fun v H' => ∃ c, C c ∧ LstP X.K (n c) (Y c) v H') (hz : ∀ c, C c → n c ≤ 100000)
    (step : ∀ c, C c → ∀ i x H2, i < n c → Ex H H2 → Y c i x H2 → Turns X scope tg elt ifs (own.map (·.2)) σ H2 x (keep c i) (P0 c i)) (hc : X.calm = true := by rfl) (hs : ∀ x, foldedSetIterable iter X.env x = pure x := by intro _; rfl) :
    VP X σ H (.ListComp elt [⟨tg, iter, ifs, 0⟩] scope pos) fun v H' => ∃ c, C c ∧ NewL H (keep c) (P0 c) (n c) v H' := fun H1 e1 Q q =>
  toE (pe_lc (g := BG X scope tg) (tt := BT X scope ifs) (te := BE X scope elt) hc hN (pi_list we_pe) ok (fun s H0 C cl fp => ⟨fun pins s' σ' H' v u Q I r h => h s H0 C cl fp pins s' u I r⟩) (fun s H0 C cl fp => ⟨fun pins s' σ' H' Q I h => h s H0 C cl fp pins s' I⟩) (fun s H0 C cl fp => ⟨fun pins s' σ' H' Q I h => h s H0 C cl fp pins s' I⟩) hs) (hi H1 e1 _ fun v H2 e2 p2 => by
    obtain ⟨c, hcc, a, xs, rfl, hx, hl, hY⟩ := p2
    refine ⟨a, rfl, ⟨xs, hx⟩, fun D hD => ?_⟩
    have hDH : H D = none := fresh_back (e1.trans e2) hD
    refine ⟨fun i k H' => k = n c - i ∧ i ≤ n c ∧ Ex H2 H' ∧ ∃ ys, H' D = some (.lst ys) ∧ Outs (keep c) (P0 c) i ys H', ⟨n c, by omega, Nat.zero_le _, Ex.new hD, [], upd_same, .nil⟩, ?_⟩
    rintro i k H' ⟨rfl, hin, e3, ys, hys, ho⟩
    by_cases hlt : i < n c
    · obtain ⟨x, ex⟩ := get_at hl hlt
      refine .inr ⟨⟨xs, x, ex_l e3 hx, ex⟩, fun H4 => i + 1 ≤ n c ∧ Ex H2 H4 ∧ ∃ ys, H4 D = some (.lst ys) ∧ Outs (keep c) (P0 c) (i + 1) ys H4, fun H4 ⟨a, b⟩ => ⟨n c - (i + 1), by omega, rfl, a, b⟩, fun y H4 yy => ?_⟩
      obtain ⟨rfl, yy⟩ := yy
      have ey : y = x := by
        have := yy xs (ex_l e3 hx)
        rw [ex] at this
        exact (Option.some.inj this).symm
      subst ey
      refine step c hcc i y _ hlt ((e1.trans e2).trans e3) (mY c i _ _ _ e3 (hY i y ex)) _ fun σ2 H5 e5 w t v => ⟨w, fun s1 H01 C1 cl1 fp1 => ?_⟩
      refine t s1 H01 C1 cl1 fp1 H5 (Ex.refl _) _ fun H6 e6 => ?_
      have e46 := e5.trans e6
      cases hk : keep c i with
      | true =>
        show BE X scope elt σ2 H6 _
        intro s2 H02 C2 cl2 fp2
        refine v hk s2 H02 C2 cl2 fp2 H6 e6 _ fun u H7 e7 p7 => ?_
        have h7 := e7 D _ (e46 D _ hys)
        refine ⟨ys, h7, sz_lt (by have := ho.len; have := hz c hcc; omega), hlt, ((e3.trans e46).trans e7).mut hD, ys ++ [u], upd_same, ?_⟩
        have kl : KL H7 (upd H7 D (.lst (ys ++ [u]))) := kl_lst h7
        exact outs_yes hk ((ho.ex (fun j => (mo c j).mono) (e46.trans e7)).kl (mo c) kl) (mo c i _ _ _ kl p7)
      | false => exact ⟨hlt, e3.trans e46, ys, e46 D _ hys, outs_no hk (ho.ex (fun j => (mo c j).mono) e46)⟩
    · have e : i = n c := by omega
      subst e
      exact .inl ⟨⟨xs, ex_l e3 hx, Nat.le_of_eq hl⟩, q _ _ (e2.trans e3) ⟨c, hcc, D, ys, rfl, hDH, hys, ho⟩⟩)
end
theorem foldr_max (l : List Nat) : (∀ x ∈ l, x ≤ l.foldr max 0) ∧ (l.foldr max 0 = 0 ∨ l.foldr max 0 ∈ l) := by
  induction l with
  | nil => exact ⟨(fun _ z => nomatch z), .inl rfl⟩
  | cons x l ih =>
    obtain ⟨h1, h2⟩ := ih
    rw [List.foldr_cons]
    refine ⟨fun y hy => ?_, ?_⟩
    · rcases List.mem_cons.mp hy with rfl | hy
      · omega
      · have := h1 y hy
        omega
    · by_cases hx : l.foldr max 0 ≤ x
      · exact .inr (List.mem_cons.mpr (.inl (by omega)))
      · rcases h2 with h2 | h2
        · omega
        · refine .inr (List.mem_cons.mpr (.inr ?_))
          rw [show max x (l.foldr max 0) = l.foldr max 0 by omega]
          exact h2
theorem pairedR {H : Hp} {F : Nat → V} : ∀ {ks : List Nat} {ys : List V}, Paired (fun (i : Nat) (y : V) => y = F i) ks ys → ys = ks.map F
  | _, _, .nil => rfl
  | _, _, .cons r t => by rw [List.map_cons, r, pairedR (H := H) t]
def dAbs (d : PyData) : Int := match d with
  | .tuple [_, _, _, _, .int i] => (i.natAbs : Int)
  | _ => 0
section
variable {P : Program} {w : World} {K : PySem.W.Frag} {mg : Str → Option Value} {base : Heap} {CL CS CO CV CW : Addr}
abbrev spReach (CL CS CO : Addr) : Sp := PuSp (fun (g : Addr × LoopD) vs H => vs = [.ref g.1] ∧ LoopAt CL CS CO H g.1 g.2 ∧ LoopOk g.2 ∧ (meetsP g.2).length ≤ 1000) fun g v _ => v = .int (reachP g.2 : Int)
theorem ok_reach {f : Addr} {fd : FuncData} (F : Fd K "reach" "reach" s_reach [] [] f fd) (T : Txt K mg CL CS CO CV CW) (h1 : Has P w K mg base "meets" 5 ["loop"] (spMeets CL CS CO)) : FnOk P w K mg base CX0 6 f fd ["loop"] (spReach CL CS CO) := by
  refine F.ok sc_reach (fun vs H Q E h => ?_) (fun cdv A outer s H vs Q E hr h => ?_)
  · obtain ⟨g, ⟨rfl, _⟩, _⟩ := h
    rfl
  · obtain ⟨⟨oa, L⟩, ⟨rfl, hL, ok, hm⟩, k⟩ := h
    dsimp only at hL ok hm k
    refine wb_ret (P := fun v _ => v = .int (reachP L : Int)) (vp_bi (cr_max rfl) T.max boot_max (vap_cons (P := fun v H' => ∃ (q : Addr) (es : List PyData), v = .ref q ∧ es.Perm ((meetsP L).map mtD) ∧ H' q = some (.lst ((0 :: es.map dAbs).map V.int)))
      (vp_op op_cat (PA := fun v H' => ∃ q, v = .ref q ∧ H' q = some (.lst [.int 0])) (PB := fun _ v H' => ∃ (q : Addr) (es : List PyData), v = .ref q ∧ es.Perm ((meetsP L).map mtD) ∧ H' q = some (.lst ((es.map dAbs).map V.int))) (v_lstN (va_cons v_int va_nil) (by simp)) (fun x H1 e1 p1 => VP.imp (vp_lcX (ι := List PyData) (n := fun es => es.length) (Y := fun es i v H' => ∃ d, es[i]? = some d ∧ Tp H' v d) (P0 := fun es i v _ => v = V.int (dAbs (es.getD i .none))) (keep := fun _ _ => true) (C := fun es => es.Perm ((meetsP L).map mtD)) [("row", 1)] sc_reach.nd (blkOk_by (N := n_reach) (sc := defScope s_reach) (by decide +kernel)) (fun c i => imm_eq) (fun c i v H1 H2 e ⟨d, q1, q2⟩ => ⟨d, q1, q2.ex e⟩)
        (VP.imp (vp_call (P := MtL (meetsP L)) h1 hr (oa, L) (va_cons (v_nm (v := .ref oa) 0 rfl) va_nil) (fun vs H2 e2 q => ⟨q, hL.ex (e1.trans e2), ok⟩) (fun _ _ _ q => q)) fun v H2 e2 ⟨q, xs, es, q1, q2, q3, q4⟩ => ⟨es, q4, q, xs, q1, sq_of q2, q3.length, fun i x hx => ?_⟩)
        (fun es he => by rw [he.length_eq, List.length_map]; omega) fun es he i x H2 hi e2 hy => ?_) fun v H2 e2 p2 => ?_) (fun x H1 y H2 e1 p1 e2 p2 Q k2 => ?_)) (fun v H1 H2 e ⟨q, es, a, b, c⟩ => ⟨q, es, a, b, e _ _ c⟩) fun _ _ _ _ => vap_nil) fun vs H1 e1 q Q1 k1 => ?_) k
    · obtain ⟨d, hd, t⟩ := tpAll_get q3 hx
      exact ⟨d, hd, t⟩
    · obtain ⟨d, hd, t⟩ := hy
      have hdm := he.mem_iff.mp (List.mem_of_getElem? hd)
      obtain ⟨m, hm1, rfl⟩ := List.mem_map.mp hdm
      obtain ⟨pp, rfl, hpp⟩ := tp_mt t
      refine turn_nm 1 sc_reach.nd rfl rfl rfl (fun s H0 C cl fp => ts_nil) fun _ s H0 C cl fp => ?_
      refine vp_bi call_abs T.abs boot_abs (va_cons (v_ixT (v := .int m.2.2.2.2) (v_nm (v := .ref pp) 1 rfl) v_int (SqT.of hpp) (by rfl)) va_nil) fun vs H3 e3 q Q3 k3 => ?_
      subst q
      refine ⟨m.2.2.2.2, rfl, k3 _ _ (Ex.refl _) ?_⟩
      rw [List.getD_eq_getElem?_getD, hd]
      show V.int _ = V.int (m.2.2.2.2.natAbs : Int)
      congr 1
      split <;> omega
    · obtain ⟨es, he, q, ys, rfl, _, hq, ho⟩ := p2
      have ey := pairedR (H := H2) (F := fun i => V.int (dAbs (es.getD i .none))) ho
      rw [List.filter_eq_self.mpr (fun _ _ => rfl), map_range (fun d => V.int (dAbs d)) PyData.none es] at ey
      exact ⟨q, es, rfl, he, by rw [hq, ey, List.map_map]; rfl⟩
    · obtain ⟨q1, rfl, h1'⟩ := p1
      obtain ⟨q2, es, rfl, he, h2'⟩ := p2
      have le : es.length ≤ 1000 := by rw [he.length_eq, List.length_map]; omega
      exact ⟨q1, q2, _, _, rfl, rfl, e2 _ _ h1', h2', sz_of (by simp; omega), fun p hp => k2 _ _ (Ex.new hp) ⟨p, es, rfl, he, upd_same⟩⟩
    · obtain ⟨v, r, rfl, ⟨q, es, rfl, he, hq⟩, rfl⟩ := q
      refine ⟨q, 0 :: es.map dAbs, rfl, sq_of hq, by simp, fun m hm hall => k1 _ _ (Ex.refl _) ?_⟩
      obtain ⟨b1, b2⟩ : (∀ x ∈ (meetsP L).map fun m => m.2.2.2.2.natAbs, x ≤ reachP L) ∧ (reachP L = 0 ∨ reachP L ∈ (meetsP L).map fun m => m.2.2.2.2.natAbs) := foldr_max _
      have mem : ∀ x, x ∈ es.map dAbs ↔ ∃ y ∈ meetsP L, x = (y.2.2.2.2.natAbs : Int) := fun x => by
        rw [List.mem_map]
        constructor
        · rintro ⟨d, hd, rfl⟩
          obtain ⟨y, hy, rfl⟩ := List.mem_map.mp (he.mem_iff.mp hd)
          exact ⟨y, hy, rfl⟩
        · rintro ⟨y, hy, rfl⟩
          exact ⟨mtD y, he.mem_iff.mpr (List.mem_map.mpr ⟨y, hy, rfl⟩), rfl⟩
      have up : (reachP L : Int) ≤ m := by
        rcases b2 with b2 | b2
        · rw [b2]
          exact hall 0 (by simp)
        · obtain ⟨y, hy, ey⟩ := List.mem_map.mp b2
          rw [← ey]
          exact hall _ (List.mem_cons.mpr (.inr ((mem _).mpr ⟨y, hy, rfl⟩)))
      have dn : m ≤ (reachP L : Int) := by
        rcases List.mem_cons.mp hm with rfl | hm
        · omega
        · obtain ⟨y, hy, rfl⟩ := (mem _).mp hm
          have := b1 _ (List.mem_map.mpr ⟨y, hy, rfl⟩)
          omega
      show V.int m = V.int (reachP L : Int)
      rw [Int.le_antisymm dn up]
end
end Vw
end
section
/-! The tables of sets up to 512 slots: what a search and a relaying need, no more. -/
namespace Vw
open PySem PySem.Spec PyProof.Rows L2 Evl
def Mk5 (m : Nat) : Prop := m = 7 ∨ m = 31 ∨ m = 127 ∨ m = 511
theorem mk5_odd {m : Nat} (h : Mk5 m) : m % 2 = 1 := by
  rcases h with e | e | e | e <;> subst e <;> rfl
/-- the orbit of 0 as a list -/
def orb (m : Nat) : Nat → Nat → List Nat
  | 0, _ => []
  | n + 1, x => x :: orb m n ((x * 5 + 1) % (m + 1))
theorem orb_mem (m : Nat) : ∀ (n a : Nat) (j : Nat), j ∈ orb m n (lcgN m a) → ∃ b, b < a + n ∧ lcgN m b = j
  | 0, _, _, h => by cases h
  | n + 1, a, j, h => by
    rcases List.mem_cons.mp h with rfl | h
    · exact ⟨a, by omega, rfl⟩
    · obtain ⟨b, hb, e⟩ := orb_mem m n (a + 1) j h
      exact ⟨b, by omega, e⟩
theorem orb511 : ((List.range 512).all fun j => (orb 511 512 0).contains j) = true := by decide +kernel
theorem lcg5_all {m : Nat} (hm : Mk5 m) {j : Nat} (hj : j ≤ m) : ∃ b, b ≤ m ∧ lcgN m b = j := by
  rcases hm with e | e | e | e
  · exact lcg_all (.inl e) hj
  · exact lcg_all (.inr (.inl e)) hj
  · exact lcg_all (.inr (.inr e)) hj
  · subst e
    have h1 := List.all_eq_true.mp orb511 j (List.mem_range.mpr (Nat.lt_succ_of_le hj))
    have h2 : j ∈ orb 511 512 0 := by simpa using h1
    obtain ⟨b, hb, e⟩ := orb_mem 511 512 0 j (show j ∈ orb 511 512 (lcgN 511 0) from h2)
    exact ⟨b, by omega, e⟩
theorem lcg5_round {m : Nat} (hm : Mk5 m) : lcgN m (m + 1) = 0 := by
  rcases hm with e | e | e | e <;> subst e <;> decide +kernel
theorem lcg5_mod {m : Nat} (hm : Mk5 m) (k : Nat) : lcgN m (m + 1 + k) = lcgN m k := by
  induction k with
  | zero => exact lcg5_round hm
  | succ k ih =>
    show (lcgN m (m + 1 + k) * 5 + 1) % (m + 1) = (lcgN m k * 5 + 1) % (m + 1)
    rw [ih]
theorem lcg5_from {m : Nat} (hm : Mk5 m) {i j : Nat} (hi : i ≤ m) (hj : j ≤ m) : ∃ k, k ≤ m ∧ lcgI m i k = j := by
  obtain ⟨a, ha, rfl⟩ := lcg5_all hm hi
  obtain ⟨b, hb, rfl⟩ := lcg5_all hm hj
  by_cases c : a ≤ b
  · exact ⟨b - a, by omega, by rw [lcgN_add, Nat.add_sub_cancel' c]⟩
  · exact ⟨b + (m + 1) - a, by omega, by rw [lcgN_add, show a + (b + (m + 1) - a) = m + 1 + b by omega, lcg5_mod hm]⟩
theorem run5_meets {m : Nat} (hm : Mk5 m) (h : Int) {j : Nat} (hj : j ≤ m) : ∃ n, n ≤ m + 12 ∧ runI m (SetTable.bits h) n = j := by
  obtain ⟨k, hk, e⟩ := lcg5_from hm (runI_le m (SetTable.bits h) 12) hj
  exact ⟨12 + k, by omega, (runI_tail (bits_lt h) k).trans e⟩
theorem nth5_meets {m : Nat} (hm : Mk5 m) (h : Int) {j : Nat} (hj : j ≤ m) : ∃ k, k < 10 * SetTable.turns m ∧ way m h k = j := by
  obtain ⟨n, hn, e⟩ := run5_meets hm h hj
  obtain ⟨k, hk, e2⟩ := run_nth m (SetTable.bits h) n
  exact ⟨k, by unfold SetTable.turns; omega, by show (nth m _ k).j = j; rw [e2]; exact e⟩
theorem way5_le (m : Nat) (h : Int) (k : Nat) : way m h k ≤ m := by
  have hi : SetTable.bits h % (m + 1) ≤ m := Nat.le_of_lt_succ (Nat.mod_lt _ (Nat.succ_pos _))
  have b := runEnd_bd hi
  have q := nth_in (m := m) k (runAt m (SetTable.bits h % (m + 1)) (SetTable.bits h)) (by
    show SetTable.bits h % (m + 1) + (SetTable.runEnd m (SetTable.bits h % (m + 1)) - SetTable.bits h % (m + 1)) ≤ m
    omega)
  exact Nat.le_trans (Nat.le_add_right _ _) q
/-- a table that can be searched -/
structure TabW (t : SetTable) (n : Nat) : Prop where
  ris : Ris t.place.toList
  dm : t.dummies = #[]
  sz : t.place.size = n
  mok : Mk5 t.mask
theorem TabW.first {t : SetTable} {n : Nat} (T : TabW t n) (hl : n ≤ t.mask) (h : Int) : ∃ K, K < 10 * SetTable.turns t.mask ∧ way t.mask h K ∉ t.place.toList ∧ ∀ k, k < K → way t.mask h k ∈ t.place.toList := by
  obtain ⟨j, hj, hn⟩ := st_missing t.place.toList (t.mask + 1) (by rw [Array.length_toList, T.sz]; omega)
  obtain ⟨k, hk, e⟩ := nth5_meets T.mok h (Nat.le_of_lt_succ hj)
  obtain ⟨K, h1, h2, h3⟩ := st_least (p := fun k => way t.mask h k ∉ t.place.toList) k (by rw [e]; exact hn)
  exact ⟨K, by omega, h2, fun k' hk' => Classical.byContradiction fun c => h3 k' hk' c⟩
theorem TabW.put {t : SetTable} {n : Nat} (T : TabW t n) {j : Nat} (hj : j ∉ t.place.toList) : (t.put j).2 ≤ n ∧ TabW (t.put j).1 (n + 1) ∧ (t.put j).1.mask = t.mask ∧ (t.put j).1.led = t.led ∧ (t.put j).1.fill = n + 1 := by
  obtain ⟨c1, _, _⟩ := below_cut T.ris j
  have b1 : SetTable.below t.place j ≤ t.place.toList.length := by rw [Array.length_toList]; exact c1
  have hnp : t.place[SetTable.below t.place j]? ≠ some j := fun e => hj (List.mem_of_getElem? (by rw [Array.getElem?_toList]; exact e))
  have hz : (t.put j).1.place.size = n + 1 := by
    rw [← Array.length_toList, put_place t j, len_ins _ b1, Array.length_toList, T.sz]
  refine ⟨by show SetTable.below t.place j ≤ n; rw [← T.sz]; exact c1, ⟨ris_insert T.ris hnp, put_dm T.dm j, hz, T.mok⟩, rfl, rfl, ?_⟩
  show (t.put j).1.place.size + (t.put j).1.dummies.size = n + 1
  rw [hz, put_dm T.dm j]
  rfl
/-- who sits where, weakly -/
structure OwnW (m n : Nat) (owner : Array (Option Nat)) : Prop where
  sz : owner.size = m + 1
  all : ∀ k, k < n → ∃ j, j ≤ m ∧ oAt owner j = some k
  ps : ∃ ps : List Nat, ps.length = n ∧ ∀ j, j ≤ m → oAt owner j ≠ none → j ∈ ps
theorem ownW_init (m : Nat) : OwnW m 0 (Array.replicate (m + 1) none) := ⟨by simp, fun k hk => absurd hk (Nat.not_lt_zero _), [], rfl, fun j hj e => absurd (oAt_init hj) e⟩
theorem free5_find {m : Nat} (hm : Mk5 m) (owner : Array (Option Nat)) (h : Int) {j : Nat} (hj : j ≤ m) (hf : oAt owner j = none) : ∃ i, i ≤ m ∧ SetTable.layClean.free m owner (SetTable.turns m) (SetTable.bits h % (m + 1)) (SetTable.bits h) = some i ∧ oAt owner i = none := by
  obtain ⟨n, hn, e⟩ := run5_meets hm h hj
  have hw : way m h (off m (SetTable.bits h % (m + 1)) (SetTable.bits h) n) = j := by
    show (nth m _ _).j = j
    rw [nth_off, itL_run]
    exact e
  obtain ⟨K, k1, k2, k3⟩ := st_least (p := fun k => oAt owner (way m h k) = none) _ (show oAt owner (way m h (off m (SetTable.bits h % (m + 1)) (SetTable.bits h) n)) = none by rw [hw]; exact hf)
  refine ⟨way m h K, way5_le m h K, free_spec m owner (SetTable.turns m) n _ _ K (by unfold SetTable.turns; omega) k1 (fun k hk => ?_) ?_, k2⟩
  · have q : ¬ oAt owner (way m h k) = none := k3 k hk
    cases z : oAt owner (way m h k) with
    | none => exact absurd z q
    | some _ => rfl
  · show (oAt owner (way m h K)).isNone = true
    rw [k2]
    rfl
theorem OwnW.step {m n : Nat} (hm : Mk5 m) {owner : Array (Option Nat)} (W : OwnW m n owner) (hl : n ≤ m) (h : Int) :
    ∃ j, SetTable.layClean.free m owner (SetTable.turns m) (SetTable.bits h % (m + 1)) (SetTable.bits h) = some j ∧ OwnW m (n + 1) (owner.setIfInBounds j (some n)) := by
  obtain ⟨ps, hps, hin⟩ := W.ps
  obtain ⟨j0, h0, hn0⟩ := st_missing ps (m + 1) (by omega)
  have hj0 : oAt owner j0 = none := Classical.byContradiction fun c => hn0 (hin j0 (Nat.le_of_lt_succ h0) c)
  obtain ⟨i, hi, e1, e2⟩ := free5_find hm owner h (Nat.le_of_lt_succ h0) hj0
  have his : i < owner.size := by rw [W.sz]; omega
  have self := oAt_set_self (some n) his
  refine ⟨i, e1, by rw [Array.size_setIfInBounds]; exact W.sz, fun k hk => ?_, i :: ps, by rw [List.length_cons, hps], fun j hj e => ?_⟩
  · by_cases c : k < n
    · obtain ⟨j, hj, e⟩ := W.all k c
      exact ⟨j, hj, by rw [oAt_set_ne _ (fun z => by rw [z, e2] at e; cases e)]; exact e⟩
    · exact ⟨i, hi, by rw [show k = n by omega]; exact self⟩
  · by_cases c : j = i
    · exact List.mem_cons.mpr (.inl c)
    · rw [oAt_set_ne _ c] at e
      exact List.mem_cons.mpr (.inr (hin j hj e))
theorem lay5_ok {m : Nat} (hm : Mk5 m) : ∀ (rest : List Int) (n : Nat) (owner : Array (Option Nat)), OwnW m n owner → n + rest.length ≤ m → ∃ owner', rest.foldl (stepF m) (some (owner, n)) = some (owner', n + rest.length) ∧ OwnW m (n + rest.length) owner'
  | [], n, owner, W, _ => ⟨owner, rfl, W⟩
  | h :: rest, n, owner, W, hl => by
    rw [List.length_cons] at hl
    obtain ⟨j, e, W'⟩ := W.step hm (by omega) h
    obtain ⟨owner', f, W2⟩ := lay5_ok hm rest (n + 1) _ W' (by omega)
    rw [List.length_cons, show n + (rest.length + 1) = n + 1 + rest.length by omega]
    exact ⟨owner', by rw [List.foldl_cons, stepF_some e]; exact f, W2⟩
theorem relaid5 (t : SetTable) {hs : Array Int} {wanted M : Nat} (hw : SetTable.sizeAbove wanted - 1 = M) (hM : Mk5 M) (hn : hs.size ≤ M) :
    ∃ t' order, t.relaid hs wanted = some (t', order) ∧ order.toList.Perm (List.range hs.size) ∧ TabW t' hs.size ∧ t'.mask = M ∧ t'.led = t.led := by
  obtain ⟨owner, f, W⟩ := lay5_ok hM hs.toList 0 _ (ownW_init M) (by rw [Array.length_toList]; omega)
  have e : SetTable.layClean M hs = some owner := by
    rw [layClean_eq, f]
    rfl
  rw [Nat.zero_add, Array.length_toList] at W
  have hr : t.relaid hs wanted = some (tabOf t M owner, ((liveOf M owner).map (·.2)).toArray) := by
    rw [relaid_eq, hw, e]
    rfl
  have ris := ris_live (fun j => owner.getD j none) (List.range (M + 1)) (by
    unfold Ris
    first | exact List.pairwise_lt_range | exact List.pairwise_lt_range _)
  have r1 : Ris ((liveOf M owner).map (·.1)) := ris.1
  have nd : ((liveOf M owner).map (·.1)).Nodup := List.Pairwise.imp (fun h => Nat.ne_of_lt h) r1
  have cover : ∀ k, k < hs.size → k ∈ (liveOf M owner).map (·.2) := fun k hk => by
    obtain ⟨j, b1, b2⟩ := W.all k hk
    exact List.mem_map.mpr ⟨(j, k), (mem_live W.sz).2 ⟨b1, b2⟩, rfl⟩
  have hlen : (liveOf M owner).length = hs.size := by
    obtain ⟨ps, p1, p2⟩ := W.ps
    have a := nat_nodup_len ((liveOf M owner).map (·.1)) ps nd fun x hx => by
      obtain ⟨⟨y, k⟩, hq, rfl⟩ := List.mem_map.mp hx
      obtain ⟨b1, b2⟩ := (mem_live W.sz).1 hq
      exact p2 y b1 (by rw [b2]; exact fun z => nomatch z)
    have b := nat_nodup_len (List.range hs.size) ((liveOf M owner).map (·.2)) List.nodup_range fun k hk => cover k (List.mem_range.mp hk)
    rw [List.length_map] at a b
    rw [List.length_range] at b
    omega
  refine ⟨tabOf t M owner, _, hr, perm_range hs.size _ (by show ((liveOf M owner).map (·.2)).length = _; rw [List.length_map]; exact hlen) cover, ⟨r1, rfl, ?_, hM⟩, rfl, rfl⟩
  show ((liveOf M owner).map (·.1)).toArray.size = hs.size
  rw [List.size_toArray, List.length_map]
  exact hlen
theorem size5_512 : SetTable.sizeAbove (SetTable.grown 77) = 512 := by decide +kernel
end Vw
end
section
/-! Sets of tuples of ints and texts: the search, adding. -/
namespace Vw
open PySem PySem.Spec PyProof.Rows L2 Evl
abbrev IsK (P : Program) (w : World) (h : Heap) (k : List Key) (a : Addr) : Prop := IsTupleKey (mixKind P w) h k a
abbrev kh (P : Program) (w : World) (k : List Key) : Int := tupleKeyHash (mixKind P w) k
section
variable {P : Program} {w : World} {A : Around} {E : Value → Shared → Prop} {s : Shared}
theorem items_mix {k : List Key} {vs : List Value} (h : ItemsAre (mixKind P w) k vs) : ∀ v ∈ vs, (∃ i t, v = Value.int i t) ∨ ∃ x t, v = Value.str x t := by
  induction h with
  | nil => intro v z; cases z
  | cons q _ ih =>
    intro v z
    rcases List.mem_cons.mp z with rfl | z
    · rcases keyIs_shape q with ⟨i, t, _, e⟩ | ⟨x, t, _, e⟩
      · exact .inl ⟨i, t, e⟩
      · exact .inr ⟨x, t, e⟩
    · exact ih v z
theorem noClass_mix (n : Nat) {v : Value} (h : (∃ i t, v = Value.int i t) ∨ ∃ x t, v = Value.str x t) : ofAClassStatement n v = pure false := by
  rcases h with ⟨i, t, rfl⟩ | ⟨x, t, rfl⟩ <;> cases n <;> rfl
theorem byVal_mix (n : Nat) {v : Value} (h : (∃ i t, v = Value.int i t) ∨ ∃ x t, v = Value.str x t) : ∃ b, hashByValue n v = pure b := by
  rcases h with ⟨i, t, rfl⟩ | ⟨x, t, rfl⟩
  · exact ⟨true, by cases n <;> rfl⟩
  · exact ⟨false, by cases n <;> rfl⟩
theorem noClass_tup {k : List Key} {b : Addr} {Q : Bool → Shared → Prop} (hk : IsK P w s.heap k b) (h : Q false s) : wpAny (model P w) A (ofAClassStatement 8 (.ref b)) Q E s := by
  have ty := hk.typeIs
  obtain ⟨o, its, n, ho, _, hd, hi⟩ := hk
  unfold ofAClassStatement
  refine wpAny_bind (wpAny_typeOf ty ?_)
  dsimp only
  have et : (("tuple" : String) == "tuple") = true := by decide
  simp only [et, if_true, Bool.not_true, Bool.false_eq_true, if_false]
  try refine wpAny_bind (wpAny_pure ?_)
  try simp only [Bool.not_true, Bool.false_eq_true, if_false]
  show wpAny _ _ (seqItems? (.ref b) >>= _) _ _ s
  refine wpAny_bind (wpAny_seqItems ho hd ?_)
  dsimp only
  refine wpAny_bind ?_
  show wpAny _ _ (forIn its _ _) _ _ s
  rw [← Array.forIn_toList]
  refine wpAny_forIn_list _ (fun more r s2 => r.1 = none ∧ s2 = s ∧ ∀ v ∈ more, (∃ i t, v = Value.int i t) ∨ ∃ x t, v = Value.str x t) _ ?_ ?_ _ _ ⟨rfl, rfl, items_mix hi⟩
  · rintro v more r s2 ⟨hr, rfl, hall⟩
    rw [noClass_mix _ (hall v List.mem_cons_self)]
    refine wpAny_bind (wpAny_pure ?_)
    simp only [Bool.false_eq_true, if_false]
    exact wpAny_pure ⟨rfl, rfl, fun u z => hall u (List.mem_cons_of_mem _ z)⟩
  · rintro ⟨r1, r2⟩ s2 ⟨hr, rfl, _⟩
    simp only at hr
    subst hr
    exact wpAny_pure h
/-- whether the hash of a tuple follows from its value: some answer -/
theorem byVal_tup {k : List Key} {b : Addr} {Q : Bool → Shared → Prop} (hk : IsK P w s.heap k b) (h : ∀ c, Q c s) : wpAny (model P w) A (hashByValue 8 (.ref b)) Q E s := by
  have ty := hk.typeIs
  obtain ⟨o, its, n, ho, _, hd, hi⟩ := hk
  unfold hashByValue
  refine wpAny_bind (wpAny_specialOf ty F.slot_tuple_hash.lookup ?_)
  show wpAny _ _ (seqItems? (.ref b) >>= _) _ _ s
  refine wpAny_bind (wpAny_seqItems ho hd ?_)
  refine wpAny_bind ?_
  show wpAny _ _ (forIn its _ _) _ _ s
  rw [← Array.forIn_toList]
  refine wpAny_forIn_list _ (fun more r s2 => (r.1 = none ∨ r.1 = some false) ∧ s2 = s ∧ ∀ v ∈ more, (∃ i t, v = Value.int i t) ∨ ∃ x t, v = Value.str x t) _ ?_ ?_ _ _ ⟨.inl rfl, rfl, items_mix hi⟩
  · rintro v more r s2 ⟨hr, rfl, hall⟩
    obtain ⟨c, ec⟩ := byVal_mix 7 (hall v List.mem_cons_self)
    rw [ec]
    refine wpAny_bind (wpAny_pure ?_)
    cases c with
    | true =>
      simp only [Bool.not_true, Bool.false_eq_true, if_false]
      exact wpAny_pure ⟨.inl rfl, rfl, fun u z => hall u (List.mem_cons_of_mem _ z)⟩
    | false =>
      simp only [Bool.not_false, if_true]
      exact wpAny_pure (wpAny_pure (h _))
  · rintro ⟨r1, r2⟩ s2 ⟨hr, rfl, _⟩
    simp only at hr
    rcases hr with hr | hr
    · subst hr
      exact wpAny_pure (h _)
    · subst hr
      exact wpAny_pure (h _)
end
end Vw
end
section
/-! Sets of tuples: the search among them, adding. -/
namespace Vw
open PySem PySem.Spec PyProof.Rows L2 Evl
/-- the set at a has the tuples of L (and each of them once or more), in its table's order -/
structure SetW (P : Program) (w : World) (h : Heap) (a : Addr) (L : List (Addr × List Key)) (es : Array (Int × Value)) (ep : Nat) (t : SetTable) : Prop where
  ob : ∃ o, h.get? a = some o ∧ o.ExactSet ∧ o.data = .set es ep t
  rows : es.toList.map (·.2) = L.map fun p => Value.ref p.1
  tab : TabW t es.size
  tup : ∀ p ∈ L, IsK P w h p.2 p.1
  led : w.params.followText "set-order" = true ∨ t.led = true
  room : es.size * 5 < t.mask * 3
  few : es.size < 300
section
variable {P : Program} {w : World} {A : Around} {E : Value → Shared → Prop} {s : Shared} {a : Addr} {L : List (Addr × List Key)} {es : Array (Int × Value)} {ep : Nat} {t : SetTable}
theorem SetW.len (R : SetW P w s.heap a L es ep t) : es.size = L.length := by
  have h := congrArg List.length R.rows
  rw [List.length_map, List.length_map, Array.length_toList] at h
  exact h
theorem fits_w {t : SetTable} {n : Nat} (T : TabW t n) (h : n ≤ t.mask) : t.fits n = true := by
  unfold SetTable.fits SetTable.fill
  rw [T.dm, T.sz, Bool.and_eq_true, beq_iff_eq, decide_eq_true_eq]
  exact ⟨rfl, h⟩
theorem SetW.fits (R : SetW P w s.heap a L es ep t) : t.fits es.size = true := fits_w R.tab (by have := R.room; omega)
theorem SetW.at_ (R : SetW P w s.heap a L es ep t) {i : Nat} (hi : i < es.size) : ∃ h p, es[i]? = some (h, Value.ref p.1) ∧ p ∈ L := by
  obtain ⟨e, he⟩ : ∃ e, es[i]? = some e := ⟨es[i], Array.getElem?_eq_getElem hi⟩
  have z : (es.toList.map (·.2))[i]? = some e.2 := by rw [List.getElem?_map, Array.getElem?_toList, he]; rfl
  rw [R.rows, List.getElem?_map] at z
  obtain ⟨p, hp, e2⟩ := Option.map_eq_some_iff.mp z
  exact ⟨e.1, p, by rw [he, e2], List.mem_of_getElem? hp⟩
/-- among tuples a search can't be seen -/
theorem seenW {k : List Key} {b : Addr} {Q : Bool → Shared → Prop} (hk : IsK P w s.heap k b) {ys : List Value} (hy : ∀ y ∈ ys, ∃ k' c, y = Value.ref c ∧ IsK P w s.heap k' c) (h : Q false s) : wpAny (model P w) A (searchCouldBeSeen (.ref b) ys) Q E s := by
  unfold searchCouldBeSeen
  refine wpAny_bind ?_
  refine wpAny_forIn_list _ (fun more r s2 => r.1 = none ∧ s2 = s ∧ ∀ y ∈ more, ∃ k' c, y = Value.ref c ∧ IsK P w s.heap k' c) _ ?_ ?_ _ _ ⟨rfl, rfl, hy⟩
  · rintro v more r s2 ⟨hr, rfl, hall⟩
    obtain ⟨k2, c, rfl, hc⟩ := hall v List.mem_cons_self
    have hmore : ∀ y ∈ more, ∃ k' c, y = Value.ref c ∧ IsK P w s2.heap k' c := fun u z => hall u (List.mem_cons_of_mem _ z)
    dsimp only
    by_cases hv : (b == c || (carriedByValue (.ref b) && carriedByValue (.ref c))) = true
    · exact wp_if_pos hv (wpAny_pure ⟨rfl, rfl, hmore⟩)
    · refine wp_if_neg hv ?_
      refine wpAny_bind (wpAny_eqIsQuiet_tuple hk ?_)
      simp only [Bool.not_true, Bool.false_eq_true, if_false]
      refine wpAny_bind (wpAny_eqIsQuiet_tuple hc ?_)
      simp only [Bool.not_true, Bool.false_eq_true, if_false]
      refine wpAny_bind (noClass_tup hk ?_)
      simp only [Bool.false_eq_true, if_false]
      refine wpAny_bind (noClass_tup hc ?_)
      simp only [Bool.false_eq_true, if_false]
      exact wpAny_pure ⟨rfl, rfl, hmore⟩
  · rintro ⟨r1, r2⟩ s2 ⟨hr, rfl, _⟩
    simp only at hr
    subst hr
    exact wpAny_pure h
/-- the probe's state at step c of the way -/
abbrev stW (m : Nat) (h : Int) (c : Nat) : SetTable.Probe := nth m (runAt m (SetTable.bits h % (m + 1)) (SetTable.bits h)) c
theorem stW_add (m : Nat) (h : Int) (c q : Nat) : nth m (stW m h c) q = stW m h (c + q) := (nth_add m c _ q).symm
theorem stW_dummy (m : Nat) (h : Int) (c : Nat) : (stW m h c).dummy = none := by
  have key : ∀ (n : Nat) (p : SetTable.Probe), p.dummy = none → (nth m p n).dummy = none := by
    intro n
    induction n with
    | zero => exact fun p z => z
    | succ n ih =>
      intro p z
      refine ih (adv m p) ?_
      unfold adv
      split <;> exact z
  exact key c _ rfl
theorem searchW (R : SetW P w s.heap a L es ep t) {x : Addr} {k : List Key} {h : Int} (hx : IsK P w s.heap k x) (hu : A.units < cLine) {K : Nat} (hKf : K < 10 * SetTable.turns t.mask) (hK : way t.mask h K ∉ t.place.toList) (hKb : ∀ c, c < K → way t.mask h c ∈ t.place.toList)
    {Q : SetFound → Shared → Prop} (hin : k ∈ L.map (·.2) → Q (.there none) s) (hout : Q (.free (way t.mask h K) false) s) :
    ∀ (f c : Nat) (stand : Option SetTable.Probe), stand.getD (t.probeStart h) = stW t.mask h c → c ≤ K → K - c < f → wpAny (model P w) A (setSearchFrom a (.ref x) h true f stand) Q E s
  | 0, c, stand, _, _, hf => absurd hf (Nat.not_lt_zero _)
  | f + 1, c, stand, hst, hc, hf => by
    obtain ⟨o, ho, hex, hd⟩ := R.ob
    rw [setSearchFrom_succ]
    refine wpAny_bind (wpAny_setState_of ho hd R.fits ?_)
    dsimp only
    have gw : ¬ t.gaveWay = true := by
      unfold SetTable.gaveWay
      rw [mk5_odd R.tab.mok]
      decide
    refine wp_if_neg gw ?_
    try refine wpAny_bind (wpAny_pure ?_)
    have e1 : ∀ q, (nth t.mask (stW t.mask h c) q).j = way t.mask h (c + q) := fun q => congrArg SetTable.Probe.j (stW_add t.mask h c q)
    have spec := go_spec t R.tab.ris R.tab.dm (fun i => (es[i]?.map (·.1)).getD 0) h (10 * SetTable.turns t.mask) (K - c) _ (stW_dummy t.mask h c) (by omega) (fun q hq => by rw [e1]; exact hKb (c + q) (by omega)) (by rw [e1, show c + (K - c) = K by omega]; exact hK)
    rcases spec with ⟨q, i, hq, hi, hh, hno, hpr⟩ | ⟨hno, hpr⟩
    · have hpr2 : t.probe (fun i => (es[i]?.map (·.1)).getD 0) h (stand.getD (t.probeStart h)) = some (.candidate (way t.mask h (c + q)) i (stW t.mask h (c + (q + 1)))) := by
        rw [hst, ← e1, ← stW_add]
        exact hpr
      rw [hpr2]
      dsimp only
      rw [e1] at hi
      have hil : i < es.size := by
        have z := (List.getElem?_eq_some_iff.mp hi).1
        rw [Array.length_toList, R.tab.sz] at z
        exact z
      obtain ⟨h0, p, hp, hmem⟩ := R.at_ hil
      have hpt := R.tup p hmem
      have rest : wpAny (model P w) A (searchRest a (.ref x) h true f es t (way t.mask h (c + q)) i (stW t.mask h (c + (q + 1)))) Q E s := by
        unfold searchRest
        rw [hp]
        dsimp only
        refine wpAny_bind (wpAny_holding (wpAny_eqBool_tuple hu hpt hx ?_))
        refine wpAny_bind (wpAny_setState_of ho hd R.fits ?_)
        dsimp only
        by_cases hkk : p.2 = k
        · refine wp_if_pos (by simp [hkk]) ?_
          exact wpAny_pure (hin (List.mem_map.mpr ⟨p, hmem, hkk⟩))
        · refine wp_if_neg (by simp [hkk]) ?_
          try refine wpAny_bind (wpAny_pure ?_)
          rw [sameMem]
          dsimp only
          have live : t.slot (way t.mask h (c + q)) = .live i := slot_live R.tab.ris hi
          simp only [if_true, live, hp]
          refine wpAny_bind (wpAny_isSame_ref_self (wpAny_bind (wpAny_pure ?_)))
          simp only [if_true]
          refine wp_if_neg (by simp [hkk]) ?_
          exact searchW R hx hu hKf hK hKb hin hout f (c + (q + 1)) _ rfl (by omega) (by omega)
      by_cases hl : t.led = true
      · refine wp_if_neg (by simp [hl]) ?_
        try refine wpAny_bind (wpAny_pure ?_)
        exact rest
      · refine wp_if_pos (by simp [hl]) ?_
        refine wpAny_bind (seenW hx (fun y hy => ?_) ?_)
        · obtain ⟨e, he, ee⟩ := List.mem_map.mp hy
          have he1 : e ∈ es ∧ e.1 = h := by simpa using he
          have he2 : e.2 ∈ es.toList.map (·.2) := List.mem_map.mpr ⟨e, by simpa using he1.1, rfl⟩
          rw [R.rows] at he2
          obtain ⟨p2, hp2, e2⟩ := List.mem_map.mp he2
          exact ⟨p2.2, p2.1, by rw [← ee, ← e2], R.tup p2 hp2⟩
        · refine wp_if_neg (by decide) ?_
          try refine wpAny_bind (wpAny_pure ?_)
          exact rest
    · have hpr2 : t.probe (fun i => (es[i]?.map (·.1)).getD 0) h (stand.getD (t.probeStart h)) = some (.empty (way t.mask h K) none) := by
        have eK : way t.mask h K = (nth t.mask (stW t.mask h c) (K - c)).j := by rw [e1, show c + (K - c) = K by omega]
        rw [hst, eK]
        exact hpr
      rw [hpr2]
      dsimp only
      exact wpAny_pure hout
theorem searchW_at (R : SetW P w s.heap a L es ep t) {x : Addr} {k : List Key} {h : Int} (hx : IsK P w s.heap k x) (hu : A.units < cLine) {Q : SetFound → Shared → Prop} (hin : k ∈ L.map (·.2) → Q (.there none) s) (hout : ∀ K, way t.mask h K ∉ t.place.toList → Q (.free (way t.mask h K) false) s) :
    wpAny (model P w) A (setSearch a (.ref x) h true) Q E s := by
  have room := R.room
  obtain ⟨K, hKf, hK, hKb⟩ := R.tab.first (by omega) h
  have big : K < 100000 := by
    have : 10 * SetTable.turns t.mask ≤ 6000 := by
      unfold SetTable.turns
      rcases R.tab.mok with e | e | e | e <;> omega
    omega
  unfold setSearch
  exact searchW R hx hu hKf hK hKb hin (hout K hK) 100000 0 none rfl (Nat.zero_le _) (by omega)
theorem isK_same {h h' : Heap} {k : List Key} {a b : Addr} {o : Obj} {es : Array (Int × Value)} {ep : Nat} {t : SetTable} (hb : IsK P w h k b) (ho : h.get? a = some o) (hd : o.data = .set es ep t) (hs : Heap.SameBut a h h') : IsK P w h' k b := by
  obtain ⟨o2, its, n, ho2, hc, hd2, hi⟩ := hb
  have hne : b ≠ a := fun e => by
    rw [e, ho] at ho2
    rw [← Option.some.inj ho2, hd] at hd2
    cases hd2
  exact ⟨o2, its, n, (hs.2 b hne).trans ho2, hc, hd2, hi⟩
theorem rows_ins (es : Array (Int × Value)) (p : Nat) (h : Int) (v : Value) : ((SetTable.insertAt es p (h, v)).toList.map (·.2)) = (es.toList.map (·.2)).take p ++ v :: (es.toList.map (·.2)).drop p := by
  rw [SetTable.toList_insertAt, List.map_append, List.map_cons, List.map_take, List.map_drop]
/-- the order of a relaying keeps the values -/
theorem rows_perm (es : Array (Int × Value)) (order : Array Nat) (hp : order.toList.Perm (List.range es.size)) : ((order.filterMap (es[·]?)).toList).Perm es.toList := by
  have e : (order.filterMap (es[·]?)).toList = order.toList.filterMap (fun i => es.toList[i]?) := by
    rw [Array.toList_filterMap]
    simp only [Array.getElem?_toList]
  rw [e]
  refine (hp.filterMap _).trans (List.Perm.of_eq ?_)
  have key : ∀ l : List (Int × Value), (List.range l.length).filterMap (fun i => l[i]?) = l := by
    intro l
    have k2 : ∀ n, n ≤ l.length → (List.range n).filterMap (fun i => l[i]?) = l.take n := by
      intro n
      induction n with
      | zero => intro _; rfl
      | succ n ih =>
        intro hn
        rw [List.range_succ, List.filterMap_append, ih (by omega), List.take_succ, List.getElem?_eq_getElem hn, List.filterMap_cons_some (List.getElem?_eq_getElem hn)]
        rfl
    rw [k2 _ (Nat.le_refl _), List.take_length]
  have z := key es.toList
  rw [Array.length_toList] at z
  exact z
theorem map_perm_lift {α β : Type} (f : α → β) : ∀ {l : List α} {m : List β}, (l.map f).Perm m → ∃ l2 : List α, l2.Perm l ∧ l2.map f = m := by
  intro l m h
  generalize hk : l.map f = k at h
  induction h generalizing l with
  | nil => exact ⟨l, .refl _, hk⟩
  | cons x _ ih =>
    cases l with
    | nil => cases hk
    | cons y l =>
      rw [List.map_cons] at hk
      injection hk with h1 h2
      obtain ⟨l2, p2, e2⟩ := ih h2
      exact ⟨y :: l2, p2.cons y, by rw [List.map_cons, e2, h1]⟩
  | swap x y k =>
    match l, hk with
    | u :: v :: l, hk =>
      rw [List.map_cons, List.map_cons] at hk
      injection hk with h1 h2
      injection h2 with h2 h3
      exact ⟨v :: u :: l, .swap _ _ _, by rw [List.map_cons, List.map_cons, h1, h2, h3]⟩
  | trans _ _ ih1 ih2 =>
    obtain ⟨l2, p2, e2⟩ := ih1 hk
    obtain ⟨l3, p3, e3⟩ := ih2 e2
    exact ⟨l3, p3.trans p2, e3⟩
theorem relayW {o : Obj} (ho : s.heap.get? a = some o) (hex : o.ExactSet) (hd : o.data = .set es ep t) (rows : es.toList.map (·.2) = L.map fun p => Value.ref p.1) (T : TabW t es.size) (hfl : es.size ≤ t.mask) (tup : ∀ p ∈ L, IsK P w s.heap p.2 p.1) (ld : w.params.followText "set-order" = true ∨ t.led = true) (few : es.size < 300) {wanted M : Nat}
    (hw : SetTable.sizeAbove wanted - 1 = M) (hM : Mk5 M) (hw2 : SetTable.sizeAbove wanted ≤ 512) (hn : es.size * 5 < M * 3) {Q : Unit → Shared → Prop} (hQ : ∀ h' L' es' ep' t', Heap.SameBut a s.heap h' → SetW P w h' a L' es' ep' t' → L'.Perm L → Q () { s with heap := h' }) : wpAny (model P w) A (setRelay a wanted) Q E s := by
  obtain ⟨t2, order, e, hp, T2, em, el⟩ := relaid5 t (hs := es.map (·.1)) (wanted := wanted) hw hM (by rw [Array.size_map]; omega)
  rw [Array.size_map] at hp T2
  have pm := rows_perm es order hp
  have sz : (order.filterMap (es[·]?)).size = es.size := by
    have := pm.length_eq
    rw [Array.length_toList, Array.length_toList] at this
    exact this
  obtain ⟨L2, pL, eL⟩ := map_perm_lift (fun p : Addr × List Key => Value.ref p.1) (l := L) (m := (order.filterMap (es[·]?)).toList.map (·.2)) (by rw [← rows]; exact (pm.map (·.2)).symm)
  rw [setRelay_eq]
  refine wpAny_bind (wpAny_setState_of ho hd (fits_w T hfl) ?_)
  dsimp only
  refine wp_if_neg (by rw [sizeLine_eq]; omega) ?_
  try refine wpAny_bind (wpAny_pure ?_)
  rw [e]
  dsimp only
  refine wpAny_bind ?_
  refine wp_if_neg (by rw [sz]; simp) ?_
  try refine wpAny_bind (wpAny_pure ?_)
  refine wpAny_pure ?_
  dsimp only
  refine wpAny_storeSet_of ho hd ?_ (by rw [sz, sizeLine_eq]; omega)
  have sb : Heap.SameBut a s.heap (s.heap.update a (Obj.putSet (order.filterMap (es[·]?)) t2)) := Heap.SameBut.update ..
  refine hQ _ L2 (order.filterMap (es[·]?)) (ep + 1) t2 sb ⟨⟨_, store_at ho hd, ⟨hex.1, hex.2.1, hex.2.2⟩, rfl⟩, eL.symm, by rw [sz]; exact T2, fun p hpm => isK_same (tup p (pL.mem_iff.mp hpm)) ho hd sb, by rw [el]; exact ld, by rw [sz, em]; exact hn, by rw [sz]; exact few⟩ pL
end
end Vw
end
section
/-! Sets of tuples: adding; as tracked things. -/
namespace Vw
open PySem PySem.Spec PyProof.Rows L2 Evl
section
variable {P : Program} {w : World} {A : Around} {E : Value → Shared → Prop} {s : Shared} {a : Addr} {L : List (Addr × List Key)} {es : Array (Int × Value)} {ep : Nat} {t : SetTable}
theorem addW (R : SetW P w s.heap a L es ep t) {x : Addr} {k : List Key} {hx0 : Int} (hx : IsK P w s.heap k x) (hu : A.units < cLine) (hfew : L.length < 290) {Q : Bool → Shared → Prop}
    (hQ : ∀ b h' L' es' ep' t', Heap.SameBut a s.heap h' → SetW P w h' a L' es' ep' t' → ((k ∈ L.map (·.2) ∧ L' = L) ∨ L'.Perm ((x, k) :: L)) → Q b { s with heap := h' }) : wpAny (model P w) A (setAddHashed a (.ref x) hx0) Q E s := by
  obtain ⟨o, ho, hex, hd⟩ := R.ob
  have hsl := R.len
  have room := R.room
  unfold setAddHashed
  refine wpAny_holding ?_
  rw [show (100000 : Nat) = 99999 + 1 from rfl, setAddHashedIn_succ]
  refine wpAny_bind (wpAny_setState_of ho hd R.fits ?_)
  dsimp only
  refine wp_if_neg (by simp [byScan, Value.scannable]) ?_
  try refine wpAny_bind (wpAny_pure ?_)
  refine wpAny_bind (searchW_at R hx hu (fun hm => ?_) fun K hK => ?_)
  · dsimp only
    exact wpAny_pure (hQ false s.heap L es ep t (Heap.SameBut.refl a s.heap) R (.inl ⟨hm, rfl⟩))
  · dsimp only
    refine wpAny_bind (wpAny_setState_of ho hd R.fits ?_)
    dsimp only
    obtain ⟨q1, q2, q3, q4, q5⟩ := R.tab.put hK
    generalize t.put (way t.mask hx0 K) = pt at q1 q2 q3 q4 q5 ⊢
    obtain ⟨t1, p⟩ := pt
    dsimp only at q1 q2 q3 q4 q5 ⊢
    -- the hash's kind: whatever it is
    have go : ∀ b : Bool, wpAny (model P w) A (do
          storeSet a (SetTable.insertAt es p (hx0, Value.ref x)) (if b = true then t1 else { t1 with plain := false })
          if (!false && (if b = true then t1 else { t1 with plain := false }).tooFull) = true then setRelay a (SetTable.grown (es.size + 1))
          return true) Q E s := fun b => by
      obtain ⟨t2, ht2⟩ : ∃ t2, t2 = (if b = true then t1 else { t1 with plain := false }) := ⟨_, rfl⟩
      rw [← ht2]
      have T2 : TabW t2 (es.size + 1) := by
        rw [ht2]
        split
        · exact q2
        · exact ⟨q2.ris, q2.dm, q2.sz, q2.mok⟩
      have m2 : t2.mask = t.mask := by rw [ht2]; split <;> exact q3
      have l2 : t2.led = t.led := by rw [ht2]; split <;> exact q4
      have f2 : t2.fill = es.size + 1 := by rw [ht2]; split <;> exact q5
      clear ht2
      have rows1 : (SetTable.insertAt es p (hx0, Value.ref x)).toList.map (·.2) = (L.take p ++ (x, k) :: L.drop p).map fun q => Value.ref q.1 := by
        rw [rows_ins, R.rows, List.map_append, List.map_cons, List.map_take, List.map_drop]
      have pm : (L.take p ++ (x, k) :: L.drop p).Perm ((x, k) :: L) := put_perm L p (x, k)
      have sz1 : (SetTable.insertAt es p (hx0, Value.ref x)).size = es.size + 1 := by
        have z := congrArg List.length rows1
        rw [List.length_map, List.length_map, Array.length_toList, pm.length_eq, List.length_cons] at z
        omega
      generalize SetTable.insertAt es p (hx0, Value.ref x) = es1 at rows1 sz1 ⊢
      generalize L.take p ++ (x, k) :: L.drop p = L1 at rows1 pm
      rw [← sz1] at T2 f2
      refine wpAny_bind (wpAny_storeSet_of ho hd ?_ (by rw [sz1, sizeLine_eq]; omega))
      have sb : Heap.SameBut a s.heap (s.heap.update a (Obj.putSet es1 t2)) := Heap.SameBut.update ..
      have ho1 := store_at (es' := es1) (t' := t2) ho hd
      generalize s.heap.update a (Obj.putSet es1 t2) = h1 at sb ho1 ⊢
      have tup1 : ∀ q ∈ L1, IsK P w h1 q.2 q.1 := fun q hq => by
        rcases List.mem_cons.mp (pm.mem_iff.mp hq) with e | hq
        · rw [e]
          exact isK_same hx ho hd sb
        · exact isK_same (R.tup q hq) ho hd sb
      have led1 : w.params.followText "set-order" = true ∨ t2.led = true := by rw [l2]; exact R.led
      by_cases hf : t2.tooFull = true
      · have full : (es.size + 1) * 5 ≥ t.mask * 3 := by
          have z := hf
          unfold SetTable.tooFull at z
          rw [decide_eq_true_eq, f2, sz1, m2] at z
          exact z
        have three : (t.mask = 7 ∧ es.size = 4) ∨ (t.mask = 31 ∧ es.size = 18) ∨ (t.mask = 127 ∧ es.size = 76) := by
          rcases R.tab.mok with e | e | e | e <;> omega
        have big : ∀ M, SetTable.sizeAbove (SetTable.grown (es.size + 1)) - 1 = M → Mk5 M → SetTable.sizeAbove (SetTable.grown (es.size + 1)) ≤ 512 → (es.size + 1) * 5 < M * 3 → wpAny (model P w) A (setRelay a (SetTable.grown (es.size + 1))) (fun _ s' => wpAny (model P w) A (pure true) Q E s') E { s with heap := h1 } := fun M g1 g2 g3 g4 => by
          refine relayW (s := { s with heap := h1 }) ho1 ⟨hex.1, hex.2.1, hex.2.2⟩ rfl rows1 T2 (by rw [sz1, m2]; omega) tup1 led1 (by omega) g1 g2 g3 (by rw [sz1]; exact g4) ?_
          intro h2 L2 es2 ep2 t3 sb2 R2 pm2
          exact wpAny_pure (hQ true h2 L2 es2 ep2 t3 (sb.trans sb2) R2 (.inr (pm2.trans pm)))
        first
          | (refine wpAny_bind ?_; refine wp_if_pos (by simp [hf]) ?_)
          | (refine wp_if_pos (by simp [hf]) ?_; refine wpAny_bind ?_)
        rcases three with ⟨_, e2⟩ | ⟨_, e2⟩ | ⟨_, e2⟩
        · exact big 31 (by rw [e2, size_20]) (.inr (.inl rfl)) (by rw [e2, size_20]; decide) (by omega)
        · exact big 127 (by rw [e2, size_76]) (.inr (.inr (.inl rfl))) (by rw [e2, size_76]; decide) (by omega)
        · exact big 511 (by rw [e2, size5_512]) (.inr (.inr (.inr rfl))) (by rw [e2, size5_512]; decide) (by omega)
      · have nofull : (es.size + 1) * 5 < t.mask * 3 := by
          have z := hf
          unfold SetTable.tooFull at z
          rw [decide_eq_true_eq, f2, sz1, m2] at z
          omega
        first
          | refine wp_if_neg (by simp [hf]) ?_
          | (refine wpAny_bind ?_; refine wp_if_neg (by simp [hf]) ?_; refine wpAny_pure ?_)
        exact wpAny_pure (hQ true h1 L1 es1 (ep + 1) t2 sb ⟨⟨_, ho1, ⟨hex.1, hex.2.1, hex.2.2⟩, rfl⟩, rows1, T2, tup1, led1, by rw [sz1, m2]; exact nofull, by rw [sz1]; omega⟩ (.inr pm))
    by_cases hp1 : t1.plain = true
    · first
        | (refine wpAny_bind ?_; refine wp_if_pos hp1 ?_; refine byVal_tup hx fun b => ?_)
        | refine wp_if_pos hp1 (wpAny_bind (byVal_tup hx fun b => ?_))
      exact go b
    · first
        | (refine wpAny_bind ?_; refine wp_if_neg hp1 ?_; refine wpAny_pure ?_)
        | refine wp_if_neg hp1 (wpAny_bind (wpAny_pure ?_))
      exact go true
/-- set.add(a, x) -/
theorem callAddW (R : SetW P w s.heap a L es ep t) {x : Addr} {k : List Key} (hx : IsK P w s.heap k x) (hu : A.units + 8 < cLine) (hfew : L.length < 290) {Q : Value → Shared → Prop}
    (hQ : ∀ h' tk L' es' ep' t', Heap.SameBut a s.heap h' → SetW P w h' a L' es' ep' t' → ((k ∈ L.map (·.2) ∧ L' = L) ∨ L'.Perm ((x, k) :: L)) → Q .none { s with heap := h', toks := tk }) : wpAny (model P w) A (call (.builtin "set.add") [.ref a, .ref x]) Q E s := by
  have ty : s.TypeIs (.ref a) "set" := by
    obtain ⟨o, ho, hex, _⟩ := R.ob
    exact ⟨o, ho, hex.1⟩
  refine wpAny_call_entry F.slot_set_add ty F.entry_set_add ?_ (F.args_set_add_2 _ _)
  unfold Builtin.«set.add» Builtin.Frozenset.oneOther
  simp only [List.isEmpty_nil, bind_assoc]
  unfold Builtin.Frozenset.addrOf setAdd
  refine wpAny_bind (wpAny_pure ?_)
  try dsimp only
  refine wpAny_bind (wpAny_pure ?_)
  try dsimp only
  refine wpAny_bind ?_
  refine wpAny_holding ?_
  have hu1 : A.in1.units < cLine := by
    show A.units + 1 < cLine
    omega
  have hu0 : A.units < cLine := by omega
  refine wpAny_bind (wpAny_pyHash_tuple (by first | exact hu1 | exact hu0) hx ?_)
  refine addW (s := { s with toks := s.toks + (k.length + 1) }) R hx (by first | exact hu1 | exact hu0) hfew fun b h' L' es' ep' t' sb R' g => ?_
  show wpAny _ _ (ret Value.none) _ _ _
  exact wpAny_pure ⟨_, rfl, hQ h' _ L' es' ep' t' sb R' g⟩
end
end Vw
end
section
set_option maxHeartbeats 2000000
/-! Sets of tuples as tracked things; the comprehension. -/
namespace Vw
open PySem PySem.Spec PyProof.Rows L2 Evl PpSet
/-- the set at a, without the tuples themselves -/
def SetW0 (w : World) (h : Heap) (a : Addr) (L : List Addr) : Prop := ∃ (es : Array (Int × Value)) (ep : Nat) (t : SetTable), (∃ o, h.get? a = some o ∧ o.ExactSet ∧ o.data = .set es ep t) ∧ es.toList.map (·.2) = L.map Value.ref ∧ TabW t es.size ∧ (w.params.followText "set-order" = true ∨ t.led = true) ∧ es.size * 5 < t.mask * 3 ∧ es.size < 300
def SetWO (w : World) (a : Addr) (L : List Addr) : HO := .ext fun h => SetW0 w h a L
theorem setWO_new {w : World} {P : Program} {H : Hp} {h : Heap} {a : Addr} {L : List Addr} (R : SetW0 w h a L) : ObjOk P w H h a (SetWO w a L) := by
  have ⟨es, ep, t, ⟨o, ho, r⟩, q⟩ := R
  refine ⟨R, ⟨o, ho⟩, fun h1 h2 p k => ?_⟩
  have ⟨es', ep', t', ⟨o', ho', r'⟩, q'⟩ := (show SetW0 w h1 a L from p)
  exact ⟨es', ep', t', ⟨o', k o' ho', r'⟩, q'⟩
theorem setW_fresh {h : Heap} (w : World) : SetW0 w (h.push { cls := .type "set", dict := none, data := .set #[] 0 (.fresh 0 0 (!w.params.followText "set-order")) }) h.objs.size [] :=
  ⟨#[], 0, _, ⟨_, Heap.get?_push_size _ rfl, ⟨rfl, rfl, rfl⟩, rfl⟩, rfl, ⟨List.Pairwise.nil, rfl, rfl, .inl rfl⟩, by
    show _ ∨ (!w.params.followText "set-order") = true
    cases w.params.followText "set-order"
    · exact .inr rfl
    · exact .inl rfl, by show 0 * 5 < 7 * 3; decide, by show 0 < 300; decide⟩
section
variable {X : Cx}
theorem setW_get {pins : List (Addr × Obj)} {σ : L2.St} {H : Hp} {s : Shared} {a : Addr} {L : List (Addr × List Key)} (I : Inv X pins σ H s) (ha : H a = some (SetWO X.w a (L.map (·.1)))) (hL : ∀ p ∈ L, H p.1 = some (.tup (p.2.map kV))) : ∃ es ep t, SetW X.prog X.w s.heap a L es ep t := by
  obtain ⟨es, ep, t, ob, rows, tab, led, room, few⟩ := (show SetW0 X.w s.heap a (L.map (·.1)) from (I.hok a _ ha).1)
  exact ⟨es, ep, t, ob, by rw [rows, List.map_map]; rfl, tab, fun p hp => key_of I.hok (hL p hp), led, room, few⟩
theorem addW_ok {pins : List (Addr × Obj)} {σ : L2.St} {H : Hp} {s : Shared} {E : Value → Shared → Prop} {D x : Addr} {k : List Key} {L : List (Addr × List Key)} {Q : Value → Shared → Prop} (I : Inv X pins σ H s) (hD : H D = some (SetWO X.w D (L.map (·.1)))) (hL : ∀ p ∈ L, H p.1 = some (.tup (p.2.map kV))) (hx : H x = some (.tup (k.map kV))) (hu : X.A.units + 64 < cLine) (room : L.length < 290)
    (h : ∀ L' s', ((k ∈ L.map (·.2) ∧ L' = L) ∨ L'.Perm ((x, k) :: L)) → Inv X pins σ (upd H D (SetWO X.w D (L'.map (·.1)))) s' → Q .none s') : wpAny (model X.prog X.w) X.A (call (.builtin "set.add") [.ref D, .ref x]) Q E s := by
  obtain ⟨es, ep, t, R⟩ := setW_get I hD hL
  refine callAddW R (key_of I.hok hx) (by omega) room fun h' tk L' es' ep' t' sb R' g => ?_
  have he : ∃ u, h'.get? D = some u := by
    obtain ⟨o, ho, _⟩ := R'.ob
    exact ⟨o, ho⟩
  have new : SetW0 X.w h' D (L'.map (·.1)) := ⟨es', ep', t', R'.ob, by rw [R'.rows, List.map_map]; rfl, R'.tab, R'.led, R'.room, R'.few⟩
  exact h L' _ g (I.write (e := D) (t' := tk) (by rw [hD]; trivial) (.inl rfl) (fun b u hb hu => (sb.2 b hb).trans hu) he (setWO_new new))
/-- {e for tg in it if ..}, e a tuple of ints and texts: D the new set -/
def tScW (w : World) (wi : TI) (g : TG) (tt : TT) (te : TE) (vs : List Nat) : TE := fun σ H Q => wi σ H fun J H1 => ∀ D, H1 D = none → ∃ W : Nat → Nat → Hp → Prop, (∃ m, W 0 m (upd H1 D (SetWO w D []))) ∧ ∀ i m H, W i m H →
  (J.stop i H ∧ Q (.ref D) H) ∨ (J.go i H ∧ ∃ Nx : Hp → Prop, (∀ H', Nx H' → ∃ m', m' < m ∧ W (i + 1) m' H') ∧ ∀ x H', J.yld i H x H' → g x (wipe σ vs) H' fun σ2 H2 => wipe σ2 vs = wipe σ vs ∧ tt σ2 H2 fun b H3 =>
    if b = true then te σ2 H3 fun y H4 => ∃ (b : Addr) (k : List Key) (L : List (Addr × List Key)), y = .ref b ∧ H4 b = some (.tup (k.map kV)) ∧ H4 D = some (SetWO w D (L.map (·.1))) ∧ (∀ p ∈ L, H4 p.1 = some (.tup (p.2.map kV))) ∧ L.length < 290 ∧
      ∀ L', ((k ∈ L.map (·.2) ∧ L' = L) ∨ L'.Perm ((b, k) :: L)) → Nx (upd H4 D (SetWO w D (L'.map (·.1)))) else Nx H3)
theorem scW_core {pns : List (Addr × Obj)} {s : Shared} {σ : L2.St} {H : Hp} {Q : VK} {elm tg itr : Expr} {tests : List Expr} {scp : Scope} {ownn : List (PySem.Str × Nat)} {pos pos' : Pos} {wi : TI} {g : TG} {tt : TT} {te : TE} {useO : Option (Value → Sem Unit)} {Qe : Value → Shared → Prop}
    (hc : X.calm = true) (hu : X.A.units + 64 < cLine) (hN : X.N.Nodup) (I : Inv X pns σ H s) (hi : PI X tg itr wi) (ok : BlkOk X.N X.env.scope scp ownn)
    (hg : ∀ (s : Shared) (H : Hp) (C : Addr) (cl : List (PySem.Str × Addr)) (fp : List Addr), PG (X.blk s H scp (compEnvC scp cl C X.env) fp) tg g) (ht : ∀ (s : Shared) (H : Hp) (C : Addr) (cl : List (PySem.Str × Addr)) (fp : List Addr), PTs (X.blk s H scp (compEnvC scp cl C X.env) fp) tests tt)
    (he : ∀ (s : Shared) (H : Hp) (C : Addr) (cl : List (PySem.Str × Addr)) (fp : List Addr), PE (X.blk s H scp (compEnvC scp cl C X.env) fp) elm te) (hs : ∀ x, foldedSetIterable itr X.env x = pure x)
    (h : tScW X.w wi g tt te (ownn.map (·.2)) σ H Q)
    (hAll : ∀ D C s' m H', Inv X pns σ H' s' → Q (.ref D) H' → s'.heap.Ns C m → FpOk X pns H' C → compPost (model X.prog X.w) X.A X.xe useO Qe (.ref D) C (.ok .next) s') :
    wpAny (model X.prog X.w) X.A (comprehension (.SetComp elm [⟨tg, itr, tests, 0⟩] scp pos) scp X.env pos' (newSet (.type "set")) false (eval itr X.env) useO) Qe X.xe s := by
  have free0 : ∀ y ∈ scp.names, y.2 = .free → ∃ c, X.env.cells.lookup y.1 = some c := fun y hy e => by
    rcases ok.free y hy e with k | k
    · exact I.ok.has _ (.inl k)
    · exact I.ok.has _ (.inr k)
  refine wpAny_comprehension_free (use := useO) rfl hs (closure_ok free0) ok.kind (fun y hy e => by rw [ok.uniq y hy, e])
    (thn (hi.run pns s σ H _ I h) fun xv s1 hx => thn hx fun itv u2 h2 => ?_)
  obtain ⟨it, fp, tn, J, G2, e, U2, T, tz2, ff2, q⟩ := h2
  subst e
  refine newSet_ok (newEnv_comp ?_)
  generalize hD : u2.heap.objs.size = D
  have hDn : G2 D = none := U2.hok.fresh (Nat.le_of_eq hD)
  obtain ⟨W, ⟨mm0, ww0⟩, turns⟩ := q D hDn
  -- the new list
  generalize hes3 : ({ u2 with heap := u2.heap.push { cls := .type "set", dict := none, data := .set #[] 0 (.fresh 0 0 (!X.w.params.followText "set-order")) } } : Shared) = u3
  have U3 : Inv X pns σ (upd G2 D (SetWO X.w D [])) u3 := by
    rw [← hes3]
    refine U2.laid (t' := u2.toks) (fun b o e => Heap.get?_push_of_some _ e) (Nat.le_of_eq hD) ?_
    rw [← hD]
    exact setWO_new (setW_fresh X.w)
  have hh3 : u3.heap = u2.heap.push { cls := .type "set", dict := none, data := .set #[] 0 (.fresh 0 0 (!X.w.params.followText "set-order")) } := by rw [← hes3]
  have szz : ∀ b ∈ fp, b < u2.heap.objs.size := fun b hbb => by
    obtain ⟨o, e, _⟩ := T.obj _ _ tz2 b hbb
    exact Heap.lt_size e
  have ff3 : ∀ b ∈ fp, FpOk X pns (upd G2 D (SetWO X.w D [])) b ∧ b < u3.heap.objs.size := fun b hbb => by
    have hltt := szz b hbb
    refine ⟨⟨?_, (ff2 b hbb).2⟩, by rw [hh3, Heap.size_push]; exact Nat.lt_succ_of_lt hltt⟩
    rw [upd_ne (by rw [← hD]; exact Nat.ne_of_lt hltt)]
    exact (ff2 b hbb).1
  have tz3 : tn 0 u3.heap := T.keep _ _ _ tz2 fun b _ o e => by rw [hh3]; exact Heap.get?_push_of_some _ e
  have U4 := block_start U3 ok hN ff3
  have pgg := hg u3 (upd G2 D (SetWO X.w D [])) u3.heap.objs.size (cellsFrom (u3.heap.objs.size + 1) scp.names (cloFrom X.env.cells scp.names [])) fp
  have ptt := ht u3 (upd G2 D (SetWO X.w D [])) u3.heap.objs.size (cellsFrom (u3.heap.objs.size + 1) scp.names (cloFrom X.env.cells scp.names [])) fp
  have pee := he u3 (upd G2 D (SetWO X.w D [])) u3.heap.objs.size (cellsFrom (u3.heap.objs.size + 1) scp.names (cloFrom X.env.cells scp.names [])) fp
  show codeAny _ _ (.compStart (.SetComp elm [⟨tg, itr, tests, 0⟩] scp pos) 0 (.ref it) (.ref D) (compEnvC scp (cellsFrom (u3.heap.objs.size + 1) scp.names (cloFrom X.env.cells scp.names [])) u3.heap.objs.size X.env)) (compPost (model X.prog X.w) X.A X.xe useO Qe (.ref D) u3.heap.objs.size) { u3 with heap := pushCells (u3.heap.push { cls := .type "dict", data := .dict #[] }) scp.names }
  have nofp : ∀ b ∈ fp, (upd G2 D (SetWO X.w D [])) b = none := fun b hbb => (ff3 b hbb).1.1
  generalize hEnv : compEnvC scp (cellsFrom (u3.heap.objs.size + 1) scp.names (cloFrom X.env.cells scp.names [])) u3.heap.objs.size X.env = cenv at U4 pgg ptt pee ⊢
  have envL : cenv.locals = u3.heap.objs.size := by subst hEnv; rfl
  generalize heG3 : upd G2 D (SetWO X.w D []) = G3 at U3 U4 pgg ptt pee ww0 nofp ff3
  generalize hes4 : ({ u3 with heap := pushCells (u3.heap.push { cls := .type "dict", data := .dict #[] }) scp.names } : Shared) = u4 at U4 ⊢
  have tz4 : tn 0 u4.heap := T.keep _ _ _ tz3 fun b _ o e => by rw [← hes4]; exact pushCells_keeps _ _ _ _ (Heap.get?_push_of_some _ e)
  have inBlk : ∀ {σ' : L2.St} {H' : Hp} {s' : Shared}, Inv (X.blk u3 G3 scp cenv fp) [] σ' H' s' → (∀ b ∈ fp, H' b = none) → ∀ b ∈ fp, FpOk (X.blk u3 G3 scp cenv fp) [] H' b := fun {σ' H' s'} I' hns b hbb =>
    ⟨hns b hbb, (I'.ok.exf b hbb).1, I'.ok.exfs b hbb, .inl hbb, fun x c e => (I'.ok.exf b hbb).2 x c e, fun p hp => absurd (show p ∈ ([] : List (Addr × Obj)) ++ [] from hp) (by simp)⟩
  have walk : codeAny (model X.prog X.w) X.A (.compLoop (.SetComp elm [⟨tg, itr, tests, 0⟩] scp pos) 0 (.ref it) (.ref D) cenv) (compPost (model X.prog X.w) X.A X.xe useO Qe (.ref D) u3.heap.objs.size) u4 := by
    refine compLoopS_any (fun n s' => ∃ i H', Inv (X.blk u3 G3 scp cenv fp) [] (wipe σ (ownn.map (·.2))) H' s' ∧ tn i s'.heap ∧ (∀ b ∈ fp, H' b = none) ∧ W i n H') ?_ mm0 ⟨0, G3, U4, tz4, nofp, ww0⟩
    rintro n u5 ⟨i, G5, U5, tz5, nn5, ww5⟩
    rcases turns i n G5 ww5 with ⟨stopp, qq⟩ | ⟨gone, Nxt, hNxt, stepp⟩
    · have tDone := T.done (X.blk u3 G3 scp cenv fp) rfl rfl rfl hc i [] u5 _ G5 (fun _ _ => False) U5 (inBlk U5 nn5) tz5 stopp
      refine thnF tDone fun r u6 ⟨hr, U6⟩ => ?_
      subst hr
      -- back in the def's context
      have U7 : Inv X pns σ G5 u6 := U3.call' (ch := fp) U6.os U6.base U6.hok U6.bare fun b hbb => ⟨(ff3 b hbb).1.2.2.2.1, (ff3 b hbb).1.2.1, (ff3 b hbb).1.2.2.2.2.1, (ff3 b hbb).1.2.2.2.2.2⟩
      have noC : G5 u3.heap.objs.size = none := by
        have z : G5 cenv.locals = none := U6.free
        rw [envL] at z
        exact z
      obtain ⟨m, hns, _⟩ := U6.loc
      have hns : u6.heap.Ns cenv.locals m := hns
      rw [envL] at hns
      exact hAll D u3.heap.objs.size u6 m G5 U7 qq hns (U3.fpOk (Nat.le_refl _) noC)
    · have tItem := T.item (X.blk u3 G3 scp cenv fp) rfl rfl rfl hc i [] u5 _ G5 (fun _ _ => False) U5 (inBlk U5 nn5) tz5 gone
      refine thnF tItem fun r u6 ⟨u, hr, h6⟩ => ?_
      subst hr
      refine thnF h6 fun _ u7 ⟨x, G7, U7, rr7, yy7, tz7, nn7⟩ => ?_
      have I7' := U7.pinned (inBlk U7 nn7) (T.obj _ _ tz7)
      refine thnF (pgg.run _ u7 _ G7 x u _ I7' rr7 (stepp x G7 yy7)) fun _ u8 ⟨σ8, G8, U8, hww8, qq8⟩ => ?_
      refine thnF (ptt.run _ u8 σ8 G8 _ U8 qq8) fun b u9 ⟨G9, U9, qq9⟩ => ?_
      -- the turn's end
      have turnEnd : ∀ {s' : Shared} {H' : Hp}, Inv (X.blk u3 G3 scp cenv fp) ([] ++ pinsAt fp u7.heap) σ8 H' s' → Nxt H' → ∃ m, m < n ∧ ∃ i H', Inv (X.blk u3 G3 scp cenv fp) [] (wipe σ (ownn.map (·.2))) H' s' ∧ tn i s'.heap ∧ (∀ b ∈ fp, H' b = none) ∧ W i m H' := fun {s' H'} I' nx => by
        obtain ⟨m', hm, w'⟩ := hNxt H' nx
        have pinn : ∀ b ∈ fp, ∀ o, u7.heap.get? b = some o → s'.heap.get? b = some o ∧ H' b = none := fun b hbb o e =>
          let z := I'.pin (b, o) (List.mem_append_right _ (List.mem_append_right _ (mem_pinsAt hbb e)))
          ⟨z.1, z.2.1⟩
        have hl : (wipe σ (ownn.map (·.2))).length = σ8.length := by rw [← hww8, wipe_length]
        refine ⟨m', hm, i + 1, H', (I'.unpinned (pins := [])).weak hl (fun j v e => ?_), T.keep _ _ _ tz7 fun b hbb o e => (pinn b hbb o e).1, fun b hbb => ?_, w'⟩
        · rw [← hww8] at e
          exact (wipe_some e).1
        · obtain ⟨o, e, _⟩ := T.obj _ _ tz7 b hbb
          exact (pinn b hbb o e).2
      cases b with
      | false =>
        simp only [Bool.false_eq_true, if_false] at qq9 ⊢
        exact turnEnd U9 qq9
      | true =>
        simp only [if_true] at qq9 ⊢
        refine thnF (pee.run _ u9 σ8 G9 _ U9 qq9) fun z u10 ⟨yv, G10, U10, r10, bb, kk, LL, ey, hb10, hD10, hL10, hz10, nx⟩ => ?_
        subst ey
        cases (show z = Value.ref bb from r10)
        exact addW_ok (X := X.blk u3 G3 scp cenv fp) U10 hD10 hL10 hb10 hu hz10 fun L' u11 hl U11 => turnEnd U11 (nx L' hl)
  exact codeAny_compStart_set walk (T.self X.A 0 _ _ _ tz4 walk)
/-- as a value -/
theorem pe_scW {elm tg itr : Expr} {tests : List Expr} {scp : Scope} {ownn : List (PySem.Str × Nat)} {pos : Pos} {wi : TI} {g : TG} {tt : TT} {te : TE} (hc : X.calm = true) (hu : X.A.units + 64 < cLine) (hN : X.N.Nodup) (hi : PI X tg itr wi) (ok : BlkOk X.N X.env.scope scp ownn)
    (hg : ∀ (s : Shared) (H : Hp) (C : Addr) (cl : List (PySem.Str × Addr)) (fp : List Addr), PG (X.blk s H scp (compEnvC scp cl C X.env) fp) tg g) (ht : ∀ (s : Shared) (H : Hp) (C : Addr) (cl : List (PySem.Str × Addr)) (fp : List Addr), PTs (X.blk s H scp (compEnvC scp cl C X.env) fp) tests tt)
    (he : ∀ (s : Shared) (H : Hp) (C : Addr) (cl : List (PySem.Str × Addr)) (fp : List Addr), PE (X.blk s H scp (compEnvC scp cl C X.env) fp) elm te) (hs : ∀ x, foldedSetIterable itr X.env x = pure x := by intro _; rfl) :
    PE X (.SetComp elm [⟨tg, itr, tests, 0⟩] scp pos) (tScW X.w wi g tt te (ownn.map (·.2))) := by
  refine ⟨fun pns s σ H Q I h => ?_⟩
  rw [eval_SetComp]
  refine scW_core hc hu hN I hi ok hg ht he hs h fun D C s' m H' I' q hns f => ⟨m, hns, fun h'' sb => ?_⟩
  obtain ⟨f0, f1, ff2, ff3, f4, f5⟩ := f
  exact ⟨.ref D, H', I'.turned (t' := s'.toks) (fun b o hbb e => (sb.2 b hbb).trans e) f0 f1 ff3 f4 f5, rfl, q⟩
end
end Vw
end
section
/-! sorted(a set of tuples). -/
namespace Vw
open PySem PySem.Spec PyProof.Rows L2 Evl
open PySem.W (AllAlike Sortable EachIs dataLe list_sort_data)
def keyD : Key → PyData
  | .inl i => .int i
  | .inr x => .str x
theorem reads_items {P : Program} {w : World} {h : Heap} {k : List Key} {vs : List Value} (x : ItemsAre (mixKind P w) k vs) : ReadsAll h vs (k.map keyD) [] := by
  induction x with
  | nil => exact .nil
  | cons q _ ih =>
    rcases keyIs_shape q with ⟨i, t, e1, e2⟩ | ⟨y, t, e1, e2⟩
    · subst e1 e2
      exact .cons (as := []) (.int i t) ih
    · subst e1 e2
      exact .cons (as := []) (.str y t) ih
theorem reads_isK {P : Program} {w : World} {h : Heap} {k : List Key} {a : Addr} (x : IsK P w h k a) : Reads h (.ref a) (.tuple (k.map keyD)) [] := by
  obtain ⟨o, its, n, ho, hc, hd, hi⟩ := x
  exact .tuple ho hc hd (reads_items hi)
theorem isK_keep {P : Program} {w : World} {h h' : Heap} {k : List Key} {b : Addr} (x : IsK P w h k b) (hk : ∀ c o, h.get? c = some o → h'.get? c = some o) : IsK P w h' k b := by
  obtain ⟨o, its, n, ho, r⟩ := x
  exact ⟨o, its, n, hk _ _ ho, r⟩
section
variable {P : Program} {w : World} {A : Around} {E : Value → Shared → Prop} {s : Shared}
theorem sortedW {a : Addr} {L : List (Addr × List Key)} {es : Array (Int × Value)} {ep : Nat} {t : SetTable} {Q : Value → Shared → Prop} (R : SetW P w s.heap a L es ep t) (hh : A.handled = none) (hu : A.units + 32 < cLine) (al : AllAlike (L.map fun p => .tuple (p.2.map keyD))) (so : Sortable (L.map fun p => .tuple (p.2.map keyD)))
    (dp : ∀ p ∈ L, (PyData.tuple (p.2.map keyD)).depth ≤ 10)
    (hQ : ∀ s' p (out : Array Value) (c : Nat) (L' : List (Addr × List Key)), (∀ b o, s.heap.get? b = some o → s'.heap.get? b = some o) → s'.gens = s.gens → s'.os = s.os → s.heap.objs.size ≤ p → s'.heap.get? p = some (seqObj "list" out c) → out.toList = L'.map (fun q => Value.ref q.1) → L'.Perm L → Q (.ref p) s') :
    wpAny (model P w) A (call (.builtin "sorted") [.ref a]) Q E s := by
  obtain ⟨o, ho, hex, hd⟩ := R.ob
  have few := R.few
  refine Calls.call_function_entry kind_sorted plain_sorted entry_sorted (args_sorted1 _) ?_
  unfold Builtin.«sorted»
  refine wpAny_bind (m := checkCount "sorted" 1 1 _) (wpAny_pure ?_)
  refine wpAny_bind (collect_set (A := A.in1) hh ⟨o, ho, hex.1, hd⟩ R.fits (by unfold scanBound; omega) R.tab.ris R.led fun s1 vs k1 hz g1 o1 pm => ?_)
  rw [R.rows] at pm
  obtain ⟨L1, pL1, eL1⟩ := map_perm_lift (fun p : Addr × List Key => Value.ref p.1) pm.symm
  have lv : vs.length = es.size := by rw [pm.length_eq, List.length_map, R.len]
  refine wpAny_bind (wpAny_newList ?_ (by rw [sizeLine_eq]; omega))
  have at0 : (s1.heap.push (seqObj "list" vs.toArray 0)).get? s1.heap.objs.size = some (seqObj "list" vs.toArray 0) := Heap.get?_push_size _ rfl
  obtain ⟨bs, hbs⟩ : ∃ bs : List (Value × Addr × List Key), bs = L1.map fun p => (Value.ref p.1, p) := ⟨_, rfl⟩
  have b1 : bs.map (·.1) = vs := by rw [hbs, List.map_map, ← eL1]; rfl
  have b2 : bs.map (·.2) = L1 := by rw [hbs, List.map_map]; exact List.map_id' L1
  have pb : (bs.map (·.2)).Perm L := by rw [b2]; exact pL1
  have e1 : EachIs (fun (v : Value) (b : Value × Addr × List Key) => v = b.1) vs bs := by
    rw [← b1]
    exact each_self fun b _ => rfl
  have e2 : EachIs (fun (v : Value) (b : Value × Addr × List Key) => ∃ as, Reads (s1.heap.push (seqObj "list" vs.toArray 0)) v (.tuple (b.2.2.map keyD)) as ∧ s1.heap.objs.size ∉ as) vs bs := by
    rw [← b1]
    refine each_self fun b hb => ⟨[], ?_, fun z => nomatch z⟩
    rw [hbs] at hb
    obtain ⟨p, hp, rfl⟩ := List.mem_map.mp hb
    rw [b1]
    exact reads_isK (isK_keep (R.tup p (pL1.mem_iff.mp hp)) fun c u z => Heap.get?_push_of_some _ (k1 c u z))
  have pd : (bs.map fun b => PyData.tuple (b.2.2.map keyD)).Perm (L.map fun p => PyData.tuple (p.2.map keyD)) := by
    have z := pb.map fun p => PyData.tuple (p.2.map keyD)
    rw [List.map_map] at z
    exact z
  have hu2 : A.in1.units + 20 < cLine := by
    show A.units + 1 + 20 < cLine
    omega
  refine wpAny_bind (wpAny_holding (list_sort_data (s := { s1 with heap := s1.heap.push (seqObj "list" vs.toArray 0) }) (enc := fun b : Value × Addr × List Key => .tuple (b.2.2.map keyD)) at0 e1 e2 (fun d h1 d' h2 => al d (pd.mem_iff.mp h1) d' (pd.mem_iff.mp h2)) (so.imp (fun z d hd => z d (pd.mem_iff.mp hd)) fun z d hd => z d (pd.mem_iff.mp hd))
    (by rw [← List.length_map (f := (·.1)), b1, lv, sizeLine_eq]; omega) (fun b hb => ?_) fun out hlo eo => ?_))
  · have : (PyData.tuple (b.2.2.map keyD)).depth ≤ 10 := dp b.2 (pb.mem_iff.mp (List.mem_map.mpr ⟨b, hb, rfl⟩))
    omega
  · have pc : (bs.mergeSort (dataLe false fun b : Value × Addr × List Key => .tuple (b.2.2.map keyD))).Perm bs := List.mergeSort_perm _ _
    generalize bs.mergeSort (dataLe false fun b : Value × Addr × List Key => .tuple (b.2.2.map keyD)) = cs at eo pc
    have eout := each_eq eo
    obtain ⟨c, hc⟩ := sortedHeap_at (vs := vs) (out := List.toArray out) at0
    have shape : ∀ b ∈ cs, b.1 = Value.ref b.2.1 := fun b hb => by
      have z := pc.mem_iff.mp hb
      rw [hbs] at z
      obtain ⟨p, _, rfl⟩ := List.mem_map.mp z
      rfl
    refine wpAny_pure ⟨_, rfl, hQ _ s1.heap.objs.size (List.toArray out) c (cs.map (·.2)) (fun b u e => ?_) g1 o1 hz hc ?_ ((pc.map _).trans pb)⟩
    · have q := k1 b u e
      have lt := Heap.lt_size q
      show (sortedHeap (s1.heap.push (seqObj "list" vs.toArray 0)) s1.heap.objs.size vs (List.toArray out)).get? b = some u
      rw [sortedHeap_old (Nat.ne_of_lt lt) (by rw [size_push']; exact Nat.lt_succ_of_lt lt)]
      exact Heap.get?_push_of_some _ q
    · show out = _
      rw [eout, List.map_map]
      exact List.map_congr_left fun b hb => shape b hb
end
/-- sorted(set) -/
def rSortedW (w : World) : List V → Hp → VK → Prop := fun vs H Q => ∃ (a : Addr) (L : List (Addr × List Key)), vs = [V.ref a] ∧ H a = some (SetWO w a (L.map (·.1))) ∧ (∀ p ∈ L, H p.1 = some (.tup (p.2.map kV))) ∧ AllAlike (L.map fun p => .tuple (p.2.map keyD)) ∧ Sortable (L.map fun p => .tuple (p.2.map keyD)) ∧ (∀ p ∈ L, (PyData.tuple (p.2.map keyD)).depth ≤ 10) ∧
  ∀ (L' : List (Addr × List Key)) (p : Addr), L'.Perm L → L'.length < 300 → H p = none → Q (.ref p) (upd H p (.lst (L'.map fun q => V.ref q.1)))
theorem vals_refsW : ∀ (L : List (Addr × List Key)), Vals (L.map fun p => V.ref p.1) (L.map fun p => Value.ref p.1)
  | [] => .nil
  | p :: L => .cons rfl (vals_refsW L)
theorem cr_sortedW {X : Cx} (hc : X.calm = true) (hu : X.A.units + 64 < cLine) : CallR X (.builtin "sorted") (rSortedW X.w) := by
  intro pins s σ H vs us Q I r h
  obtain ⟨a, L, rfl, ha, hL, al, so, dp, q⟩ := h
  obtain ⟨es, ep, t, R⟩ := setW_get I ha hL
  rw [Vals.ref1 r]
  refine sortedW R (I.ok.hd hc) (by omega) al so dp fun s' p out c L' k g o hp hg hout pm => ?_
  have len : L'.length < 300 := by rw [pm.length_eq, ← R.len]; exact R.few
  have hl : (L'.map fun q => V.ref q.1).length ≤ sizeLine := by rw [List.length_map, sizeLine_eq]; omega
  have hn : H p = none := I.hok.fresh hp
  have hv : Vals (L'.map fun q => V.ref q.1) out.toList := by rw [hout]; exact vals_refsW L'
  have J : Inv X pins σ (upd H p (.lst (L'.map fun q => V.ref q.1))) { s with heap := s'.heap, gens := s'.gens, drawn := s'.drawn, toks := s'.toks } := I.call (ch := []) (Un.laid k hp hn) (I.hok.laid k hp ⟨hl, out.toList, c, hv, hg⟩) (by rw [g]; exact I.bare) (fun _ z => nomatch z)
  have e : s' = { s with heap := s'.heap, gens := s'.gens, drawn := s'.drawn, toks := s'.toks } := by
    cases s'
    cases s
    cases o
    rfl
  rw [e]
  exact ⟨.ref p, _, J, rfl, q L' p pm len hn⟩
end Vw
end
section
/-! Rules: set comprehensions of tuples, walks over a locked dict, != of data. -/
namespace Vw
open PySem PySem.Spec PyProof.Rows L2 Evl
theorem kl_tup {H H' : Hp} (e : Kt H H') {p : Addr} {k : List Key} (h : H p = some (.tup (k.map kV))) : H' p = some (.tup (k.map kV)) := e _ _ h
/-- a set whose keys are those of ks -/
def SetP (w : World) (ks : List (List Key)) : VPd := fun v H' => ∃ (D : Addr) (L : List (Addr × List Key)), v = .ref D ∧ H' D = some (SetWO w D (L.map (·.1))) ∧ (∀ p ∈ L, H' p.1 = some (.tup (p.2.map kV))) ∧ (∀ p ∈ L, p.2 ∈ ks) ∧ ∀ k ∈ ks, k ∈ L.map (·.2)
section
variable {X : Cx} {σ : L2.St} {H H' : Hp} {tg iter elt a b e o i : Expr} {pos p1 p2 : Pos} {scope : Scope} {v x y : V} {P P0 : VPd}
/-- {x for x in xs}, xs a list of tuples with the keys ks -/
theorem vp_sc {nm : Str} (j : Nat) {ks : List (List Key)} (hu : X.A.units + 64 < cLine) (hN : X.N.Nodup) (ok : BlkOk X.N X.env.scope scope [(nm, j)]) (hi : VP X σ H iter (LstP X.K ks.length fun i v H' => ∃ k, ks[i]? = some k ∧ ∃ b, v = .ref b ∧ H' b = some (.tup (k.map kV)))) (hz : ks.length ≤ 289)
    (hj : X.N[j]? = some nm) (lx : (relabel scope X.env).names.lookup nm = some .local) (hw : ∀ x, wipe ((wipe σ [j]).set j (some x)) [j] = wipe σ [j]) (hg : ∀ x, ((wipe σ [j]).set j (some x))[j]? = some (some x)) (hd1 : (nm == ("__debug__" : Str)) = false) (hd2 : (nm == ("__classdict__" : Str)) = false)
    (hc : X.calm = true := by rfl) (hs : ∀ x, foldedSetIterable iter X.env x = pure x := by intro _; rfl) : VP X σ H (.SetComp (.Name nm p1) [⟨.Name nm p2, iter, [], 0⟩] scope pos) (SetP X.w ks) := fun H1 e1 Q q =>
  toE (pe_scW (g := BG X scope (.Name nm p2)) (tt := tYes) (te := BE X scope (.Name nm p1)) hc hu hN (pi_list we_pe) ok (fun s H0 C cl fp => ⟨fun pins s' σ' H' v u Q I r h => h s H0 C cl fp pins s' u I r⟩) (fun s H0 C cl fp => pts_nil) (fun s H0 C cl fp => ⟨fun pins s' σ' H' Q I h => h s H0 C cl fp pins s' I⟩) hs) (hi H1 e1 _ fun v H2 e2 p2 => by
    obtain ⟨a, xs, rfl, hx, hl, hY⟩ := p2
    refine ⟨a, rfl, ⟨xs, hx⟩, fun D hD => ?_⟩
    refine ⟨fun i m H' => m = ks.length - i ∧ i ≤ ks.length ∧ Ex H2 H' ∧ ∃ L : List (Addr × List Key), H' D = some (SetWO X.w D (L.map (·.1))) ∧ (∀ p ∈ L, H' p.1 = some (.tup (p.2.map kV))) ∧ (∀ p ∈ L, p.2 ∈ ks) ∧ (∀ k ∈ ks.take i, k ∈ L.map (·.2)) ∧ L.length ≤ i,
      ⟨ks.length, by omega, Nat.zero_le _, Ex.new hD, [], upd_same, (fun p z => nomatch z), (fun p z => nomatch z), (fun k z => by simp at z), Nat.le_refl _⟩, ?_⟩
    rintro i m H' ⟨rfl, hin, e3, L, hL, tL, sL, cL, lL⟩
    by_cases hlt : i < ks.length
    · obtain ⟨x, ex⟩ := get_at hl hlt
      refine .inr ⟨⟨xs, x, ex_l e3 hx, ex⟩, fun H4 => i + 1 ≤ ks.length ∧ Ex H2 H4 ∧ ∃ L : List (Addr × List Key), H4 D = some (SetWO X.w D (L.map (·.1))) ∧ (∀ p ∈ L, H4 p.1 = some (.tup (p.2.map kV))) ∧ (∀ p ∈ L, p.2 ∈ ks) ∧ (∀ k ∈ ks.take (i + 1), k ∈ L.map (·.2)) ∧ L.length ≤ i + 1, fun H4 z => ⟨ks.length - (i + 1), by omega, rfl, z⟩, fun y H4 yy => ?_⟩
      obtain ⟨rfl, yy⟩ := yy
      have ey : y = x := by
        have := yy xs (ex_l e3 hx)
        rw [ex] at this
        exact (Option.some.inj this).symm
      subst ey
      obtain ⟨k, hk, b, rfl, hb⟩ := hY i y ex
      intro s0 H00 C0 cl0 fp0
      refine toG (X := X.blk s0 H00 scope (compEnvC scope cl0 C0 X.env) fp0) (pg_name hN hj (.inl lx) (.inr lx)) ⟨hw _, ?_⟩
      show BE X scope (.Name nm p1) _ _ _
      intro s1 H01 C1 cl1 fp1
      refine toE (X := X.blk s1 H01 scope (compEnvC scope cl1 C1 X.env) fp1) (pe_var (X := X.blk s1 H01 scope (compEnvC scope cl1 C1 X.env) fp1) hj (.inl lx) hd1 hd2) ⟨_, hg _, ?_⟩
      refine ⟨b, k, L, rfl, e3 _ _ hb, hL, tL, by omega, fun L' hL' => ⟨hlt, e3.mut hD, L', upd_same, ?_⟩⟩
      have notT : ∀ ys, H4 D ≠ some (.tup ys) := fun ys z => by rw [hL] at z; cases z
      have tup : ∀ p ∈ L', H4 p.1 = some (.tup (p.2.map kV)) := fun p hp => by
        rcases hL' with ⟨_, rfl⟩ | pm
        · exact tL p hp
        · rcases List.mem_cons.mp (pm.mem_iff.mp hp) with rfl | hp
          · exact e3 _ _ hb
          · exact tL p hp
      refine ⟨fun p hp => kt_upd notT _ _ (tup p hp), fun p hp => ?_, fun k' hk' => ?_, ?_⟩
      · rcases hL' with ⟨_, rfl⟩ | pm
        · exact sL p hp
        · rcases List.mem_cons.mp (pm.mem_iff.mp hp) with rfl | hp
          · exact List.mem_of_getElem? hk
          · exact sL p hp
      · rw [take_snoc hk] at hk'
        have sub : ∀ z, z ∈ L.map (·.2) → z ∈ L'.map (·.2) := fun z hz => by
          rcases hL' with ⟨_, rfl⟩ | pm
          · exact hz
          · exact ((pm.map (·.2)).mem_iff).mpr (List.mem_cons.mpr (.inr hz))
        rcases List.mem_append.mp hk' with hk' | hk'
        · exact sub _ (cL _ hk')
        · rw [List.mem_singleton.mp hk']
          rcases hL' with ⟨hm, rfl⟩ | pm
          · exact hm
          · exact ((pm.map (·.2)).mem_iff).mpr (List.mem_cons.mpr (.inl rfl))
      · rcases hL' with ⟨_, rfl⟩ | pm
        · omega
        · rw [pm.length_eq, List.length_cons]
          omega
    · have e : i = ks.length := by omega
      subst e
      rw [List.take_length] at cL
      exact .inl ⟨⟨xs, ex_l e3 hx, Nat.le_of_eq hl⟩, q _ _ (e2.trans e3) ⟨D, L, rfl, hL, tL, sL, cL⟩⟩)
/-- an expression while the dict at d is only read -/
theorem vp_lockT {d : Addr} {kvs : List (List Key × V)} (hd : H d = some (.dT kvs)) (h : ∀ od, VP X σ (upd H d (.frz od (.dT kvs))) e P0) (k : ∀ v H2 od, H2 d = some (.frz od (.dT kvs)) → P0 v H2 → P v (upd H2 d (.dT kvs))) : VP X σ H e P := fun H1 e1 Q q =>
  toE (pe_lock we_pe) ⟨d, _, e1 _ _ hd, trivial, fun od => by
    have up : Ex (upd H d (.frz od (.dT kvs))) (upd H1 d (.frz od (.dT kvs))) := fun a o z => by
      by_cases c : a = d
      · subst c
        rw [upd_same] at z ⊢
        exact z
      · rw [upd_ne c] at z ⊢
        exact e1 _ _ z
    refine h od _ up _ fun v H2 e2 p2 => ?_
    have hd2 : H2 d = some (.frz od (.dT kvs)) := e2 _ _ upd_same
    refine ⟨hd2, q v _ (fun a o z => ?_) (k v H2 od hd2 p2)⟩
    by_cases c : a = d
    · subst c
      rw [e1 _ _ hd] at z
      rw [← z, upd_same]
    · rw [upd_ne c]
      exact e2 _ _ (by rw [upd_ne c]; exact z)⟩
theorem rd_ex {H H' : Hp} {d : Addr} {u : HO} (e : Ex H H') (h : Rd H d u) : Rd H' d u := h.imp (e _ _) fun ⟨o, z⟩ => ⟨o, e _ _ z⟩
/-- d[key], there, d perhaps locked -/
theorem v_dgetR {d : Addr} {kvs : List (List Key × V)} {key : List Key} (hu : X.A.units + 1 < cLine) (ho : VE X σ H o (.ref d)) (hk : VP X σ H i (KeyT key)) (hd : Rd H d (.dT kvs)) (hv : valV kvs key = some v) (hs : NoSl i := by intro _ _; rfl) : VE X σ H (.Subscript o i pos) v := vp_by (pe_dget hu we_pe we_pe hs) fun H1 e1 Q q =>
  ho H1 e1 _ fun x H2 e2 p2 => hk H2 (e1.trans e2) _ fun y H3 e3 p3 => by
    subst p2
    obtain ⟨b, rfl, hb⟩ := p3
    exact ⟨d, v, rfl, .inr ⟨kvs, key, b, rd_ex ((e1.trans e2).trans e3) hd, rfl, hb, hv.symm⟩, q _ H3 (e2.trans e3) rfl⟩
/-- for k in d, d locked -/
theorem vi_keysT {d : Addr} {o : Obj} {kvs : List (List Key × V)} (h : VE X σ H iter (.ref d)) (hd : H d = some (.frz o (.dT kvs))) : VI X σ H tg iter kvs.length fun i x H' => ∃ k v q, kvs[i]? = some (k, v) ∧ x = .ref q ∧ H' q = some (.tup (k.map kV)) := fun H1 e1 R q =>
  toI (pi_keys we_pe) (h H1 e1 _ fun v H2 e2 p2 => by
    subst p2
    refine ⟨d, o, rfl, .inr ⟨kvs, (e1.trans e2) _ _ hd, q _ H2 e2 ⟨fun i H' hi e' => ⟨e' _ _ ((e1.trans e2) _ _ hd), hi⟩, fun H' e' => ⟨e' _ _ ((e1.trans e2) _ _ hd), Nat.le_refl _⟩, fun i H' x H'' hi e' y => ?_⟩⟩⟩
    obtain ⟨rfl, k, v, q, z1, z2, z3⟩ := y
    exact ⟨Ex.refl _, k, v, q, z1, z2, z3⟩)
/-- a != b of data -/
theorem t_neD {d1 d2 : PyData} (hu : X.A.units + 64 < cLine) (ha : VE X σ H a x) (hb : VE X σ H b y) (tx : Tp H x d1) (ty : Tp H y d2) (s1 : SeqAt.shaped d1 = true) (s2 : SeqAt.shaped d2 = true) : VT X σ H (.Compare a [.NotEq] [b] pos) (!PyData.eqv d1 d2) :=
  tp_cmp (op_neD hu) ha (fun x1 H1 e1 p1 => VP.mono hb e1) fun x1 H1 y1 H2 e1 p1 e2 p2 Q k => by
    subst p1 p2
    exact ⟨d1, d2, (tx.ex (e1.trans e2)).dp, (ty.ex (e1.trans e2)).dp, s1, s2, k _ H2 (Ex.refl _) rfl⟩
end
theorem eqv_wr (a b : Wr) : PyData.eqv (wrD a) (wrD b) = decide (a = b) := by
  cases a with
  | none => cases b with
    | none => simp [wrD, PyData.eqv]
    | some y => simp [wrD, PyData.eqv]
  | some x => cases b with
    | none => simp [wrD, PyData.eqv]
    | some y =>
      rw [Bool.eq_iff_iff, decide_eq_true_eq]
      constructor
      · intro h
        simp [wrD, PyData.eqv, PyData.eqvAll] at h
        exact congrArg some (Prod.ext (by omega) (by omega))
      · intro h
        rw [Option.some.inj h]
        simp [wrD, PyData.eqv, PyData.eqvAll]
theorem shaped_wr (a : Wr) : SeqAt.shaped (wrD a) = true := by
  cases a with
  | none => rfl
  | some x => rfl
end Vw
end
section
set_option maxHeartbeats 4000000
/-! found_differences. -/
namespace Vw
open PySem PySem.Spec PyProof.Rows L2 Evl
open PySem.W (AllAlike Sortable)
theorem evOk_load {L : LoopD} {n a : Nat} (hn : n < L.ss.length) : ∀ e ∈ loadsP L n a, EvOk L e := fun e he => by
  unfold loadsP at he
  obtain ⟨s, hs, rfl⟩ := List.mem_map.mp he
  exact ⟨hn, .inr (.inl ⟨rfl, List.mem_range.mp hs⟩)⟩
theorem evOk_end {L : LoopD} {n a : Nat} (hn : n < L.ss.length) : EvOk L (endP L n a) := by
  refine ⟨hn, ?_⟩
  show ((endP L n a).w = "store" ∧ (L.tgtAt n).isSome = true) ∨ _ ∨ (endP L n a).w = "add"
  unfold endP
  cases h : L.tgtAt n with
  | none => exact .inr (.inr rfl)
  | some o => exact .inl ⟨rfl, rfl⟩
theorem evOk_iter {L : LoopD} {a : Nat} {ns : List Nat} (h : ∀ n ∈ ns, n < L.ss.length) : ∀ e ∈ iterP L a ns, EvOk L e := fun e he => by
  unfold iterP at he
  obtain ⟨n, hn, he⟩ := List.mem_flatMap.mp he
  rcases List.mem_append.mp he with he | he
  · exact evOk_load (h n hn) e he
  · rw [List.mem_singleton.mp he]
    exact evOk_end (h n hn)
theorem evOk_plain (L : LoopD) (c : Nat) : ∀ e ∈ plainP L c, EvOk L e := fun e he => by
  unfold plainP at he
  obtain ⟨a, _, he⟩ := List.mem_flatMap.mp he
  exact evOk_iter (fun n hn => List.mem_range.mp hn) e he
theorem evOk_wide (L : LoopD) (ok : LoopOk L) (b : Bool) (w c : Nat) : ∀ e ∈ wideP L b w c, EvOk L e := fun e he => by
  unfold wideP evB at he
  obtain ⟨blk, _, he⟩ := List.mem_flatMap.mp he
  obtain ⟨g, hg, he⟩ := List.mem_flatMap.mp he
  obtain ⟨q1, q2, _⟩ := groupsP_mem hg ok.l1
  unfold groupQ at he
  split at he
  · obtain ⟨a, _, he⟩ := List.mem_flatMap.mp he
    exact evOk_iter (fun n hn => by have := List.mem_range'_1.mp hn; omega) e he
  · obtain ⟨a, _, rfl⟩ := List.mem_map.mp he
    exact evOk_end (by omega)
theorem wideP_len (L : LoopD) (ok : LoopOk L) (b : Bool) (w c : Nat) : (wideP L b w c).length ≤ 100 * (c + w) := by
  have h1 := evB_len L ok b w c (manyP w c)
  have h2 := many_mul w c (Nat.le_refl _)
  unfold wideP
  omega
def fl1 (D : WvD) : Ori × Wri := flowP D.L (plainP D.L D.c)
def fl2 (D : WvD) : Ori × Wri := flowP D.L (wideP D.L D.b D.w D.c)
def wrAt (m : Wri) (c : Int) : Wr := (getM m c).getD none
def DiffC (D : WvD) (c : Int) : Prop := wrAt (fl1 D).2 c ≠ wrAt (fl2 D).2 c
instance (D : WvD) (c : Int) : Decidable (DiffC D c) := inferInstanceAs (Decidable (¬ _))
structure DiffPre (D : WvD) : Prop where
  ok : WvOk D
  same : ∀ kw ∈ (fl1 D).1, ∃ v, getM (fl1 D).1 kw.1 = some v ∧ getM (fl2 D).1 kw.1 = some v
  size : (fl1 D).2.length + (fl2 D).2.length ≤ 280
def cellD (z : Str) (c : Int) : PyData := .tuple [.str "cell", .str z, .int c]
def DiffL (D : WvD) : VPd := fun v H' => ∃ (q : Addr) (xs : List V) (cs : List Int), v = .ref q ∧ H' q = some (.lst xs) ∧ TpAll H' xs (cs.map (cellD D.L.z)) ∧ ∀ c, c ∈ cs ↔ DiffC D c
def cOf : List Key → Int
  | [_, .inl c] => c
  | _ => 0
theorem cOf_cell (z : Str) (c : Int) : cOf (cellK z c) = c := rfl
theorem paired_idx {α β : Type} {F : α → β → Prop} : ∀ {l : List α} {r : List β} {i : Nat} {b : β}, Paired F l r → r[i]? = some b → ∃ a, l[i]? = some a ∧ F a b := fun h e => paired_get h e
theorem paired_app {α β : Type} {F : α → β → Prop} {l l2 : List α} {r r2 : List β} (h : Paired F l r) (h2 : Paired F l2 r2) : Paired F (l ++ l2) (r ++ r2) := by
  induction h with
  | nil => exact h2
  | cons q _ ih => exact .cons q ih
theorem dicKv_keys {z : Str} {H : Hp} {m : Wri} {kvs : List (List Key × V)} (h : DicKv (cellK z) H m kvs) : kvs.map (·.1) = m.map fun kw => cellK z kw.1 := by
  induction h with
  | nil => rfl
  | cons q _ ih => rw [List.map_cons, List.map_cons, q.1, ih]
theorem getM_mem {κ α : Type} [DecidableEq κ] {m : List (κ × α)} {k : κ} {v : α} (h : getM m k = some v) : ∃ kv ∈ m, kv.1 = k := by
  unfold getM at h
  obtain ⟨kv, h1, _⟩ := Option.map_eq_some_iff.mp h
  have z := List.find?_some h1
  exact ⟨kv, List.mem_of_find?_eq_some h1, by simpa using z⟩
theorem wr_mem {m : Wri} {c : Int} (h : wrAt m c ≠ none) : ∃ kv ∈ m, kv.1 = c := by
  unfold wrAt at h
  cases e : getM m c with
  | none => rw [e] at h; exact absurd rfl h
  | some v => exact getM_mem e
section
variable {P : Program} {w : World} {K : PySem.W.Frag} {mg : Str → Option Value} {base : Heap} {CL CS CO CV CW : Addr}
theorem val_of {z : Str} {H : Hp} {m : Wri} {kvs : List (List Key × V)} (h : DicKv (cellK z) H m kvs) (c : Int) : Tp H ((valV kvs (cellK z c)).getD .non) (wrD (wrAt m c)) := by
  unfold wrAt
  rcases dic_get cellK_inj c h with ⟨q1, q2⟩ | ⟨w1, v1, q1, q2, q3⟩
  · rw [q1, q2]
    exact .non
  · rw [q1, q2]
    exact q3
abbrev spDiff (K : PySem.W.Frag) (CL CS CO CV CW : Addr) : Sp := PuSp (fun (g : WvD × Addr × Addr) vs H => vs = [.ref g.2.1, .ref g.2.2, .int (g.1.w : Int), .int (g.1.c : Int)] ∧ DiffPre g.1 ∧ LoopAt CL CS CO H g.2.1 g.1.L ∧ WayAt K CW H g.2.2 g.1.W) fun g => DiffL g.1
theorem ok_found_differences {f : Addr} {fd : FuncData} (F : Fd K "found_differences" "found_differences" s_found_differences [] [] f fd) (T : Txt K mg CL CS CO CV CW) (h1 : Has P w K mg base "flow" 4 ["loop", "events"] (spFlow CL CS CO)) (h2 : Has P w K mg base "plain_list" 5 ["loop", "count"] (spPlain CL CS CO))
    (h3 : Has P w K mg base "wide_list" 8 ["loop", "way", "width", "count"] (spWideList K CL CS CO CV CW)) : FnOk P w K mg base CX0 9 f fd ["loop", "way", "width", "count"] (spDiff K CL CS CO CV CW) := by
  refine F.ok sc_found_differences (fun vs H Q E h => ?_) (fun cdv A outer s H vs Q E hr h => ?_)
  · obtain ⟨g, ⟨rfl, _⟩, _⟩ := h
    rfl
  · obtain ⟨⟨D, lo, wa⟩, ⟨rfl, pre, hL, hW⟩, k⟩ := h
    dsimp only at pre hL hW k
    have ok := pre.ok
    have hw2 := ok.w2
    have hc2 := ok.c2
    have lp := plainP_len D.L ok.lo D.c
    have lw := wideP_len D.L ok.lo D.b D.w D.c
    refine wb_asg (P := FlowP D.L.z (fl1 D)) (vp_callD h1 (hr.mono (by decide)) (vap_v (v_nm (v := .ref lo) 0 rfl) (vap_cons (P := EvL (plainP D.L D.c)) (vp_call h2 (hr.mono (by decide)) (lo, D.L, D.c) (va_cons (v_nm (v := .ref lo) 0 rfl) (va_cons (v_nm (v := .int (D.c : Int)) 3 rfl) va_nil)) (fun vs H1 e1 q => ⟨q, hL.ex e1, ok.lo, by show D.c ≤ 2000; omega⟩) (fun _ _ _ q => q)) mono_evL fun _ _ _ _ => vap_nil)) fun vs H1 e1 q => ?_) fun v H1 e1 p1 => ?_
    · obtain ⟨_, rfl, ve, _, rfl, hev, rfl⟩ := q
      exact ⟨(lo, D.L, ve, plainP D.L D.c), ⟨rfl, hL.ex e1, ok.lo, hev, evOk_plain _ _, by show (plainP D.L D.c).length ≤ 50000; omega⟩, fun v H' e' q => q⟩
    obtain ⟨p1, d1, d2, rfl, hp1, ⟨k1, hd1, dk1⟩, ⟨k2, hd2, dk2⟩⟩ := p1
    refine wg_two 4 5 sc_found_differences.nd (SqT.of hp1) ?_
    refine wb_asg (P := FlowP D.L.z (fl2 D)) (vp_callD h1 (hr.mono (by decide)) (vap_v (v_nm (v := .ref lo) 0 rfl) (vap_cons (P := EvL (wideP D.L D.b D.w D.c)) (vp_call h3 hr (D, lo, wa) (va_cons (v_nm (v := .ref lo) 0 rfl) (va_cons (v_nm (v := .ref wa) 1 rfl) (va_cons (v_nm (v := .int (D.w : Int)) 2 rfl) (va_cons (v_nm (v := .int (D.c : Int)) 3 rfl) va_nil)))) (fun vs H2 e2 q => ⟨q, ok, hL.ex (e1.trans e2), hW.ex (e1.trans e2)⟩) (fun _ _ _ q => q)) mono_evL fun _ _ _ _ => vap_nil)) fun vs H2 e2 q => ?_) fun v H2 e2 p2 => ?_
    · obtain ⟨_, rfl, ve, _, rfl, hev, rfl⟩ := q
      exact ⟨(lo, D.L, ve, wideP D.L D.b D.w D.c), ⟨rfl, hL.ex (e1.trans e2), ok.lo, hev, evOk_wide _ ok.lo _ _ _, by show (wideP D.L D.b D.w D.c).length ≤ 50000; omega⟩, fun v H' e' q => q⟩
    obtain ⟨p2, d3, d4, rfl, hp2, ⟨k3, hd3, dk3⟩, ⟨k4, hd4, dk4⟩⟩ := p2
    refine wg_two 6 7 sc_found_differences.nd (SqT.of hp2) ?_
    have e12 := e1.trans e2
    have hd1' := e2 _ _ hd1
    have hd2' := e2 _ _ hd2
    have dk1' := dk1.kt (kt_ex e2)
    have dk2' := dk2.kt (kt_ex e2)
    have size : k2.length + k4.length ≤ 280 := by
      have a := Paired.length dk2
      have b := Paired.length dk4
      have := pre.size
      omega
    have lk1 : k1.length ≤ 6000 := by
      have a := Paired.length dk1
      have b := (flow_len D.L (plainP D.L D.c) ([], [])).1
      simp only [List.length_nil] at b
      have e : (fl1 D).1.length ≤ 0 + (plainP D.L D.c).length := b
      omega
    -- loads: none
    refine wb_set 8 sc_found_differences.nd (P := fun v H' => ∃ q, v = .ref q ∧ H' q = some (.lst [])) (vp_bi (cr_sortedTp hr.units) T.sorted boot_sorted (vap_cons (P := fun v H' => ∃ q, v = .ref q ∧ H' q = some (.lst [])) (vp_lockT (P0 := fun v H' => ∃ q, v = .ref q ∧ H' q = some (.lst [])) hd1' (fun od => VP.imp (vp_lc (keep := fun _ => false) (P0 := fun _ _ _ => True) [("load", 10)] sc_found_differences.nd (blkOk_by (N := n_found_differences) (sc := defScope s_found_differences) (by decide +kernel)) (fun i _ _ _ _ _ => trivial)
        (vi_keysT (v_nm (v := .ref d1) 4 rfl) upd_same) (by omega) fun i x H3 hi e3 hx => ?_) fun v H3 e3 ⟨q, ys, a1, _, a3, a4⟩ => ⟨q, a1, ?_⟩) (fun v H3 od z ⟨q, a1, a2⟩ => ⟨q, a1, ?_⟩)) mono_at fun _ _ _ _ => vap_nil) fun vs H3 e3 q Q3 k3 => ?_) fun v H3 e3 p3 => ?_
    · obtain ⟨kk, vv, q, hkk, rfl, hq⟩ := hx
      obtain ⟨kw, hkw, ek, _⟩ := paired_get dk1' hkk
      dsimp only at ek
      subst ek
      obtain ⟨v0, g1, g2⟩ := pre.same kw (List.mem_of_getElem? hkw)
      have k0 : Kt H2 H3 := (kt_upd fun xs e => by rw [hd1'] at e; cases e).trans (kt_ex e3)
      have r1 : Rd H3 d1 (.dT k1) := .inr ⟨od, e3 _ _ upd_same⟩
      have r3 : Rd H3 d3 (.dT k3) := by
        by_cases c : d3 = d1
        · subst c
          rw [hd1'] at hd3
          injection hd3 with hd3
          injection hd3 with hd3
          rw [← hd3]
          exact r1
        · exact .inl (e3 _ _ (by rw [upd_ne c]; exact hd3))
      rcases dic_get loadK_inj kw.1 dk1' with ⟨z1, _⟩ | ⟨w1, v1, z1, z2, z3⟩
      · rw [g1] at z1; cases z1
      · rcases dic_get loadK_inj kw.1 dk3 with ⟨y1, _⟩ | ⟨w3, v3, y1, y2, y3⟩
        · rw [g2] at y1; cases y1
        · rw [g1] at z1
          rw [g2] at y1
          obtain rfl := Option.some.inj z1
          obtain rfl := Option.some.inj y1
          refine turn_nm 10 sc_found_differences.nd rfl rfl rfl (fun s H0 C cl fp => ts_one (VT.is (t_neD hr.units (v_dgetR (key := loadK kw.1) (hu_of hr) (v_nm (v := .ref d3) 6 rfl) ((v_nm (v := .ref q) 10 rfl).imp fun v H4 e4 z => ⟨q, z, e4 _ _ hq⟩) r3 y2) (v_dgetR (key := loadK kw.1) (hu_of hr) (v_nm (v := .ref d1) 4 rfl) ((v_nm (v := .ref q) 10 rfl).imp fun v H4 e4 z => ⟨q, z, e4 _ _ hq⟩) r1 z2) (y3.kt k0) (z3.kt k0) (shaped_wr _) (shaped_wr _)) ?_)) fun z => nomatch z
          rw [eqv_wr, decide_eq_true rfl]
          rfl
    · have := Paired.length a4
      rw [List.filter_eq_nil_iff.mpr (fun _ _ => by simp)] at this
      rw [a3, List.eq_nil_of_length_eq_zero this.symm]
    · rw [upd_ne (fun e => by rw [e, z] at a2; cases a2)]
      exact a2
    · obtain ⟨v1, r, rfl, ⟨q, rfl, hq⟩, rfl⟩ := q
      refine ⟨q, [], [], rfl, sq_of hq, .nil, (fun _ h => nomatch h), .inl (fun _ h => nomatch h), (fun _ h => nomatch h), fun ys es p pm _ _ hp => k3 _ _ (Ex.new hp) ⟨p, rfl, ?_⟩⟩
      rw [upd_same, List.perm_nil.mp pm]
    obtain ⟨ll, rfl, hll⟩ := p3
    have e13 := e12.trans e3
    have dk2s := dk2'.kt (kt_ex e3)
    have dk4s := dk4.kt (kt_ex e3)
    have hd2s := e3 _ _ hd2'
    have hd4s := e3 _ _ hd4
    -- the cells
    obtain ⟨ks, hks⟩ : ∃ ks, ks = (k2 ++ k4).map (·.1) := ⟨_, rfl⟩
    have lks : ks.length = k2.length + k4.length := by rw [hks, List.length_map, List.length_append]
    have shape : ∀ kk ∈ ks, ∃ c, kk = cellK D.L.z c := fun kk hk => by
      rw [hks, List.map_append, dicKv_keys dk2, dicKv_keys dk4] at hk
      rcases List.mem_append.mp hk with hk | hk
      · obtain ⟨kw, _, rfl⟩ := List.mem_map.mp hk
        exact ⟨_, rfl⟩
      · obtain ⟨kw, _, rfl⟩ := List.mem_map.mp hk
        exact ⟨_, rfl⟩
    have cover : ∀ c, DiffC D c → cellK D.L.z c ∈ ks := fun c hc => by
      rw [hks, List.map_append, dicKv_keys dk2, dicKv_keys dk4, List.mem_append]
      by_cases z : wrAt (fl1 D).2 c = none
      · have : wrAt (fl2 D).2 c ≠ none := fun y => hc (z.trans y.symm)
        obtain ⟨kv, h1, h2⟩ := wr_mem this
        exact .inr (List.mem_map.mpr ⟨kv, h1, by rw [h2]⟩)
      · obtain ⟨kv, h1, h2⟩ := wr_mem z
        exact .inl (List.mem_map.mpr ⟨kv, h1, by rw [h2]⟩)
    have lst : ∀ {d : Addr} {kv : List (List Key × V)} {i : Nat} {nm : Str} {p q : Pos}, True := fun {_ _ _ _ _ _} => trivial
    refine wb_set 9 sc_found_differences.nd (P := fun v H' => ∃ (q : Addr) (L' : List (Addr × List Key)), v = .ref q ∧ H' q = some (.lst (L'.map fun p => V.ref p.1)) ∧ (∀ p ∈ L', H' p.1 = some (.tup (p.2.map kV))) ∧ (∀ p ∈ L', p.2 ∈ ks) ∧ (∀ kk ∈ ks, kk ∈ L'.map (·.2)) ∧ L'.length < 300)
      (vp_bi (cr_sortedW rfl hr.units) T.sorted boot_sorted (vap_cons (vp_sc (ks := ks) 11 hr.units sc_found_differences.nd (blkOk_by (N := n_found_differences) (sc := defScope s_found_differences) (by decide +kernel)) (vp_op op_cat (PA := fun v H' => ∃ q bs, v = .ref q ∧ H' q = some (.lst (bs.map V.ref)) ∧ IsKeys H' k2 bs) (PB := fun _ v H' => ∃ q bs, v = .ref q ∧ H' q = some (.lst (bs.map V.ref)) ∧ IsKeys H' k4 bs)
        (vp_ty (call_list_dT rfl) T.list boot_list (va_cons (v_nm (v := .ref d2) 5 rfl) va_nil) fun vs H4 e4 q Q4 k4' => ?_) (fun x H4 e4 p4 => vp_ty (call_list_dT rfl) T.list boot_list (va_cons (v_nm (v := .ref d4) 7 rfl) va_nil) fun vs H5 e5 q Q5 k5' => ?_) fun x H4 y H5 e4 p4 e5 p5 Q5 k5 => ?_) (by omega) rfl rfl (fun x => rfl) (fun x => rfl) (by decide) (by decide)) ?_ fun _ _ _ _ => vap_nil) fun vs H4 e4 q Q4 k4' => ?_) fun v H4 e4 p4 => ?_
    · subst q
      exact ⟨d2, k2, rfl, .inl (e4 _ _ hd2s), fun p bs hp hb => k4' _ _ (Ex.new hp) ⟨p, bs, rfl, upd_same, Paired.mapP hb fun a b z => Ex.new hp _ _ z⟩⟩
    · subst q
      exact ⟨d4, k4, rfl, .inl ((e4.trans e5) _ _ hd4s), fun p bs hp hb => k5' _ _ (Ex.new hp) ⟨p, bs, rfl, upd_same, Paired.mapP hb fun a b z => Ex.new hp _ _ z⟩⟩
    · obtain ⟨q1, b1, rfl, hq1, hb1⟩ := p4
      obtain ⟨q2, b2, rfl, hq2, hb2⟩ := p5
      have l1 : b1.length = k2.length := (Paired.length hb1).symm
      have l2 : b2.length = k4.length := (Paired.length hb2).symm
      refine ⟨q1, q2, _, _, rfl, rfl, e5 _ _ hq1, hq2, sz_of (by rw [List.length_map, List.length_map]; omega), fun p hp => k5 _ _ (Ex.new hp) ⟨p, _, rfl, sq_of upd_same, by rw [List.length_append, List.length_map, List.length_map]; omega, fun i x hx => ?_⟩⟩
      rw [← List.map_append, List.getElem?_map] at hx
      obtain ⟨b, hb, rfl⟩ := Option.map_eq_some_iff.mp hx
      have both : IsKeys H5 (k2 ++ k4) (b1 ++ b2) := paired_app (Paired.mapP hb1 fun a b z => e5 _ _ z) hb2
      obtain ⟨kv, hkv, hbk⟩ := paired_get both hb
      exact ⟨kv.1, by rw [hks, List.getElem?_map, hkv]; rfl, b, rfl, Ex.new hp _ _ hbk⟩
    · exact fun v H1 H2 e ⟨Dq, Lq, a, b, c, d, f⟩ => ⟨Dq, Lq, a, e _ _ b, fun p hp => e _ _ (c p hp), d, f⟩
    · obtain ⟨v1, r, rfl, ⟨Ds, Ls, rfl, a2, a3, a4, a5⟩, rfl⟩ := q
      have sh : ∀ p ∈ Ls, ∃ c, p.2 = cellK D.L.z c := fun p hp => shape _ (a4 p hp)
      refine ⟨Ds, Ls, rfl, a2, a3, ?_, ?_, ?_, fun L' p pm hl hp => k4' _ _ (Ex.new hp) ⟨p, L', rfl, upd_same, fun r hr => Ex.new hp _ _ (a3 r (pm.mem_iff.mp hr)), fun r hr => a4 r (pm.mem_iff.mp hr), fun kk hk => ((pm.map (·.2)).mem_iff).mpr (a5 kk hk), hl⟩⟩
      · intro x hx y hy
        obtain ⟨p, hp, rfl⟩ := List.mem_map.mp hx
        obtain ⟨r, hr, rfl⟩ := List.mem_map.mp hy
        obtain ⟨c1, e1⟩ := sh p hp
        obtain ⟨c2, e2⟩ := sh r hr
        rw [e1, e2]
        rfl
      · refine .inl fun x hx => ?_
        obtain ⟨p, hp, rfl⟩ := List.mem_map.mp hx
        obtain ⟨c1, e1⟩ := sh p hp
        rw [e1]
        exact ⟨_, _, rfl⟩
      · intro p hp
        obtain ⟨c1, e1⟩ := sh p hp
        rw [e1]
        show PyData.depth (.tuple [.str _, .int _]) ≤ 10
        simp [PyData.depth, PyData.depthAll]
    obtain ⟨cl, L', rfl, hcl, tL, sL, cL, lL⟩ := p4
    have e14 := e13.trans e4
    have hd2t := e4 _ _ hd2s
    have hd4t := e4 _ _ hd4s
    have dk2t := dk2s.kt (kt_ex e4)
    have dk4t := dk4s.kt (kt_ex e4)
    obtain ⟨cc, hcc⟩ : ∃ cc : Nat → Int, cc = fun i => cOf ((L'.getD i (0, [])).2) := ⟨_, rfl⟩
    have keyAt : ∀ {i : Nat} {p : Addr × List Key}, L'[i]? = some p → p.2 = cellK D.L.z (cc i) := fun {i p} hp => by
      obtain ⟨c, ec⟩ := shape _ (sL p (List.mem_of_getElem? hp))
      rw [hcc]
      show p.2 = cellK D.L.z (cOf (L'.getD i (0, [])).2)
      rw [List.getD_eq_getElem?_getD, hp]
      show p.2 = cellK D.L.z (cOf p.2)
      rw [ec, cOf_cell]
    refine wb_lc 9 [("cell", 11)] (n := L'.length) (Y := fun i v _ => ∃ p, L'[i]? = some p ∧ v = .ref p.1) (P0 := fun i v _ => ∃ p, L'[i]? = some p ∧ v = .ref p.1) (keep := fun i => decide (DiffC D (cc i))) sc_found_differences.nd (blkOk_by (N := n_found_differences) (sc := defScope s_found_differences) (by decide +kernel)) (fun i _ _ _ _ z => z)
      (vi_L (fun i _ _ _ _ z => z) ((v_nm (v := .ref cl) 9 rfl).imp fun v H5 e5 q => ⟨cl, _, q, sq_of (e5 _ _ hcl), by rw [List.length_map], fun i x hx => ?_⟩)) (by omega) (fun i x H5 hi e5 hx => ?_) (fun v H5 e5 p5 => ?_) rfl
    · rw [List.getElem?_map] at hx
      obtain ⟨p, hp, rfl⟩ := Option.map_eq_some_iff.mp hx
      exact ⟨p, hp, rfl⟩
    · obtain ⟨p, hp, rfl⟩ := hx
      have ek := keyAt hp
      have tp := e5 _ _ (tL p (List.mem_of_getElem? hp))
      rw [ek] at tp
      refine turn_nm 11 sc_found_differences.nd rfl rfl rfl (fun s H0 C cl fp => ts_one (VT.is (t_neD hr.units (v_dgetN (key := cellK D.L.z (cc i)) (hu_of hr) (v_nm (v := .ref d2) 5 rfl) ((v_nm (v := .ref p.1) 11 rfl).imp fun v H6 e6 z => ⟨p.1, z, e6 _ _ tp⟩) (e5 _ _ hd2t)) (v_dgetN (key := cellK D.L.z (cc i)) (hu_of hr) (v_nm (v := .ref d4) 7 rfl) ((v_nm (v := .ref p.1) 11 rfl).imp fun v H6 e6 z => ⟨p.1, z, e6 _ _ tp⟩) (e5 _ _ hd4t)) ((val_of dk2t (cc i)).ex e5) ((val_of dk4t (cc i)).ex e5) (shaped_wr _) (shaped_wr _)) ?_)) fun _ s H0 C cl fp => ?_
      · rw [eqv_wr]
        by_cases z : wrAt (fl1 D).2 (cc i) = wrAt (fl2 D).2 (cc i)
        · have nz : ¬ DiffC D (cc i) := fun h => h z
          rw [decide_eq_true z, decide_eq_false nz]
          rfl
        · have nz : DiffC D (cc i) := z
          rw [decide_eq_false z, decide_eq_true nz]
          rfl
      · exact (v_nm (v := .ref p.1) 11 rfl).imp fun v H6 e6 z => ⟨p, hp, z⟩
    obtain ⟨c2, ys, rfl, hc20, hc2, ho⟩ := p5
    have e15 := e14.trans e5
    obtain ⟨idx, hidx⟩ : ∃ idx, idx = (List.range L'.length).filter fun i => decide (DiffC D (cc i)) := ⟨_, rfl⟩
    have pr : Paired (fun i y => ∃ p, L'[i]? = some p ∧ y = V.ref p.1) idx ys := by rw [hidx]; exact ho
    have lys : ys.length = idx.length := (Paired.length pr).symm
    have lys2 := ho.len
    refine wb_ret (P := DiffL D) (vp_op op_cat (PA := fun v H' => ∃ q, v = .ref q ∧ H' q = some (.lst [])) (PB := fun _ v H' => ∃ q xs, v = .ref q ∧ H' q = some (.lst xs) ∧ TpAll H' xs ((idx.map cc).map (cellD D.L.z)) ∧ xs.length ≤ ys.length)
      (VP.imp (vp_lc (n := 0) (Y := fun _ _ _ => True) (P0 := fun _ _ _ => True) (keep := fun _ => true) [("load", 10)] sc_found_differences.nd (blkOk_by (N := n_found_differences) (sc := defScope s_found_differences) (by decide +kernel)) (fun i _ _ _ _ _ => trivial) (vi_L (fun i _ _ _ _ _ => trivial) ((v_nm (v := .ref ll) 8 rfl).imp fun v H6 e6 q => ⟨ll, [], q, sq_of ((e4.trans (e5.trans e6)) _ _ hll), rfl, fun _ _ _ => trivial⟩)) (by decide) fun i x H6 hi _ _ => absurd hi (Nat.not_lt_zero _)) fun v H6 e6 ⟨q, zs, a1, _, a3, a4⟩ => ⟨q, a1, ?_⟩)
      (fun x H6 e6 p6 => VP.imp (vp_lc (n := ys.length) (Y := fun j v _ => ys[j]? = some v) (P0 := fun j v H' => Tp H' v (cellD D.L.z (cc (idx.getD j 0)))) (keep := fun _ => true) [("cell", 11)] sc_found_differences.nd (blkOk_by (N := n_found_differences) (sc := defScope s_found_differences) (by decide +kernel)) (fun i => imm_tp) (vi_L (fun i _ _ _ _ z => z) ((v_nm (v := .ref c2) 9 rfl).imp fun v H7 e7 q => ⟨c2, ys, q, sq_of ((e6.trans e7) _ _ hc2), rfl, fun i x hx => hx⟩)) (by omega) fun j x H7 hj e7 hx => ?_) fun v H7 e7 ⟨q, zs, a1, _, a3, a4⟩ => ⟨q, zs, a1, a3, ?_, a4.len⟩)
      (fun x H6 y H7 e6 p6 e7 p7 Q7 k7 => ?_)) fun v H6 e6 p6 => k v H6 (e15.trans e6) p6
    · rw [a3, List.eq_nil_of_length_eq_zero (Nat.le_zero.mp a4.len)]
    · obtain ⟨i, hi, p, hp, rfl⟩ := paired_get pr hx
      have ej : idx.getD j 0 = i := by rw [List.getD_eq_getElem?_getD, hi]; rfl
      rw [ej]
      have tp := (e5.trans (e6.trans e7)) _ _ (tL p (List.mem_of_getElem? hp))
      rw [keyAt hp] at tp
      refine turn_nm 11 sc_found_differences.nd rfl rfl rfl (fun s H0 C cl fp => ts_nil) fun _ s H0 C cl fp => ?_
      refine VP.imp (vp_catT (xs := [.str "cell"]) (ys := [.str D.L.z, .int (cc i)]) (v_tupN (va_cons v_str va_nil) (by simp)) ((v_nm (v := .ref p.1) 11 rfl).imp fun v H8 e8 z => ⟨p.1, z, e8 _ _ tp⟩) (by simp) (by simp) (by simp)) fun v H8 e8 ⟨q, a1, a2⟩ => ?_
      subst a1
      exact .tup a2 (.cons (.str _) (.cons (.str _) (.cons (.int _) .nil)))
    · have z := outs_tp (d := fun j => cellD D.L.z (cc (idx.getD j 0))) a4
      rw [List.filter_eq_self.mpr (fun _ _ => rfl), lys, map_range (fun i => cellD D.L.z (cc i)) 0 idx] at z
      rw [List.map_map]
      exact z
    · obtain ⟨q1, rfl, hq1⟩ := p6
      obtain ⟨q2, xs, rfl, hq2, tx, lx⟩ := p7
      refine ⟨q1, q2, [], xs, rfl, rfl, e7 _ _ hq1, hq2, sz_of (by simp; omega), fun p hp => k7 _ _ (Ex.new hp) ⟨p, xs, idx.map cc, rfl, upd_same, tx.ex (Ex.new hp), fun c => ?_⟩⟩
      rw [List.mem_map, hidx]
      constructor
      · rintro ⟨i, hi, rfl⟩
        exact of_decide_eq_true (List.mem_filter.mp hi).2
      · intro hc
        obtain ⟨p, hp, ep⟩ := List.mem_map.mp (cL _ (cover c hc))
        obtain ⟨i, hi, ei⟩ := List.getElem_of_mem hp
        have hi2 : L'[i]? = some p := by rw [List.getElem?_eq_getElem hi, ei]
        have ec : cc i = c := cellK_inj (z := D.L.z) (by rw [← keyAt hi2, ep])
        exact ⟨i, List.mem_filter.mpr ⟨List.mem_range.mpr hi, by rw [ec]; exact decide_eq_true hc⟩, ec⟩
end
end Vw
end
section
/-! widths: greatest_count, greatest_width, least_count. -/
namespace Vw
open PySem PySem.Spec PyProof.Rows L2 Evl
structure LW where
  L : LoopD
  W : WayD
  b : Bool
def LW.at (g : LW) (w c : Nat) : WvD := ⟨g.L, g.W, g.b, w, c⟩
def gcP (g : LW) (w : Nat) : Nat := 2 * w + 2 * reachP g.L
def gwP (g : LW) : Nat := max 2 (2 * reachP g.L + 1)
/-- nothing differs -/
def NoD (g : LW) (w c : Nat) : Prop := ∀ x, ¬ DiffC (g.at w c) x
structure LWOk (g : LW) : Prop where
  lo : LoopOk g.L
  bn : g.W.bun = bunP g.b g.L.ss.length
  mt : (meetsP g.L).length ≤ 1000
  r : reachP g.L ≤ 18
  pre : ∀ w c, 1 ≤ w → w ≤ gwP g → c ≤ gcP g w → DiffPre (g.at w c)
/-- what least_count finds -/
def LeastC (g : LW) (w : Nat) (v : V) : Prop := (v = .non ∧ ∀ c, c ≤ gcP g w → NoD g w c) ∨ ∃ c : Nat, v = .int (c : Int) ∧ c ≤ gcP g w ∧ ¬ NoD g w c ∧ ∀ c', c' < c → NoD g w c'
theorem eqv_nil (ds : List PyData) : PyData.eqv (.list ds) (.list []) = decide (ds = []) := by
  cases ds with
  | nil => simp [PyData.eqv, PyData.eqvAll]
  | cons d ds => simp [PyData.eqv, PyData.eqvAll]
theorem shaped_cells {z : Str} (hz : NmOk z) (cs : List Int) : SeqAt.shaped (.list (cs.map (cellD z))) = true := by
  have one : ∀ c, PyData.canLay0 (cellD z c) = true := fun c => by
    have hs : PyData.canLay0 (.str z) = true := by
      show (z.cps.all (· < 0x110000)) = true
      rw [← Array.all_toList, List.all_eq_true]
      intro c hc
      have lt : ∀ c ∈ letters.cps.toList, c < 0x110000 := by decide +kernel
      exact decide_eq_true (lt c (hz.let_ c hc))
    show (PyData.canLay0 (.str "cell") && (PyData.canLay0 (.str z) && (PyData.canLay0 (.int c) && true))) = true
    rw [hs]
    show (PyData.canLay0 (.str "cell") && true) = true
    decide +kernel
  have dep : ∀ cs : List Int, PyData.depthAll (cs.map (cellD z)) ≤ 1 := fun cs => by
    induction cs with
    | nil => simp [PyData.depthAll]
    | cons c cs ih =>
      rw [List.map_cons]
      show max (PyData.depth (cellD z c)) (PyData.depthAll (cs.map (cellD z))) ≤ 1
      have : PyData.depth (cellD z c) = 1 := by
        unfold cellD
        simp [PyData.depth, PyData.depthAll]
      omega
  have lay : ∀ cs : List Int, PyData.canLayAll0 (cs.map (cellD z)) = true := fun cs => by
    induction cs with
    | nil => rfl
    | cons c cs ih =>
      rw [List.map_cons]
      show (PyData.canLay0 (cellD z c) && PyData.canLayAll0 (cs.map (cellD z))) = true
      rw [one, ih]
      rfl
  unfold SeqAt.shaped
  rw [Bool.and_eq_true]
  refine ⟨lay cs, decide_eq_true ?_⟩
  show PyData.depthAll (cs.map (cellD z)) + 1 ≤ 64
  have := dep cs
  omega
section
variable {P : Program} {w : World} {K : PySem.W.Frag} {mg : Str → Option Value} {base : Heap} {CL CS CO CV CW : Addr}
abbrev spGc (CL CS CO : Addr) : Sp := PuSp (fun (g : Addr × LW × Nat) vs H => vs = [.ref g.1, .int (g.2.2 : Int)] ∧ LoopAt CL CS CO H g.1 g.2.1.L ∧ LWOk g.2.1 ∧ g.2.2 ≤ 1000) fun g v _ => v = .int (gcP g.2.1 g.2.2 : Int)
theorem ok_greatest_count {f : Addr} {fd : FuncData} (F : Fd K "greatest_count" "greatest_count" s_greatest_count [] [] f fd) (T : Txt K mg CL CS CO CV CW) (h1 : Has P w K mg base "reach" 6 ["loop"] (spReach CL CS CO)) : FnOk P w K mg base CX0 7 f fd ["loop", "width"] (spGc CL CS CO) := by
  refine F.ok sc_greatest_count (fun vs H Q E h => ?_) (fun cdv A outer s H vs Q E hr h => ?_)
  · obtain ⟨g, ⟨rfl, _⟩, _⟩ := h
    rfl
  · obtain ⟨⟨lo, g, wd⟩, ⟨rfl, hL, ok, hw⟩, k⟩ := h
    dsimp only at hL ok hw k
    have hrr := ok.r
    refine wb_ret (VE.is (v_add (v_mul v_int (v_nm (v := .int (wd : Int)) 1 rfl) (.inl ⟨by omega, by omega⟩)) (v_mul (j := (reachP g.L : Int)) v_int (vp_call h1 hr (lo, g.L) (va_cons (v_nm (v := .ref lo) 0 rfl) va_nil) (fun vs H1 e1 q => ⟨q, hL.ex e1, ok.lo, ok.mt⟩) (fun _ _ _ q => q)) (.inl ⟨by omega, by omega⟩))) ?_) k
    unfold gcP
    rw [Int.natCast_add, Int.natCast_mul, Int.natCast_mul]
    rfl
abbrev spGw (CL CS CO : Addr) : Sp := PuSp (fun (g : Addr × LW) vs H => vs = [.ref g.1] ∧ LoopAt CL CS CO H g.1 g.2.L ∧ LWOk g.2) fun g v _ => v = .int (gwP g.2 : Int)
theorem ok_greatest_width {f : Addr} {fd : FuncData} (F : Fd K "greatest_width" "greatest_width" s_greatest_width [] [] f fd) (T : Txt K mg CL CS CO CV CW) (h1 : Has P w K mg base "reach" 6 ["loop"] (spReach CL CS CO)) : FnOk P w K mg base CX0 7 f fd ["loop"] (spGw CL CS CO) := by
  refine F.ok sc_greatest_width (fun vs H Q E h => ?_) (fun cdv A outer s H vs Q E hr h => ?_)
  · obtain ⟨g, ⟨rfl, _⟩, _⟩ := h
    rfl
  · obtain ⟨⟨lo, g⟩, ⟨rfl, hL, ok⟩, k⟩ := h
    dsimp only at hL ok k
    have hrr := ok.r
    refine wb_ret (P := fun v _ => v = .int (gwP g : Int)) (vp_bi (call_max2 rfl) T.max boot_max (va_cons v_int (va_cons (v_add (v_mul (j := (reachP g.L : Int)) v_int (vp_call h1 hr (lo, g.L) (va_cons (v_nm (v := .ref lo) 0 rfl) va_nil) (fun vs H1 e1 q => ⟨q, hL.ex e1, ok.lo, ok.mt⟩) (fun _ _ _ q => q)) (.inl ⟨by omega, by omega⟩)) v_int) va_nil)) fun vs H1 e1 q Q1 k1 => ?_) k
    subst q
    refine ⟨_, _, rfl, k1 _ _ (Ex.refl _) ?_⟩
    congr 1
    unfold gwP
    split <;> omega
abbrev spLc (K : PySem.W.Frag) (CL CS CO CV CW : Addr) : Sp := PuSp (fun (g : LW × Addr × Addr × Nat) vs H => vs = [.ref g.2.1, .ref g.2.2.1, .int (g.2.2.2 : Int)] ∧ LoopAt CL CS CO H g.2.1 g.1.L ∧ WayAt K CW H g.2.2.1 g.1.W ∧ LWOk g.1 ∧ 1 ≤ g.2.2.2 ∧ g.2.2.2 ≤ gwP g.1) fun g v _ => LeastC g.1 g.2.2.2 v
theorem ok_least_count {f : Addr} {fd : FuncData} (F : Fd K "least_count" "least_count" s_least_count [] [] f fd) (T : Txt K mg CL CS CO CV CW) (h1 : Has P w K mg base "greatest_count" 7 ["loop", "width"] (spGc CL CS CO)) (h2 : Has P w K mg base "found_differences" 9 ["loop", "way", "width", "count"] (spDiff K CL CS CO CV CW)) :
    FnOk P w K mg base CX0 10 f fd ["loop", "way", "width"] (spLc K CL CS CO CV CW) := by
  refine F.ok sc_least_count (fun vs H Q E h => ?_) (fun cdv A outer s H vs Q E hr h => ?_)
  · obtain ⟨g, ⟨rfl, _⟩, _⟩ := h
    rfl
  · obtain ⟨⟨g, lo, wa, wd⟩, ⟨rfl, hL, hW, ok, hw1, hwg⟩, k⟩ := h
    dsimp only at hL hW ok hw1 hwg k
    have hrr := ok.r
    have hgw : gwP g ≤ 37 := by unfold gwP; omega
    have hgc : gcP g wd ≤ 110 := by unfold gcP; omega
    refine wb_forR (k := ((gcP g wd + 1 : Nat) : Int)) T.range (VE.is (v_add (vp_call (P := fun v _ => v = .int (gcP g wd : Int)) h1 (hr.mono (by decide)) (lo, g, wd) (va_cons (v_nm (v := .ref lo) 0 rfl) (va_cons (v_nm (v := .int (wd : Int)) 2 rfl) va_nil)) (fun vs H1 e1 q => ⟨q, hL.ex e1, ok, by show wd ≤ 1000; omega⟩) (fun _ _ _ q => q)) v_int) (by rw [Int.natCast_add]; rfl)) (by omega) (by omega)
      (fun i σ' H' => Ex H H' ∧ (∀ c', c' < i → NoD g wd c') ∧ ∃ o, σ' = [some (.ref lo), some (.ref wa), some (.int (wd : Int)), o]) (fun H1 e1 => ⟨e1, fun c' z => absurd z (Nat.not_lt_zero _), none, rfl⟩) (fun i σ' H' hi r => ?_) (fun σ' H' r => ?_)
    · obtain ⟨eH, no, o, rfl⟩ := r
      have hi' : i ≤ gcP g wd := by omega
      refine wg_nm 3 sc_least_count.nd ?_
      have dp := ok.pre wd i hw1 hwg hi'
      by_cases hN : NoD g wd i
      · refine wb_no (tp_cmp (op_neD hr.units) (PA := DiffL (g.at wd i)) (PB := fun _ v H' => ∃ q, v = .ref q ∧ H' q = some (.lst [])) (vp_call h2 hr (g.at wd i, lo, wa) (va_cons (v_nm (v := .ref lo) 0 rfl) (va_cons (v_nm (v := .ref wa) 1 rfl) (va_cons (v_nm (v := .int (wd : Int)) 2 rfl) (va_cons (v_nm (v := .int (i : Int)) 3 rfl) va_nil)))) (fun vs H1 e1 q => ⟨q, dp, hL.ex (eH.trans e1), hW.ex (eH.trans e1)⟩) (fun _ _ _ q => q)) (fun x H1 e1 p1 => v_lstN va_nil (by simp)) fun x H1 y H2 e1 p1 e2 p2 Q1 k1 => ?_) fun H1 e1 => wb_nil ⟨eH.trans e1, fun c' hc' => ?_, _, rfl⟩
        · obtain ⟨q, xs, cs, rfl, hq, tx, mem⟩ := p1
          obtain ⟨q2, rfl, hq2⟩ := p2
          refine ⟨.list (cs.map (cellD g.L.z)), .list [], .lst (sq_of (e2 _ _ hq)) (tx.ex e2).dp, .lst (sq_of hq2) .nil, shaped_cells ok.lo.nm _, rfl, k1 _ _ (Ex.refl _) ?_⟩
          have : cs = [] := List.eq_nil_iff_forall_not_mem.mpr fun c hc => hN c ((mem c).mp hc)
          rw [eqv_nil, this]
          rfl
        · by_cases c : c' = i
          · rw [c]; exact hN
          · exact no c' (by omega)
      · refine wb_ifT (tp_cmp (op_neD hr.units) (PA := DiffL (g.at wd i)) (PB := fun _ v H' => ∃ q, v = .ref q ∧ H' q = some (.lst [])) (vp_call h2 hr (g.at wd i, lo, wa) (va_cons (v_nm (v := .ref lo) 0 rfl) (va_cons (v_nm (v := .ref wa) 1 rfl) (va_cons (v_nm (v := .int (wd : Int)) 2 rfl) (va_cons (v_nm (v := .int (i : Int)) 3 rfl) va_nil)))) (fun vs H1 e1 q => ⟨q, dp, hL.ex (eH.trans e1), hW.ex (eH.trans e1)⟩) (fun _ _ _ q => q)) (fun x H1 e1 p1 => v_lstN va_nil (by simp)) fun x H1 y H2 e1 p1 e2 p2 Q1 k1 => ?_) fun H1 e1 => wb_ret (v_nm (v := .int (i : Int)) 3 rfl) fun v H2 e2 p2 => k v H2 ((eH.trans e1).trans e2) (.inr ⟨i, p2, hi', hN, no⟩)
        obtain ⟨q, xs, cs, rfl, hq, tx, mem⟩ := p1
        obtain ⟨q2, rfl, hq2⟩ := p2
        refine ⟨.list (cs.map (cellD g.L.z)), .list [], .lst (sq_of (e2 _ _ hq)) (tx.ex e2).dp, .lst (sq_of hq2) .nil, shaped_cells ok.lo.nm _, rfl, k1 _ _ (Ex.refl _) ?_⟩
        have : cs.map (cellD g.L.z) ≠ [] := fun z => hN fun c hc => by
          have hm := (mem c).mpr hc
          rw [List.map_eq_nil_iff.mp z] at hm
          cases hm
        rw [eqv_nil, decide_eq_false this]
        rfl
    · obtain ⟨eH, no, o, rfl⟩ := r
      refine wb_ret v_non fun v H1 e1 p1 => k v H1 (eH.trans e1) (.inl ⟨p1, fun c hc => no c (by omega)⟩)
end
end Vw
end
section
/-! widths: least_wrong, first_wrong, is_safe, greatest_safe. -/
namespace Vw
open PySem PySem.Spec PyProof.Rows L2 Evl
def Good (g : LW) (w : Nat) : Prop := ∀ c, c ≤ gcP g w → NoD g w c
/-- what least_wrong finds -/
def LeastW (g : LW) (v : V) : Prop := (v = .non ∧ Good g (gwP g)) ∨ ∃ w : Nat, v = .int (w : Int) ∧ 1 ≤ w ∧ w ≤ gwP g ∧ ¬ Good g w ∧ (∀ w', 1 ≤ w' → w' < w → Good g w') ∧ ¬ Good g (gwP g)
theorem leastC_non {g : LW} {w : Nat} {v : V} (h : LeastC g w v) : decide (v = .non) = true ↔ Good g w := by
  rcases h with ⟨rfl, h⟩ | ⟨c, rfl, hc, hn, _⟩
  · simp
    exact h
  · simp
    exact fun z => hn (z c hc)
theorem leastC_dec {g : LW} {w : Nat} {v : V} (h : LeastC g w v) {t : Bool} (ht : t = true ↔ Good g w) : decide (v = .non) = t := by
  rw [Bool.eq_iff_iff, leastC_non h, ht]
open Classical in
noncomputable def goodB (g : LW) (w : Nat) : Bool := decide (Good g w)
theorem goodB_iff (g : LW) (w : Nat) : goodB g w = true ↔ Good g w := by
  unfold goodB
  simp
section
variable {X : Cx} {σ : L2.St} {H : Hp} {a : Expr} {pos p : Pos} {j : Nat} {P P' : VPd}
/-- xs[0], xs a list made on the way -/
theorem vp_ix0 (ha : VP X σ H a P) (k : ∀ v H1, Ex H H1 → P v H1 → ∃ q y ys, v = .ref q ∧ SqL X.K H1 q (y :: ys) ∧ P' y H1) (m : Mono P') (hs : PlainIx (.Constant (.int 0) j p) := by intro _ _; rfl) : VP X σ H (.Subscript a (.Constant (.int 0) j p) pos) P' := fun H1 e1 Q q =>
  toE (pe_ix ix_list we_pe we_pe hs) (ha H1 e1 _ fun x H2 e2 p2 => (v_int : VE X σ H2 _ _) H2 (Ex.refl _) _ fun y H3 e3 p3 => by
    obtain ⟨l, y0, ys, rfl, hx, py⟩ := k x H2 (e1.trans e2) p2
    subst p3
    exact ⟨l, y0 :: ys, 0, y0, rfl, rfl, ex_l e3 hx, atI_nat (j := 0) rfl, q y0 H3 (e2.trans e3) (m _ _ _ e3 py)⟩)
end
section
variable {P : Program} {w : World} {K : PySem.W.Frag} {mg : Str → Option Value} {base : Heap} {CL CS CO CV CW : Addr}
theorem gw_pos (g : LW) : 1 ≤ gwP g := by unfold gwP; omega
abbrev preLw (K : PySem.W.Frag) (CL CS CO CW : Addr) (g : LW × Addr × Addr) (vs : List V) (H : Hp) : Prop := vs = [.ref g.2.1, .ref g.2.2] ∧ LoopAt CL CS CO H g.2.1 g.1.L ∧ WayAt K CW H g.2.2 g.1.W ∧ LWOk g.1
abbrev spLw (K : PySem.W.Frag) (CL CS CO CV CW : Addr) : Sp := PuSp (preLw K CL CS CO CW) fun g v _ => LeastW g.1 v
theorem ok_least_wrong {f : Addr} {fd : FuncData} (F : Fd K "least_wrong" "least_wrong" s_least_wrong [] [] f fd) (T : Txt K mg CL CS CO CV CW) (h1 : Has P w K mg base "greatest_width" 7 ["loop"] (spGw CL CS CO)) (h2 : Has P w K mg base "least_count" 10 ["loop", "way", "width"] (spLc K CL CS CO CV CW)) :
    FnOk P w K mg base CX0 11 f fd ["loop", "way"] (spLw K CL CS CO CV CW) := by
  refine F.ok sc_least_wrong (fun vs H Q E h => ?_) (fun cdv A outer s H vs Q E hr h => ?_)
  · obtain ⟨g, ⟨rfl, _⟩, _⟩ := h
    rfl
  · obtain ⟨⟨g, lo, wa⟩, ⟨rfl, hL, hW, ok⟩, k⟩ := h
    dsimp only at hL hW ok k
    have hrr := ok.r
    have hgw : gwP g ≤ 37 := by unfold gwP; omega
    have hg1 := gw_pos g
    refine wb_if (t := goodB g (gwP g)) (tp_isN (P := fun v _ => LeastC g (gwP g) v) (vp_call h2 hr (g, lo, wa, gwP g) (va_cons (v_nm (v := .ref lo) 0 rfl) (va_cons (v_nm (v := .ref wa) 1 rfl) (va_cons (vp_call (P := fun v _ => v = .int (gwP g : Int)) h1 (hr.mono (by decide)) (lo, g) (va_cons (v_nm (v := .ref lo) 0 rfl) va_nil) (fun vs H1 e1 q => ⟨q, hL.ex e1, ok⟩) (fun _ _ _ q => q)) va_nil))) (fun vs H1 e1 q => ⟨q, hL.ex e1, hW.ex e1, ok, hg1, Nat.le_refl _⟩) (fun _ _ _ q => q)) fun v H1 _ q => leastC_dec q (goodB_iff _ _)) (fun ht H1 e1 => ?_) (fun ht H1 e1 => ?_)
    · exact wb_ret v_non fun v H2 e2 p2 => k v H2 (e1.trans e2) (.inl ⟨p2, (goodB_iff _ _).mp ht⟩)
    · have bad : ¬ Good g (gwP g) := fun z => by rw [(goodB_iff _ _).mpr z] at ht; cases ht
      refine wb_nil ?_
      refine wb_set 2 sc_least_wrong.nd v_int fun v H2 e2 p2 => ?_
      subst p2
      refine wb_while (fun m σ' H' => Ex H H' ∧ ∃ i : Nat, 1 ≤ i ∧ i ≤ gwP g ∧ m = gwP g - i ∧ (∀ w', 1 ≤ w' → w' < i → Good g w') ∧ σ' = [some (.ref lo), some (.ref wa), some (.int (i : Int))]) (gwP g - 1) ⟨e1.trans e2, 1, Nat.le_refl _, hg1, rfl, fun w' a b => absurd b (by omega), rfl⟩ fun m σ' H' r => ?_
      obtain ⟨eH, i, hi1, hig, rfl, hall, rfl⟩ := r
      refine ⟨goodB g i, tp_isN (P := fun v _ => LeastC g i v) (vp_call h2 hr (g, lo, wa, i) (va_cons (v_nm (v := .ref lo) 0 rfl) (va_cons (v_nm (v := .ref wa) 1 rfl) (va_cons (v_nm (v := .int (i : Int)) 2 rfl) va_nil))) (fun vs H3 e3 q => ⟨q, hL.ex (eH.trans e3), hW.ex (eH.trans e3), ok, hi1, hig⟩) (fun _ _ _ q => q)) fun v H3 _ q => leastC_dec q (goodB_iff _ _), fun ht H3 e3 => ?_, fun ht H3 e3 => ?_⟩
      · have gi := (goodB_iff _ _).mp ht
        have lt : i < gwP g := by
          rcases Nat.lt_or_ge i (gwP g) with c | c
          · exact c
          · exact absurd (show Good g (gwP g) by rw [show gwP g = i by omega]; exact gi) bad
        refine ⟨fun σ2 H4 => Ex H H4 ∧ σ2 = [some (.ref lo), some (.ref wa), some (.int ((i + 1 : Nat) : Int))], fun σ2 H4 ⟨a, b⟩ => ⟨gwP g - (i + 1), by omega, a, i + 1, by omega, lt, rfl, fun w' x y => ?_, b⟩, ?_⟩
        · by_cases c : w' = i
          · rw [c]; exact gi
          · exact hall w' x (by omega)
        · refine wb_set 2 sc_least_wrong.nd (v_add (v_nm (v := .int (i : Int)) 2 rfl) v_int) fun v H4 e4 p4 => wb_nil ⟨(eH.trans e3).trans e4, ?_⟩
          subst p4
          rfl
      · have nb : ¬ Good g i := fun z => by rw [(goodB_iff _ _).mpr z] at ht; cases ht
        exact wb_ret (v_nm (v := .int (i : Int)) 2 rfl) fun v H4 e4 p4 => k v H4 ((eH.trans e3).trans e4) (.inr ⟨i, p4, hi1, hig, nb, hall, bad⟩)
/-- what first_wrong finds -/
def FirstW (g : LW) : VPd := fun v H' => (v = .non ∧ Good g (gwP g)) ∨ ∃ (w c : Nat) (x : Int), Tp H' v (.tuple [.int (w : Int), .int (c : Int), cellD g.L.z x]) ∧ 1 ≤ w ∧ w ≤ gwP g ∧ ¬ Good g (gwP g) ∧ (∀ w', 1 ≤ w' → w' < w → Good g w') ∧ c ≤ gcP g w ∧ (∀ c', c' < c → NoD g w c') ∧ DiffC (g.at w c) x
theorem way_bun {g : LW} (ok : LWOk g) : BunOk g.W.bun ∧ ∀ b ∈ g.W.bun, b.2 < (g.L.ss.length : Int) := by
  have l1 := ok.lo.l1
  have l5 := ok.lo.l5
  rw [ok.bn]
  unfold bunP BunOk
  cases g.b with
  | true =>
    simp
    omega
  | false => simp
abbrev spFw (K : PySem.W.Frag) (CL CS CO CV CW : Addr) : Sp := PuSp (preLw K CL CS CO CW) fun g => FirstW g.1
theorem ok_first_wrong {f : Addr} {fd : FuncData} (F : Fd K "first_wrong" "first_wrong" s_first_wrong [] [] f fd) (T : Txt K mg CL CS CO CV CW) (h1 : Has P w K mg base "check_way" 4 ["loop", "way"] (spCheckWay K CL CS CO CW)) (h2 : Has P w K mg base "least_wrong" 11 ["loop", "way"] (spLw K CL CS CO CV CW)) (h3 : Has P w K mg base "least_count" 10 ["loop", "way", "width"] (spLc K CL CS CO CV CW))
    (h4 : Has P w K mg base "found_differences" 9 ["loop", "way", "width", "count"] (spDiff K CL CS CO CV CW)) : FnOk P w K mg base CX0 12 f fd ["loop", "way"] (spFw K CL CS CO CV CW) := by
  refine F.ok sc_first_wrong (fun vs H Q E h => ?_) (fun cdv A outer s H vs Q E hr h => ?_)
  · obtain ⟨g, ⟨rfl, _⟩, _⟩ := h
    rfl
  · obtain ⟨⟨g, lo, wa⟩, ⟨rfl, hL, hW, ok⟩, k⟩ := h
    dsimp only at hL hW ok k
    obtain ⟨bo, bl⟩ := way_bun ok
    refine wb_drop (P := fun _ _ => True) (vp_call h1 (hr.mono (by decide)) (lo, g.L, wa, g.W) (va_cons (v_nm (v := .ref lo) 0 rfl) (va_cons (v_nm (v := .ref wa) 1 rfl) va_nil)) (fun vs H1 e1 q => ⟨q, hL.ex e1, hW.ex e1, bo, bl, ok.lo.l5⟩) (fun _ _ _ q => q)) fun v H1 e1 _ => ?_
    refine wb_set 2 sc_first_wrong.nd (P := fun v _ => LeastW g v) (vp_call h2 hr (g, lo, wa) (va_cons (v_nm (v := .ref lo) 0 rfl) (va_cons (v_nm (v := .ref wa) 1 rfl) va_nil)) (fun vs H2 e2 q => ⟨q, hL.ex (e1.trans e2), hW.ex (e1.trans e2), ok⟩) (fun _ _ _ q => q)) fun v H2 e2 p2 => ?_
    have e12 := e1.trans e2
    rcases p2 with ⟨rfl, hg⟩ | ⟨wd, rfl, w1, wg, nb, hall, bad⟩
    · refine wb_ifT (VT.is (t_isN (v_nm (v := .non) 2 rfl)) rfl) fun H3 e3 => ?_
      exact wb_ret v_non fun v H4 e4 p4 => k v H4 ((e12.trans e3).trans e4) (.inl ⟨p4, hg⟩)
    · refine wb_no (VT.is (t_isN (v_nm (v := .int (wd : Int)) 2 rfl)) rfl) fun H3 e3 => ?_
      have e13 := e12.trans e3
      refine wb_set 3 sc_first_wrong.nd (P := fun v _ => LeastC g wd v) (vp_call h3 (hr.mono (by decide)) (g, lo, wa, wd) (va_cons (v_nm (v := .ref lo) 0 rfl) (va_cons (v_nm (v := .ref wa) 1 rfl) (va_cons (v_nm (v := .int (wd : Int)) 2 rfl) va_nil))) (fun vs H4 e4 q => ⟨q, hL.ex (e13.trans e4), hW.ex (e13.trans e4), ok, w1, wg⟩) (fun _ _ _ q => q)) fun v H4 e4 p4 => ?_
      have e14 := e13.trans e4
      rcases p4 with ⟨rfl, hg⟩ | ⟨c, rfl, hc, hn, hmin⟩
      · exact absurd hg nb
      · have dp := ok.pre wd c w1 wg hc
        refine wb_ret (P := FirstW g) (vp_tup (vap_v (v_nm (v := .int (wd : Int)) 2 rfl) (vap_v (v_nm (v := .int (c : Int)) 3 rfl) (vap_cons (P := fun v H' => ∃ x, Tp H' v (cellD g.L.z x) ∧ DiffC (g.at wd c) x) (vp_ix0 (P := DiffL (g.at wd c)) (vp_call h4 (hr.mono (by decide)) (g.at wd c, lo, wa) (va_cons (v_nm (v := .ref lo) 0 rfl) (va_cons (v_nm (v := .ref wa) 1 rfl) (va_cons (v_nm (v := .int (wd : Int)) 2 rfl) (va_cons (v_nm (v := .int (c : Int)) 3 rfl) va_nil)))) (fun vs H5 e5 q => ⟨q, dp, hL.ex (e14.trans e5), hW.ex (e14.trans e5)⟩) (fun _ _ _ q => q)) (fun v H5 e5 p5 => ?_) (fun v H5 H6 e ⟨x, a, b⟩ => ⟨x, a.ex e, b⟩)) (fun v H5 H6 e ⟨x, a, b⟩ => ⟨x, a.ex e, b⟩) fun _ _ _ _ => vap_nil))) fun vs H5 e5 q => ?_) fun v H5 e5 p5 => k v H5 (e14.trans e5) p5
        · obtain ⟨q, xs, cs, rfl, hq, tx, mem⟩ := p5
          have ne : cs ≠ [] := fun z => hn fun x hx => by
            have hm := (mem x).mpr hx
            rw [z] at hm
            cases hm
          obtain ⟨x, cs, rfl⟩ := List.exists_cons_of_ne_nil ne
          cases tx with
          | cons t ts => exact ⟨q, _, _, rfl, sq_of hq, x, t, (mem x).mp List.mem_cons_self⟩
        · obtain ⟨_, rfl, _, rfl, u, _, rfl, ⟨x, t, hx⟩, rfl⟩ := q
          exact ⟨sz_of (by simp), fun p hp => .inr ⟨wd, c, x, .tup upd_same (.cons (.int _) (.cons (.int _) (.cons (t.kt (kt_new hp)) .nil))), w1, wg, bad, hall, hc, hmin, hx⟩⟩
abbrev spSafe (K : PySem.W.Frag) (CL CS CO CV CW : Addr) : Sp := PuSp (preLw K CL CS CO CW) fun g v _ => ∃ b, v = .bl b ∧ (b = true ↔ Good g.1 (gwP g.1))
theorem leastW_non {g : LW} {v : V} (h : LeastW g v) : decide (v = .non) = true ↔ Good g (gwP g) := by
  rcases h with ⟨rfl, h⟩ | ⟨c, rfl, _, _, _, _, h⟩
  · simp
    exact h
  · simp
    exact h
theorem ok_is_safe {f : Addr} {fd : FuncData} (F : Fd K "is_safe" "is_safe" s_is_safe [] [] f fd) (T : Txt K mg CL CS CO CV CW) (h1 : Has P w K mg base "check_way" 4 ["loop", "way"] (spCheckWay K CL CS CO CW)) (h2 : Has P w K mg base "least_wrong" 11 ["loop", "way"] (spLw K CL CS CO CV CW)) :
    FnOk P w K mg base CX0 12 f fd ["loop", "way"] (spSafe K CL CS CO CV CW) := by
  refine F.ok sc_is_safe (fun vs H Q E h => ?_) (fun cdv A outer s H vs Q E hr h => ?_)
  · obtain ⟨g, ⟨rfl, _⟩, _⟩ := h
    rfl
  · obtain ⟨⟨g, lo, wa⟩, ⟨rfl, hL, hW, ok⟩, k⟩ := h
    dsimp only at hL hW ok k
    obtain ⟨bo, bl⟩ := way_bun ok
    refine wb_drop (P := fun _ _ => True) (vp_call h1 (hr.mono (by decide)) (lo, g.L, wa, g.W) (va_cons (v_nm (v := .ref lo) 0 rfl) (va_cons (v_nm (v := .ref wa) 1 rfl) va_nil)) (fun vs H1 e1 q => ⟨q, hL.ex e1, hW.ex e1, bo, bl, ok.lo.l5⟩) (fun _ _ _ q => q)) fun v H1 e1 _ => ?_
    refine wb_ret (P := fun v _ => ∃ b, v = V.bl b ∧ (b = true ↔ Good g (gwP g))) (vp_cmp op_isN (PA := fun v _ => LeastW g v) (PB := fun _ v _ => v = .non) (vp_call h2 hr (g, lo, wa) (va_cons (v_nm (v := .ref lo) 0 rfl) (va_cons (v_nm (v := .ref wa) 1 rfl) va_nil)) (fun vs H2 e2 q => ⟨q, hL.ex (e1.trans e2), hW.ex (e1.trans e2), ok⟩) (fun _ _ _ q => q)) (fun x H2 e2 p2 => v_non) fun x H2 y H3 e2 p2 e3 p3 Q1 k1 => ?_) fun v H2 e2 p2 => k v H2 (e1.trans e2) p2
    exact ⟨p3, k1 _ _ (Ex.refl _) ⟨_, rfl, leastW_non p2⟩⟩
abbrev spGs (K : PySem.W.Frag) (CL CS CO CV CW : Addr) : Sp := PuSp (preLw K CL CS CO CW) fun g v _ => (v = .non ∧ Good g.1 (gwP g.1)) ∨ ∃ w : Nat, v = .int ((w : Int) - 1) ∧ 1 ≤ w ∧ w ≤ gwP g.1 ∧ ¬ Good g.1 w ∧ (∀ w', 1 ≤ w' → w' < w → Good g.1 w') ∧ ¬ Good g.1 (gwP g.1)
theorem ok_greatest_safe {f : Addr} {fd : FuncData} (F : Fd K "greatest_safe" "greatest_safe" s_greatest_safe [] [] f fd) (T : Txt K mg CL CS CO CV CW) (h1 : Has P w K mg base "check_way" 4 ["loop", "way"] (spCheckWay K CL CS CO CW)) (h2 : Has P w K mg base "least_wrong" 11 ["loop", "way"] (spLw K CL CS CO CV CW)) :
    FnOk P w K mg base CX0 12 f fd ["loop", "way"] (spGs K CL CS CO CV CW) := by
  refine F.ok sc_greatest_safe (fun vs H Q E h => ?_) (fun cdv A outer s H vs Q E hr h => ?_)
  · obtain ⟨g, ⟨rfl, _⟩, _⟩ := h
    rfl
  · obtain ⟨⟨g, lo, wa⟩, ⟨rfl, hL, hW, ok⟩, k⟩ := h
    dsimp only at hL hW ok k
    obtain ⟨bo, bl⟩ := way_bun ok
    refine wb_drop (P := fun _ _ => True) (vp_call h1 (hr.mono (by decide)) (lo, g.L, wa, g.W) (va_cons (v_nm (v := .ref lo) 0 rfl) (va_cons (v_nm (v := .ref wa) 1 rfl) va_nil)) (fun vs H1 e1 q => ⟨q, hL.ex e1, hW.ex e1, bo, bl, ok.lo.l5⟩) (fun _ _ _ q => q)) fun v H1 e1 _ => ?_
    refine wb_set 2 sc_greatest_safe.nd (P := fun v _ => LeastW g v) (vp_call h2 hr (g, lo, wa) (va_cons (v_nm (v := .ref lo) 0 rfl) (va_cons (v_nm (v := .ref wa) 1 rfl) va_nil)) (fun vs H2 e2 q => ⟨q, hL.ex (e1.trans e2), hW.ex (e1.trans e2), ok⟩) (fun _ _ _ q => q)) fun v H2 e2 p2 => ?_
    have e12 := e1.trans e2
    rcases p2 with ⟨rfl, hg⟩ | ⟨wd, rfl, w1, wg, nb, hall, bad⟩
    · refine wb_ifT (VT.is (t_isN (v_nm (v := .non) 2 rfl)) rfl) fun H3 e3 => ?_
      exact wb_ret v_non fun v H4 e4 p4 => k v H4 ((e12.trans e3).trans e4) (.inl ⟨p4, hg⟩)
    · refine wb_no (VT.is (t_isN (v_nm (v := .int (wd : Int)) 2 rfl)) rfl) fun H3 e3 => ?_
      exact wb_ret (v_sub (v_nm (v := .int (wd : Int)) 2 rfl) v_int) fun v H4 e4 p4 => k v H4 ((e12.trans e3).trans e4) (.inr ⟨wd, p4, w1, wg, nb, hall, bad⟩)
end
end Vw
end
section
/-! The law's draws: a source whose list changes. -/
namespace Vw
open PySem PySem.Spec PyProof.Rows L2 Evl
/-- all but the object at S as it stood -/
abbrev Em (S : Addr) (H H' : Hp) : Prop := ExB S H H'
theorem em_ex {S : Addr} {H H' : Hp} (e : Ex H H') : Em S H H' := fun a o _ h => e a o h
theorem Em.ex {S : Addr} {H H1 H2 : Hp} (a : Em S H H1) (b : Ex H1 H2) : Em S H H2 := fun x o n h => b x o (a x o n h)
theorem Em.put {S : Addr} {H H1 : Hp} {u : HO} (a : Em S H H1) : Em S H (upd H1 S u) := ExB.upd a
theorem Em.tr {S : Addr} {H H1 H2 : Hp} (a : Em S H H1) (b : Em S H1 H2) : Em S H H2 := fun x o n h => b x o n (a x o n h)
/-- the source at S, its numbers at N -/
def SrcN (H : Hp) (S N : Addr) : Prop := ∃ (is : List Int) (pos : Nat) (big st : Int), H S = some (.lst [.ref N, .int (pos : Int), .int big, .int st]) ∧ H N = some (.lst (is.map V.int)) ∧ N ≠ S
theorem SrcN.ex {H H' : Hp} {S N : Addr} (h : SrcN H S N) (e : Ex H H') : SrcN H' S N := let ⟨is, p, b, st, h1, h2, h3⟩ := h; ⟨is, p, b, st, e _ _ h1, e _ _ h2, h3⟩
theorem SrcN.lst {H : Hp} {S N : Addr} (h : SrcN H S N) : ∃ xs, H S = some (.lst xs) := let ⟨_, _, _, _, h1, _⟩ := h; ⟨_, h1⟩
/-- no other object changes it -/
theorem SrcN.put {H : Hp} {S N a : Addr} {u : HO} (h : SrcN H S N) (h1 : a ≠ S) (h2 : a ≠ N) : SrcN (upd H a u) S N := let ⟨is, p, b, st, q1, q2, q3⟩ := h; ⟨is, p, b, st, by rw [upd_ne h1.symm]; exact q1, by rw [upd_ne h2.symm]; exact q2, q3⟩
theorem SrcN.nums {H : Hp} {S N : Addr} (h : SrcN H S N) : ∃ xs, H N = some (.lst xs) := let ⟨_, _, _, _, _, h1, _⟩ := h; ⟨_, h1⟩
theorem em_kl {S : Addr} {H H' : Hp} {xs : List V} (hS : H S = some (.lst xs)) (e : Em S H H') : KL H H' := fun a o h n => e a o (fun z => by rw [z, hS] at h; exact n xs (Option.some.inj h).symm) h
section
variable {X : Cx} {σ : L2.St} {H H' : Hp} {a b e o i value : Expr} {v x y : V} {P : VPd} {pos p pos' : Pos} {D : Ends} {sts : List Stmt}
/-- an expression that only adds, read plainly -/
theorem we_vp {Q : VK} (h : VP X σ H e P) (k : ∀ v H1, Ex H H1 → P v H1 → Q v H1) : WE X e σ H Q := h H (Ex.refl H) Q k
/-- name = e, whatever e does -/
theorem wb_setW (i : Nat) {n : Str} (hN : X.N.Nodup) (h : WE X e σ H fun v H1 => WB X sts D (σ.set i (some v)) H1) (hi : X.N[i]? = some n := by rfl) (hx : Loc X.env.scope n := by first | exact Or.inl rfl | exact Or.inr rfl)
    (hs : swapsWith e (some (.Name n pos')) pos.line X.env = pure false := by rfl) (hf : X.fn n = true ∨ X.env.scope.names.lookup n = some .local := by first | exact .inl rfl | exact .inr rfl) : WB X (.Assign [.Name n pos'] e pos :: sts) D σ H :=
  wb_cons (toS (ps_set hN hi hx we_pe hs hf) h)
theorem wb_retW (h : WE X e σ H D.rt) : WB X (.Return (some e) pos :: sts) D σ H := wb_cons (toS (ps_ret we_pe) h)
/-- xs[k] = e -/
theorem wb_setL {S : Addr} {xs : List V} {k : Int} {j : Nat} (hv : VP X σ H value P) (ho : VE X σ H o (.ref S)) (hi : VE X σ H i (.int k)) (hS : H S = some (.lst xs)) (hj : ixN xs.length k = some j) (kk : ∀ v H1, Ex H H1 → P v H1 → ∀ H2, Ex H1 H2 → WB X sts D σ (upd H2 S (.lst (xs.set j v))))
    (hs : swapsWithSole [.Subscript o i pos'] value pos.line X.env = pure false := by rfl) (hw : swappedStores [.Subscript o i pos'] value X.env = pure none := by rfl) (h1 : (assignEach [.Subscript o i pos'] X.env).map (·.2) = [assign (.Subscript o i pos') X.env] := by rfl)
    (ha : ∀ v, assign (.Subscript o i pos') X.env v = (do
      let ov ← holding [v] (eval o X.env)
      let iv ← holding [v, ov] (eval i X.env)
      standAt pos'
      holding [v, ov, iv] (setItem ov iv v)
      release [v, ov, iv] []) := by intro _; rfl) : WB X (.Assign [.Subscript o i pos'] value pos :: sts) D σ H :=
  wb_cons (toS (ps_asg we_pe (pg_sub we_pe we_pe set_list ha) hs hw h1) (hv H (Ex.refl H) _ fun v H1 e1 p1 => ho H1 e1 _ fun x H2 e2 p2 => hi H2 (e1.trans e2) _ fun y H3 e3 p3 => by
    subst p2 p3
    exact ⟨S, xs, k, j, rfl, rfl, ((e1.trans e2).trans e3) _ _ hS, hj, kk v H1 e1 p1 H3 (e2.trans e3)⟩))
theorem v_pow {m n : Int} (ha : VE X σ H a (.int m)) (hb : VE X σ H b (.int n)) (hc : CPow m n) : VE X σ H (.BinOp a .Pow b pos) (.int (m ^ n.toNat)) := v_op op_pow ha hb (rv_I hc)
/-- int(i) -/
theorem v_int1 {m : Int} (hm : X.mg "int" = none) (ha : VE X σ H a (.int m)) (hg : Gl X "int" := by rfl) (h1 : starEach [a] X.env = (false, eval a X.env) :: starEach [] X.env := by rfl) (hpl : (backTo pos (starEach [] X.env)).any (·.1) = false := by rfl) : VE X σ H (.Call (.Name "int" p) [a] [] pos) (.int m) :=
  vp_ty call_int1 hm boot_int (va_cons ha va_nil h1) (fun vs H1 e1 q Q k1 => by
    subst q
    exact .inl ⟨m, rfl, k1 _ H1 (Ex.refl _) rfl⟩) hg (by decide) (by decide) h1 hpl
end
/-- a draw -/
def DrawSp {G : Type} (pre : G → List V → Hp → Prop) (src : G → Addr) (post : G → VPd) : Sp := fun vs H Q _ => ∃ g N, pre g vs H ∧ SrcN H (src g) N ∧ ∀ v H', Em (src g) H H' → SrcN H' (src g) N → post g v H' → Q v H'
section
variable {X : Cx} {σ : L2.St} {H H' : Hp} {e : Expr} {es : List Expr} {pos p : Pos} {n : Str} {k : Nat} {ps : List Str} {G : Type} {pre : G → List V → Hp → Prop} {src : G → Addr} {post : G → VPd} {S : List V → Hp → Prop}
/-- such a def, called with arguments that only add -/
theorem we_draw (F : Has X.prog X.w X.K X.mg X.base n k ps (DrawSp pre src post)) (hr : Room k X.A) (ha : VAP X σ H (e :: es) S) {Q : VK} (hp : ∀ vs H1, Ex H H1 → S vs H1 → ∃ g N, pre g vs H1 ∧ SrcN H1 (src g) N ∧ ∀ v H', Em (src g) H1 H' → SrcN H' (src g) N → post g v H' → Q v H')
    (hg : Gl X n := by rfl) (hdb : (n == ("__debug__" : Str)) = false := by decide) (he : starEach (e :: es) X.env = (false, eval e X.env) :: starEach es X.env := by rfl) (hpl : (backTo pos (starEach es X.env)).any (·.1) = false := by rfl) : WE X (.Call (.Name n p) (e :: es) [] pos) σ H Q := by
  obtain ⟨f, fd, F1, F2, F3, F4⟩ := F.ex
  refine toE (pe_call F1 hr hg F2 F3 F4 .nil pass0 wa_pa hdb he hpl) (ha H (Ex.refl H) _ fun vs H2 e2 p2 => ?_)
  show DrawSp pre src post (vs ++ []) H2 Q E0
  rw [List.append_nil]
  exact hp vs H2 e2 p2
end
section
variable {P : Program} {w : World} {K : PySem.W.Frag} {mg : Str → Option Value} {base : Heap} {CL CS CO CV CW : Addr}
abbrev spDraw : Sp := DrawSp (fun (g : Addr × Int) vs _ => vs = [.ref g.1, .int g.2] ∧ 1 ≤ g.2 ∧ g.2 ≤ 1000) (fun g => g.1) fun g v _ => ∃ r : Int, v = .int r ∧ 0 ≤ r ∧ r < g.2
theorem ok_law_draw {f : Addr} {fd : FuncData} (F : Fd K "_law_draw" "_law_draw" s_law_draw [] [] f fd) (T : Txt K mg CL CS CO CV CW) : FnOk P w K mg base CX0 1 f fd ["source", "limit"] spDraw := by
  refine F.ok sc_law_draw (fun vs H Q E h => ?_) (fun cdv A outer s H vs Q E hr h => ?_)
  · obtain ⟨g, N, ⟨rfl, _⟩, _⟩ := h
    rfl
  · obtain ⟨⟨S, lim⟩, N, ⟨rfl, l1, l2⟩, ⟨is, ps, big, st, hS, hNn, hne⟩, k⟩ := h
    dsimp only at l1 l2 hS hNn hne k
    -- behind the first if
    have rest : ∀ (H1 : Hp) (big st : Int) (ps : Nat) (o : Option V), Em S H H1 → H1 S = some (.lst [.ref N, .int (ps : Int), .int big, .int st]) → H1 N = some (.lst (is.map V.int)) → WB (cxOf CX0 P w K mg base n_law_draw "_law_draw" (defScope s_law_draw) f cdv A outer s H E).nox ((defBody s_law_draw).drop 1) { nx := fun _ H' => Q .non H', rt := Q } [some (.ref S), some (.int lim), o, none] H1 := fun H1 big st ps o eH hS hN => by
      show WB _ (_ :: _ :: _ :: []) _ _ _
      refine wb_if (t_ge (v_ixL (v := .int big) (v_nm (v := .ref S) 0 rfl) v_int (sq_of hS) (by rfl)) (v_pow v_int v_int ⟨by decide, by decide, by decide⟩)) (fun ht H2 e2 => ?_) (fun ht H2 e2 => ?_)
      · refine wb_set 3 sc_law_draw.nd (v_mod (v_int1 T.int (v_ixL (v := .int big) (v_nm (v := .ref S) 0 rfl) v_int (sq_of (e2 _ _ hS)) (by rfl))) (v_nm (v := .int lim) 1 rfl) (by omega)) fun v H3 e3 p3 => ?_
        subst p3
        refine wb_setL (v_fdiv (v_ixL (v := .int big) (v_nm (v := .ref S) 0 rfl) v_int (sq_of ((e2.trans e3) _ _ hS)) (by rfl)) (v_nm (v := .int lim) 1 rfl) ⟨by omega, by omega⟩) (v_nm (v := .ref S) 0 rfl) v_int ((e2.trans e3) _ _ hS) (j := 2) (by rfl) fun v H4 e4 p4 H5 e5 => ?_
        subst p4
        have eAll := ((e2.trans e3).trans e4).trans e5
        refine wb_ret (v_nm (v := .int (big % lim)) 3 rfl) fun v H6 e6 p6 => k v H6 (((eH.ex eAll).put).ex e6) ⟨is, ps, big / lim, st, e6 _ _ upd_same, e6 _ _ (by rw [upd_ne hne]; exact eAll _ _ hN), hne⟩ ⟨_, p6, Int.emod_nonneg _ (by omega), Int.emod_lt_of_pos _ (by omega)⟩
      · refine wb_nil ?_
        refine wb_setL (v_mod (v_int1 T.int (v_add (v_mul (v_ixL (v := .int st) (v_nm (v := .ref S) 0 rfl) v_int (sq_of (e2 _ _ hS)) (by rfl)) v_int (.inr ⟨by decide, by decide⟩)) v_int)) v_int (by decide)) (v_nm (v := .ref S) 0 rfl) v_int (e2 _ _ hS) (j := 3) (by rfl) fun v H3 e3 p3 H4 e4 => ?_
        subst p3
        have eAll := (e2.trans e3).trans e4
        refine wb_ret (v_mod (v_int1 T.int (v_fdiv (v_ixL (v_nm (v := .ref S) 0 rfl) v_int (sq_of upd_same) (by rfl)) v_int ⟨by decide, by decide⟩)) (v_nm (v := .int lim) 1 rfl) (by omega)) fun v H5 e5 p5 => k v H5 (((eH.ex eAll).put).ex e5) ⟨is, ps, big, _, e5 _ _ upd_same, e5 _ _ (by rw [upd_ne hne]; exact eAll _ _ hN), hne⟩ ⟨_, p5, Int.emod_nonneg _ (by omega), Int.emod_lt_of_pos _ (by omega)⟩
    refine wb_if (w_t (w_and (t_lt (v_ixL (v := .int big) (v_nm (v := .ref S) 0 rfl) v_int (sq_of hS) (by rfl)) (v_pow v_int v_int ⟨by decide, by decide, by decide⟩)) fun _ => w_and1 (t_lt (v_ixL (v := .int (ps : Int)) (v_nm (v := .ref S) 0 rfl) v_int (sq_of hS) (by rfl)) (v_len (k := is.length) T.len (v_ixL (v := .ref N) (v_nm (v := .ref S) 0 rfl) v_int (sq_of hS) (by rfl)) fun H' e' => .inl ⟨_, sq_of (e' _ _ hNn), by rw [List.length_map]⟩)))) (fun ht H1 e1 => ?_) (fun ht H1 e1 => ?_)
    · have lt : ps < is.length := by
        have := (Bool.and_eq_true_iff.mp ht).2
        have := of_decide_eq_true this
        omega
      have hx : atI (is.map V.int) (ps : Int) = some (.int is[ps]) := atI_nat (by rw [List.getElem?_map, List.getElem?_eq_getElem lt]; rfl)
      generalize is[ps] = cell at hx
      refine wb_set 2 sc_law_draw.nd (v_int1 T.int (v_ixL (v := .int cell) (v_ixL (v := .ref N) (v_nm (v := .ref S) 0 rfl) v_int (sq_of (e1 _ _ hS)) (by rfl)) (v_ixL (v := .int (ps : Int)) (v_nm (v := .ref S) 0 rfl) v_int (sq_of (e1 _ _ hS)) (by rfl)) (sq_of (e1 _ _ hNn)) hx)) fun v H2 e2 p2 => ?_
      subst p2
      have e12 := e1.trans e2
      refine wb_setL (v_add (v_ixL (v := .int (ps : Int)) (v_nm (v := .ref S) 0 rfl) v_int (sq_of (e12 _ _ hS)) (by rfl)) v_int) (v_nm (v := .ref S) 0 rfl) v_int (e12 _ _ hS) (j := 1) (by rfl) fun v H3 e3 p3 H4 e4 => ?_
      subst p3
      have e14 := (e12.trans e3).trans e4
      refine wb_setL v_int (v_nm (v := .ref S) 0 rfl) v_int upd_same (j := 2) (by rfl) fun v H5 e5 p5 H6 e6 => ?_
      subst p5
      have m6 : Em S H (upd H6 S (.lst [.ref N, .int ((ps : Int) + 1), .int 0, .int st])) := (((em_ex e14).put).ex (e5.trans e6)).put
      have s6 : (upd H6 S (.lst [.ref N, .int ((ps : Int) + 1), .int 0, .int st])) S = some (.lst [.ref N, .int ((ps + 1 : Nat) : Int), .int 0, .int st]) := by rw [upd_same, Int.natCast_add]; rfl
      have n6 := m6 _ _ hne hNn
      show WB _ _ _ _ (upd H6 S (.lst [.ref N, .int ((ps : Int) + 1), .int 0, .int st]))
      generalize upd H6 S (.lst [.ref N, .int ((ps : Int) + 1), .int 0, .int st]) = H7 at m6 s6 n6 ⊢
      refine wb_if (t_ge (v_nm (v := .int cell) 2 rfl) (v_pow v_int v_int ⟨by decide, by decide, by decide⟩)) (fun hc H8 e8 => ?_) (fun hc H8 e8 => ?_)
      · refine wb_setL (v_nm (v := .int cell) 2 rfl) (v_nm (v := .ref S) 0 rfl) v_int (e8 _ _ s6) (j := 2) (by rfl) fun v H9 e9 p9 H10 e10 => wb_nil ?_
        subst p9
        have m10 := ((m6.ex e8).ex (e9.trans e10)).put (u := .lst [.ref N, .int ((ps + 1 : Nat) : Int), .int cell, .int st])
        refine wb_setL (v_mod (v_int1 T.int (v_add (v_add (v_mul (v_ixL (v := .int st) (v_nm (v := .ref S) 0 rfl) v_int (sq_of upd_same) (by rfl)) v_int (.inr ⟨by decide, by decide⟩)) (v_mod (v_nm (v := .int cell) 2 rfl) v_int (by decide))) v_int)) v_int (by decide)) (v_nm (v := .ref S) 0 rfl) v_int upd_same (j := 3) (by rfl) fun v H11 e11 p11 H12 e12 => wb_nil ?_
        subst p11
        exact rest _ cell _ (ps + 1) _ ((m10.ex (e11.trans e12)).put) upd_same (((m10.ex (e11.trans e12)).put) _ _ hne hNn)
      · refine wb_nil ?_
        have m8 := m6.ex e8
        refine wb_setL (v_mod (v_int1 T.int (v_add (v_add (v_mul (v_ixL (v := .int st) (v_nm (v := .ref S) 0 rfl) v_int (sq_of (e8 _ _ s6)) (by rfl)) v_int (.inr ⟨by decide, by decide⟩)) (v_mod (v_nm (v := .int cell) 2 rfl) v_int (by decide))) v_int)) v_int (by decide)) (v_nm (v := .ref S) 0 rfl) v_int (e8 _ _ s6) (j := 3) (by rfl) fun v H11 e11 p11 H12 e12 => wb_nil ?_
        subst p11
        exact rest _ 0 _ (ps + 1) _ ((m8.ex (e11.trans e12)).put) upd_same (((m8.ex (e11.trans e12)).put) _ _ hne hNn)
    · exact wb_nil (rest H1 big st ps none (em_ex e1) (e1 _ _ hS) (e1 _ _ hNn))
end
end Vw
end
section
/-! The law's draws: begin, pick, mixed. -/
namespace Vw
open PySem PySem.Spec PyProof.Rows L2 Evl
def chrs (z : Str) : List Str := z.cps.toList.map fun c => ⟨#[c]⟩
theorem call_listStr {X : Cx} (hc : X.calm = true) : CallR X (.type "list") (fun xs H Q => ∃ z, xs = [V.str z] ∧ z.cps.size ≤ 1000 ∧ ∀ p, H p = none → Q (.ref p) (upd H p (.lst ((chrs z).map V.str)))) := by
  intro pins s σ H xs us Q I r h
  obtain ⟨z, rfl, hz, q⟩ := h
  obtain ⟨u, rfl, ru⟩ := vals1 r
  obtain ⟨t, rfl⟩ := ru
  refine call_list_str (I.ok.hd hc) z t (fun h' tk acc c k e hi => ⟨.ref s.heap.objs.size, upd H s.heap.objs.size (.lst ((chrs z).map V.str)), I.laid (t' := tk) k (Nat.le_refl _) ⟨?_, acc.toList, c, ?_, e⟩, rfl, q _ (I.hok.fresh (Nat.le_refl _))⟩) (by rw [sizeLine_eq]; omega)
  · rw [List.length_map]
    unfold chrs
    rw [List.length_map, Array.length_toList, sizeLine_eq]
    omega
  · refine vals_of_at (by unfold chrs; rw [List.length_map, List.length_map, Array.length_toList, Array.length_toList, hi.1]) fun j x u h1 h2 => ?_
    obtain ⟨cp, tt, e1, rfl⟩ := hi.2 j u (by rw [← Array.getElem?_toList]; exact h2)
    unfold chrs at h1
    rw [List.map_map, List.getElem?_map, Array.getElem?_toList, e1] at h1
    rw [← Option.some.inj h1]
    exact ⟨tt, rfl⟩
/-- text * int -/
def rMulStr : R2 := fun x y H Q => ∃ z i, x = .str z ∧ y = .int i ∧ 0 ≤ i ∧ i ≤ 10 ∧ z.length ≤ 10 ∧ Q (.str (Txt.mul z i)) H
theorem op_mulStr {X : Cx} : OpR X (binaryOp .Mult) rMulStr := by
  intro pins s σ H x y v u Q I rx ry h
  obtain ⟨z, i, rfl, rfl, h0, h1, h2, q⟩ := h
  obtain ⟨t, rfl⟩ := rx
  obtain ⟨t', rfl⟩ := ry
  refine SB.mul ⟨?_, fun a b => ?_, fun a b => ?_⟩ fun t2 k => ⟨.str _, H, I.tok _, ⟨t2, rfl⟩, q⟩
  · rw [decide_eq_false (by omega), decide_eq_false (by omega)]
    rfl
  · have h3 : (z.length : Int) * i ≤ 10 * 10 := Int.mul_le_mul (by omega) (by omega) h0 (by omega)
    have := (Int.le_ediv_iff_mul_le (show 0 < i by omega)).mpr (show (z.length : Int) * i ≤ 2 ^ 63 - 1 by omega)
    omega
  · show Builtin.Str.tooLong _ = false
    unfold Builtin.Str.tooLong
    have : z.length * i.toNat ≤ 10 * 10 := Nat.mul_le_mul h2 (by omega)
    simp [sizeLine_eq]
    omega
/-- what is picked from -/
def PoolAt (H : Hp) (S : Addr) (v : V) (pool : List Str) : Prop := pool ≠ [] ∧ pool.length ≤ 100 ∧ ((∃ z, v = .str z ∧ pool = chrs z) ∨ ∃ l, v = .ref l ∧ l ≠ S ∧ H l = some (.lst (pool.map V.str)))
section
variable {X : Cx} {σ : L2.St} {H H' : Hp} {e : Expr} {pos p apos : Pos} {v : V}
theorem wa_one {Q : List V → Hp → Prop} (h : WE X e σ H fun u H1 => Q [u] H1) (hs : starEach [e] X.env = (false, eval e X.env) :: starEach [] X.env := by rfl) : WA X [e] σ H Q := toA (pa_cons we_pe pa_nil hs) h
end
section
variable {P : Program} {w : World} {K : PySem.W.Frag} {mg : Str → Option Value} {base : Heap} {CL CS CO CV CW : Addr}
abbrev spBegin (K : PySem.W.Frag) : Sp := PuSp (fun (g : Addr × List Int) vs H => vs = [.ref g.1] ∧ SqL K H g.1 (g.2.map V.int)) fun _ v H' => ∃ S N, v = .ref S ∧ SrcN H' S N
theorem ok_law_begin {f : Addr} {fd : FuncData} (F : Fd K "_law_begin" "_law_begin" s_law_begin [] [] f fd) (T : Txt K mg CL CS CO CV CW) : FnOk P w K mg base CX0 1 f fd ["script"] (spBegin K) := by
  refine F.ok sc_law_begin (fun vs H Q E h => ?_) (fun cdv A outer s H vs Q E hr h => ?_)
  · obtain ⟨g, ⟨rfl, _⟩, _⟩ := h
    rfl
  · obtain ⟨⟨l, is⟩, ⟨rfl, hl⟩, k⟩ := h
    dsimp only at hl k
    refine wb_ret (P := fun v H' => ∃ S N, v = .ref S ∧ SrcN H' S N) (vp_lst (vap_cons (P := fun v H' => ∃ N js, v = .ref N ∧ H' N = some (.lst (List.map V.int js))) (vp_ty call_list_of T.list boot_list (vap_cons (P := fun v H' => ∃ q js, v = .ref q ∧ H' q = some (.lst (List.map V.int js))) ((v_slL (v_nm (v := .ref l) 0 rfl) hl vo_none (vo_some (i := ((63 : Nat) : Int)) v_int)).imp fun v H1 e1 ⟨q, a, _, b⟩ => ⟨q, is.take 63, a, by rw [b, cut_to, List.map_take]⟩) (fun v H1 H2 e ⟨q, js, a, b⟩ => ⟨q, js, a, e _ _ b⟩) fun _ _ _ _ => vap_nil) fun vs H1 e1 q Q1 k1 => ?_) (fun v H1 H2 e ⟨q, js, a, b⟩ => ⟨q, js, a, e _ _ b⟩) fun _ _ _ _ => va_cons v_int (va_cons v_int (va_cons v_int va_nil))) fun vs H1 e1 q => ?_) k
    · obtain ⟨v1, r, rfl, ⟨q, js, rfl, hq⟩, rfl⟩ := q
      exact ⟨q, _, rfl, .inl (sq_of hq), fun p hp => k1 _ _ (Ex.new hp) ⟨p, js, rfl, upd_same⟩⟩
    · obtain ⟨v1, r, rfl, ⟨N, js, rfl, hN⟩, rfl⟩ := q
      refine ⟨sz_of (by simp), fun p hp => ⟨p, N, rfl, js, 0, 0, 7, upd_same, ?_, fun e => ?_⟩⟩
      · rw [upd_ne (fun e => by rw [e, hp] at hN; cases hN)]
        exact hN
      · rw [e, hp] at hN
        cases hN
abbrev spPick : Sp := DrawSp (fun (g : Addr × V × List Str) vs H => vs = [.ref g.1, g.2.1] ∧ PoolAt H g.1 g.2.1 g.2.2) (fun g => g.1) fun g v _ => ∃ y ∈ g.2.2, v = .str y
theorem ok_law_pick {f : Addr} {fd : FuncData} (F : Fd K "_law_pick" "_law_pick" s_law_pick [] [] f fd) (T : Txt K mg CL CS CO CV CW) (h1 : Has P w K mg base "_law_draw" 1 ["source", "limit"] spDraw) : FnOk P w K mg base CX0 2 f fd ["source", "items"] spPick := by
  refine F.ok sc_law_pick (fun vs H Q E h => ?_) (fun cdv A outer s H vs Q E hr h => ?_)
  · obtain ⟨g, N, ⟨rfl, _⟩, _⟩ := h
    rfl
  · obtain ⟨⟨S, it, pool⟩, N, ⟨rfl, hne, hl, hp⟩, src, k⟩ := h
    dsimp only at hne hl hp src k
    have pos0 : 1 ≤ pool.length := by
      cases pool with
      | nil => exact absurd rfl hne
      | cons _ _ => simp
    rcases hp with ⟨z, rfl, rfl⟩ | ⟨l, rfl, hlS, hll⟩
    · have lz : (chrs z).length = z.cps.toList.length := by unfold chrs; rw [List.length_map]
      refine wb_retW (toE (pe_ix ix_str we_pe we_pe (by intro _ _; rfl)) (we_vp (v_nm (v := .str z) 1 rfl) fun v H1 e1 p1 => we_draw h1 hr (va_cons (v_nm (v := .ref S) 0 rfl) (va_cons (v_len (k := (chrs z).length) T.len (v_nm (v := .str z) 1 rfl) fun H' e' => ⟨sz_of (by rw [lz, Array.length_toList] at hl; exact Nat.le_trans hl (by decide)), by rw [lz, Array.length_toList]; rfl⟩) va_nil)) fun vs H2 e2 q => ⟨(S, ((chrs z).length : Int)), N, ⟨q, by show (1 : Int) ≤ _; omega, by show _ ≤ (1000 : Int); omega⟩, (src.ex e1).ex e2, fun v2 H3 m3 s3 ⟨r, er, r0, r1⟩ => ?_⟩))
      subst p1 er
      obtain ⟨j, rfl⟩ := Int.eq_ofNat_of_zero_le r0
      have hj : j < z.cps.toList.length := by rw [← lz]; omega
      refine ⟨z, j, z.cps.toList[j], rfl, rfl, sz_of (by rw [lz, Array.length_toList] at hl; exact Nat.le_trans hl (by decide)), atI_nat (List.getElem?_eq_getElem hj), k _ _ ((em_ex (e1.trans e2)).tr m3) s3 ⟨_, ?_, rfl⟩⟩
      exact List.mem_map.mpr ⟨_, List.getElem_mem hj, rfl⟩
    · refine wb_retW (toE (pe_ix ix_list we_pe we_pe (by intro _ _; rfl)) (we_vp (v_nm (v := .ref l) 1 rfl) fun v H1 e1 p1 => we_draw h1 hr (va_cons (v_nm (v := .ref S) 0 rfl) (va_cons (v_len (k := pool.length) T.len (v_nm (v := .ref l) 1 rfl) fun H' e' => .inl ⟨_, sq_of (e' _ _ (e1 _ _ hll)), by rw [List.length_map]⟩) va_nil)) fun vs H2 e2 q => ⟨(S, (pool.length : Int)), N, ⟨q, by show (1 : Int) ≤ _; omega, by show _ ≤ (1000 : Int); omega⟩, (src.ex e1).ex e2, fun v2 H3 m3 s3 ⟨r, er, r0, r1⟩ => ?_⟩))
      subst p1 er
      obtain ⟨j, rfl⟩ := Int.eq_ofNat_of_zero_le r0
      have hj : j < pool.length := by
        have : ((j : Nat) : Int) < (pool.length : Int) := r1
        omega
      refine ⟨l, _, j, .str pool[j], rfl, rfl, sq_of (m3 _ _ hlS (e2 _ _ (e1 _ _ hll))), atI_nat (by rw [List.getElem?_map, List.getElem?_eq_getElem hj]; rfl), k _ _ ((em_ex (e1.trans e2)).tr m3) s3 ⟨_, List.getElem_mem hj, rfl⟩⟩
end
end Vw
end
section
/-! The law's draws: mixed, stem, names. -/
namespace Vw
open PySem PySem.Spec PyProof.Rows L2 Evl
theorem map_eraseIdx {α β : Type} (f : α → β) : ∀ (l : List α) (j : Nat), (l.map f).eraseIdx j = (l.eraseIdx j).map f
  | [], _ => rfl
  | _ :: _, 0 => rfl
  | x :: l, j + 1 => by
    rw [List.map_cons, List.eraseIdx_cons_succ, List.eraseIdx_cons_succ, List.map_cons, map_eraseIdx f l j]
theorem perm_eraseIdx {α : Type} : ∀ {l : List α} {j : Nat} (h : j < l.length), (l[j] :: l.eraseIdx j).Perm l
  | x :: l, 0, _ => .refl _
  | x :: l, j + 1, h => by
    have ih := perm_eraseIdx (l := l) (j := j) (Nat.lt_of_succ_lt_succ h)
    exact (List.Perm.swap x _ _).trans (ih.cons x)
def CpOk (z : Str) : Prop := ∀ c ∈ z.cps.toList, c < 0x110000
theorem shaped_strs (zs : List Str) (h : ∀ z ∈ zs, CpOk z) : SeqAt.shaped (.list (zs.map PyData.str)) = true := by
  have lay : ∀ zs : List Str, (∀ z ∈ zs, CpOk z) → PyData.canLayAll0 (zs.map PyData.str) = true := fun zs => by
    induction zs with
    | nil => intro _; rfl
    | cons z zs ih =>
      intro h
      have one : PyData.canLay0 (.str z) = true := by
        show (z.cps.all (· < 0x110000)) = true
        rw [← Array.all_toList, List.all_eq_true]
        exact fun c hc => decide_eq_true (h z List.mem_cons_self c hc)
      rw [List.map_cons]
      show (PyData.canLay0 (.str z) && PyData.canLayAll0 (zs.map PyData.str)) = true
      rw [one, ih fun y hy => h y (List.mem_cons_of_mem _ hy)]
      rfl
  have dep : ∀ zs : List Str, PyData.depthAll (zs.map PyData.str) = 0 := fun zs => by
    induction zs with
    | nil => rfl
    | cons z zs ih =>
      rw [List.map_cons]
      show max (PyData.depth (.str z)) (PyData.depthAll (zs.map PyData.str)) = 0
      rw [ih]
      rfl
  unfold SeqAt.shaped
  rw [Bool.and_eq_true]
  refine ⟨lay zs h, decide_eq_true ?_⟩
  show PyData.depthAll (zs.map PyData.str) + 1 ≤ 64
  rw [dep]
  decide
theorem dp_strs {K : PySem.W.Frag} {H : Hp} : ∀ zs : List Str, DpAll K H (zs.map V.str) (zs.map PyData.str)
  | [] => .nil
  | z :: zs => .cons (.str z) (dp_strs zs)
section
variable {P : Program} {w : World} {K : PySem.W.Frag} {mg : Str → Option Value} {base : Heap} {CL CS CO CV CW : Addr}
/-- a list of texts that is not at S -/
def StrL (S : Addr) (C : List Str → Prop) : VPd := fun v H' => ∃ (q : Addr) (ys : List Str), v = .ref q ∧ q ≠ S ∧ H' q = some (.lst (ys.map V.str)) ∧ C ys
abbrev spMixed : Sp := DrawSp (fun (g : Addr × Addr × List Str) vs H => vs = [.ref g.1, .ref g.2.1] ∧ H g.2.1 = some (.lst (g.2.2.map V.str)) ∧ g.2.2.length ≤ 100 ∧ ∀ z ∈ g.2.2, CpOk z) (fun g => g.1) fun g => StrL g.1 fun ys => ys.Perm g.2.2
theorem ok_law_mixed {f : Addr} {fd : FuncData} (F : Fd K "_law_mixed" "_law_mixed" s_law_mixed [] [] f fd) (T : Txt K mg CL CS CO CV CW) (h1 : Has P w K mg base "_law_draw" 1 ["source", "limit"] spDraw) : FnOk P w K mg base CX0 2 f fd ["source", "items"] spMixed := by
  refine F.ok sc_law_mixed (fun vs H Q E h => ?_) (fun cdv A outer s H vs Q E hr h => ?_)
  · obtain ⟨g, N, ⟨rfl, _⟩, _⟩ := h
    rfl
  · obtain ⟨⟨S, l, zs0⟩, N, ⟨rfl, hl, hz, hcp⟩, src, k⟩ := h
    dsimp only at hl hz hcp src k
    obtain ⟨xsS, hS0⟩ := src.lst
    obtain ⟨xsN, hN0⟩ := src.nums
    refine wb_cons (toS (ps_par (i := 2) (j := 3) rfl sc_law_mixed.nd rfl rfl (by decide) rfl rfl (pa_cons we_pe (pa_cons we_pe pa_nil)) rfl) ?_)
    refine we_vp (P := fun v H' => ∃ q, v = .ref q ∧ H q = none ∧ H' q = some (.lst (zs0.map V.str))) (vp_ty call_list_of T.list boot_list (va_cons (v_nm (v := .ref l) 1 rfl) va_nil) fun vs H1 e1 q Q1 k1 => ?_) fun v H1 e1 p1 => we_vp (v_lst va_nil (by simp)) fun u H2 e2 p2 => ⟨v, u, rfl, ?_⟩
    · subst q
      exact ⟨l, _, rfl, .inl (sq_of (e1 _ _ hl)), fun p hp => k1 _ _ (Ex.new hp) ⟨p, rfl, fresh_back e1 hp, upd_same⟩⟩
    obtain ⟨a, rfl, ha0, ha⟩ := p1
    obtain ⟨b, rfl, hb0, hb⟩ := p2
    have naS : a ≠ S := fun e => by rw [e, hS0] at ha0; cases ha0
    have naN : a ≠ N := fun e => by rw [e, hN0] at ha0; cases ha0
    have nbN : b ≠ N := fun e => by rw [e, e1 _ _ hN0] at hb0; cases hb0
    have nbS : b ≠ S := fun e => by rw [e, e1 _ _ hS0] at hb0; cases hb0
    have nba : b ≠ a := fun e => by rw [e, ha] at hb0; cases hb0
    have hb0' : H b = none := fresh_back e1 hb0
    have e12 := e1.trans e2
    refine wb_while (fun m σ' H' => Em S H H' ∧ SrcN H' S N ∧ (∃ zs ys, H' a = some (.lst (zs.map V.str)) ∧ H' b = some (.lst (ys.map V.str)) ∧ (ys ++ zs).Perm zs0 ∧ m = zs.length) ∧ σ' = [some (.ref S), some (.ref l), some (.ref a), some (.ref b)]) zs0.length ⟨em_ex e12, src.ex e12, ⟨zs0, [], e2 _ _ ha, hb, .refl _, rfl⟩, rfl⟩ fun m σ' H' r => ?_
    obtain ⟨eH, sH, ⟨zs, ys, hza, hyb, pm, rfl⟩, rfl⟩ := r
    have lz : ys.length + zs.length = zs0.length := by rw [← List.length_append, pm.length_eq]
    have cz : ∀ z ∈ zs, CpOk z := fun z hz => hcp z (pm.mem_iff.mp (List.mem_append.mpr (.inr hz)))
    refine ⟨!decide (zs.map PyData.str = []), tp_cmp (op_neD hr.units) (PA := fun v _ => v = .ref a) (PB := fun _ v H' => ∃ q, v = .ref q ∧ H' q = some (.lst [])) (v_nm (v := .ref a) 2 rfl) (fun x H3 e3 p3 => v_lstN va_nil (by simp)) fun x H3 y H4 e3 p3 e4 p4 Q4 k4 => ?_, fun ht H3 e3 => ?_, fun ht H3 e3 => ?_⟩
    · subst p3
      obtain ⟨q2, rfl, hq2⟩ := p4
      exact ⟨.list (zs.map PyData.str), .list [], .lst (sq_of (e4 _ _ (e3 _ _ hza))) (dp_strs _), .lst (sq_of hq2) .nil, shaped_strs _ cz, rfl, k4 _ _ (Ex.refl _) (by rw [eqv_nil])⟩
    · have zne : zs ≠ [] := fun e => by rw [e] at ht; simp at ht
      have zp : 1 ≤ zs.length := by
        cases zs with
        | nil => exact absurd rfl zne
        | cons _ _ => simp
      have hza3 := e3 _ _ hza
      have hyb3 := e3 _ _ hyb
      refine ⟨fun σ2 H4 => Em S H H4 ∧ SrcN H4 S N ∧ (∃ zs' ys', H4 a = some (.lst (zs'.map V.str)) ∧ H4 b = some (.lst (ys'.map V.str)) ∧ (ys' ++ zs').Perm zs0 ∧ zs'.length < zs.length) ∧ σ2 = [some (.ref S), some (.ref l), some (.ref a), some (.ref b)], fun σ2 H4 ⟨q1, q2, ⟨zs', ys', q3, q4, q5, q6⟩, q7⟩ => ⟨zs'.length, q6, q1, q2, ⟨zs', ys', q3, q4, q5, rfl⟩, q7⟩, ?_⟩
      refine wb_cons (toS (ps_expr (pe_bm PySem.F.plainAttrs_list PySem.F.slot_list_append PySem.F.type_list_append mt_append we_pe wa_pa) rfl) (we_vp (v_nm (v := .ref b) 3 rfl) fun u H4 e4 p4 => ?_))
      subst p4
      refine ⟨Or.inl ⟨rfl, _, sq_of (e4 _ _ hyb3)⟩, wa_one (toE (pe_bm PySem.F.plainAttrs_list PySem.F.slot_list_pop PySem.F.type_list_pop mt_popAt we_pe wa_pa) (we_vp (v_nm (v := .ref a) 2 rfl) fun u H5 e5 p5 => ?_))⟩
      subst p5
      have e35 := e4.trans e5
      refine ⟨Or.inl ⟨rfl, _, sq_of (e35 _ _ hza3)⟩, wa_one (we_draw h1 hr (va_cons (v_nm (v := .ref S) 0 rfl) (va_cons (v_len (k := zs.length) T.len (v_nm (v := .ref a) 2 rfl) fun H' e' => .inl ⟨_, sq_of (e' _ _ (e35 _ _ hza3)), by rw [List.length_map]⟩) va_nil)) fun vs H6 e6 q => ⟨(S, (zs.length : Int)), N, ⟨q, by show (1 : Int) ≤ _; omega, by show _ ≤ (1000 : Int); omega⟩, ((sH.ex e3).ex e35).ex e6, fun v7 H7 m7 s7 ⟨r, er, r0, r1⟩ => ?_⟩)⟩
      subst er
      obtain ⟨j, rfl⟩ := Int.eq_ofNat_of_zero_le r0
      have hj : j < zs.length := by
        have : ((j : Nat) : Int) < (zs.length : Int) := r1
        omega
      have e36 := (e3.trans e35).trans e6
      have m37 : Em S H' H7 := (em_ex e36).tr m7
      have hz7 := m37 _ _ naS hza
      have hy7 := m37 _ _ nbS hyb
      refine ⟨a, zs.map V.str, (j : Int), j, .str zs[j], rfl, rfl, hz7, by omega, by omega, ?_, by rw [List.getElem?_map, List.getElem?_eq_getElem hj]; rfl, ?_⟩
      · rw [seqIndex_of (by omega) (by rw [List.length_map]; omega)]
        rfl
      · have hz8 : (upd H7 a (.lst ((zs.map V.str).eraseIdx j))) b = some (.lst (ys.map V.str)) := by rw [upd_ne nba]; exact hy7
        have m8 : Em S H (upd H7 a (.lst ((zs.map V.str).eraseIdx j))) := fun x o nx hx => by
          rw [upd_ne (fun e => by rw [e, ha0] at hx; cases hx)]
          exact m37 _ _ nx (eH _ _ nx hx)
        refine ⟨b, ys.map V.str, .str zs[j], rfl, rfl, hz8, sz_lt (by rw [List.length_map]; omega), wb_nil ⟨fun x o nx hx => ?_, ?_, ⟨zs.eraseIdx j, ys ++ [zs[j]], ?_, ?_, ?_, ?_⟩, rfl⟩⟩
        · rw [upd_ne (fun e => by rw [e, hb0'] at hx; cases hx)]
          exact m8 _ _ nx hx
        · exact (s7.put naS naN).put nbS nbN
        · rw [upd_ne nba.symm, upd_same, map_eraseIdx]
        · rw [upd_same, List.map_append]
          rfl
        · rw [List.append_assoc]
          exact ((perm_eraseIdx hj).append_left ys).trans pm
        · rw [List.length_eraseIdx_of_lt hj]
          omega
    · have zn : zs = [] := by
        have := of_decide_eq_true (by simpa using ht : decide (zs.map PyData.str = []) = true)
        exact List.map_eq_nil_iff.mp this
      subst zn
      rw [List.append_nil] at pm
      refine wb_ret (v_nm (v := .ref b) 3 rfl) fun v H4 e4 p4 => k v H4 ((eH.ex e3).ex e4) ((sH.ex e3).ex e4) ⟨b, ys, p4, nbS, e4 _ _ (e3 _ _ hyb), pm⟩
end
end Vw
end
section
/-! The law's draws: stem, names. -/
namespace Vw
open PySem PySem.Spec PyProof.Rows L2 Evl
def LetOk (z : Str) : Prop := ∀ c ∈ z.cps.toList, c ∈ letters.cps.toList
def StemOk (z : Str) : Prop := z.length ≤ 5 ∧ LetOk z
theorem len_chrs (z : Str) : (chrs z).length = z.length := by unfold chrs; rw [List.length_map, Array.length_toList]; rfl
theorem let_of {y : Str} (h : y ∈ chrs letters) : LetOk y ∧ y.length = 1 := by
  unfold chrs at h
  obtain ⟨c, hc, rfl⟩ := List.mem_map.mp h
  refine ⟨fun d hd => ?_, rfl⟩
  have : d = c := by simpa using hd
  rw [this]
  exact hc
theorem mul_let {y : Str} (h : LetOk y) (h1 : y.length = 1) {i : Int} (h0 : 0 ≤ i) (h3 : i < 4) : (Txt.mul y i).length ≤ 3 ∧ LetOk (Txt.mul y i) := by
  have e : ∃ c, y = ⟨#[c]⟩ := by
    obtain ⟨cps⟩ := y
    have hz : cps.size = 1 := h1
    obtain ⟨c, hc⟩ := Array.size_eq_one_iff.mp hz
    exact ⟨c, by rw [hc]⟩
  obtain ⟨c, rfl⟩ := e
  have hc : c ∈ letters.cps.toList := h c (by simp)
  have four : i = 0 ∨ i = 1 ∨ i = 2 ∨ i = 3 := by omega
  rcases four with rfl | rfl | rfl | rfl
  · refine ⟨?_, fun d hd => ?_⟩
    · show (0 : Nat) ≤ 3
      decide
    · exact absurd (show d ∈ ([] : List Nat) from hd) (by simp)
  · refine ⟨?_, fun d hd => ?_⟩
    · show (1 : Nat) ≤ 3
      decide
    · have : d ∈ [c] := hd
      rw [List.mem_singleton.mp this]
      exact hc
  · have e2 : Txt.mul ⟨#[c]⟩ 2 = ⟨#[c, c]⟩ := rfl
    rw [e2]
    refine ⟨by show (2 : Nat) ≤ 3; decide, fun d hd => ?_⟩
    have : d ∈ [c, c] := hd
    rcases List.mem_cons.mp this with rfl | this
    · exact hc
    · rw [List.mem_singleton.mp this]
      exact hc
  · have e2 : Txt.mul ⟨#[c]⟩ 3 = ⟨#[c, c, c]⟩ := rfl
    rw [e2]
    refine ⟨by show (3 : Nat) ≤ 3; decide, fun d hd => ?_⟩
    have : d ∈ [c, c, c] := hd
    rcases List.mem_cons.mp this with rfl | this
    · exact hc
    · rcases List.mem_cons.mp this with rfl | this
      · exact hc
      · rw [List.mem_singleton.mp this]
        exact hc
theorem let_append {a b : Str} (ha : LetOk a) (hb : LetOk b) : LetOk (a ++ b) := fun c hc => by
  have e : (a ++ b).cps = a.cps ++ b.cps := rfl
  rw [e, Array.toList_append] at hc
  rcases List.mem_append.mp hc with hc | hc
  · exact ha c hc
  · exact hb c hc
theorem len_append (a b : Str) : (a ++ b).length = a.length + b.length := by
  show (a ++ b).cps.size = a.cps.size + b.cps.size
  have e : (a ++ b).cps = a.cps ++ b.cps := rfl
  rw [e, Array.size_append]
theorem append_inj {s a b : Str} (h : s ++ a = s ++ b) : a = b := by
  have e : s.cps ++ a.cps = s.cps ++ b.cps := congrArg Str.cps h
  have e2 : s.cps.toList ++ a.cps.toList = s.cps.toList ++ b.cps.toList := by rw [← Array.toList_append, ← Array.toList_append, e]
  have e3 := List.append_cancel_left e2
  cases a
  cases b
  exact congrArg Str.mk (Array.toList_inj.mp e3)
theorem nodup_letters : (chrs letters).Nodup := by decide +kernel
section
variable {P : Program} {w : World} {K : PySem.W.Frag} {mg : Str → Option Value} {base : Heap} {CL CS CO CV CW : Addr}
abbrev spStem : Sp := DrawSp (fun (g : Addr) vs _ => vs = [.ref g]) (fun g => g) fun _ v _ => ∃ z, v = .str z ∧ StemOk z
theorem ok_law_stem {f : Addr} {fd : FuncData} (F : Fd K "_law_stem" "_law_stem" s_law_stem [] [] f fd) (T : Txt K mg CL CS CO CV CW) (h1 : Has P w K mg base "_law_draw" 1 ["source", "limit"] spDraw) (h2 : Has P w K mg base "_law_pick" 2 ["source", "items"] spPick) : FnOk P w K mg base CX0 3 f fd ["source"] spStem := by
  refine F.ok sc_law_stem (fun vs H Q E h => ?_) (fun cdv A outer s H vs Q E hr h => ?_)
  · obtain ⟨g, N, rfl, _⟩ := h
    rfl
  · obtain ⟨S, N, rfl, src, k⟩ := h
    dsimp only at src k
    refine wb_set 1 sc_law_stem.nd (v_str (i := letters)) fun v H1 e1 p1 => ?_
    subst p1
    refine wb_retW (toE (pe_op op_add_str we_pe we_pe) (toE (pe_op op_mulStr we_pe we_pe) (we_draw h2 hr (va_cons (v_nm (v := .ref S) 0 rfl) (va_cons (v_nm (v := .str letters) 1 rfl) va_nil)) fun vs H2 e2 q => ⟨(S, .str letters, chrs letters), N, ⟨q, (by show chrs letters ≠ []; decide +kernel), (by show (chrs letters).length ≤ 100; decide +kernel), .inl ⟨letters, rfl, rfl⟩⟩, (src.ex e1).ex e2, fun v3 H3 m3 s3 ⟨y, hy, ey⟩ => ?_⟩)))
    subst ey
    obtain ⟨ly, ly1⟩ := let_of hy
    have m13 : Em S H H3 := (em_ex (e1.trans e2)).tr m3
    refine we_draw h1 (hr.mono (by decide)) (va_cons (v_nm (v := .ref S) 0 rfl) (va_cons v_int va_nil)) fun vs H4 e4 q => ⟨(S, 4), N, ⟨q, (by show (1:Int) ≤ 4; decide), (by show (4:Int) ≤ 1000; decide)⟩, s3.ex e4, fun v5 H5 m5 s5 ⟨r, er, r0, r4⟩ => ?_⟩
    subst er
    have m15 := (m13.ex e4).tr m5
    obtain ⟨g1, g2⟩ := mul_let ly ly1 r0 r4
    refine ⟨y, r, rfl, rfl, r0, by have : r < 4 := r4; omega, by omega, ?_⟩
    obtain ⟨xsS, hS5⟩ := s5.lst
    refine we_draw h2 hr (vap_v (v_nm (v := .ref S) 0 rfl) (vap_cons (P := fun v H' => ∃ p, v = .ref p ∧ p ≠ S ∧ H' p = some (.lst ((["", "q", "xy"] : List Str).map V.str))) ((v_lst (va_cons v_str (va_cons v_str (va_cons v_str va_nil))) (by simp)).imp fun v H6 e6 ⟨p, a, b, c⟩ => ⟨p, a, (fun e => by rw [e, hS5] at b; cases b), c⟩) (fun v H6 H7 e ⟨p, a, b, c⟩ => ⟨p, a, b, e _ _ c⟩) fun _ _ _ _ => vap_nil)) fun vs H6 e6 q => ?_
    obtain ⟨_, rfl, v7, _, rfl, ⟨p, rfl, npS, hp⟩, rfl⟩ := q
    refine ⟨(S, .ref p, ["", "q", "xy"]), N, ⟨rfl, by simp, by simp, .inr ⟨p, rfl, npS, hp⟩⟩, s5.ex e6, fun v7 H7 m7 s7 ⟨z, hz, ez⟩ => ?_⟩
    subst ez
    have zz : z.length ≤ 2 ∧ LetOk z := by
      have all : ∀ z ∈ (["", "q", "xy"] : List Str), z.length ≤ 2 ∧ (z.cps.toList.all fun c => letters.cps.toList.contains c) = true := by decide +kernel
      obtain ⟨a, b⟩ := all z hz
      refine ⟨a, fun c hc => ?_⟩
      have := List.all_eq_true.mp b c hc
      simpa using this
    refine ⟨_, z, rfl, rfl, sz_of (by omega), k _ _ ((m15.ex e6).tr m7) s7 ⟨_, rfl, ?_, let_append g2 zz.2⟩⟩
    rw [len_append]
    omega
abbrev spNames : Sp := DrawSp (fun (g : Addr) vs _ => vs = [.ref g, .int 4]) (fun g => g) fun S => StrL S fun ws => ws.length = 4 ∧ ws.Nodup ∧ ∀ z ∈ ws, NmOk z
theorem ok_law_names {f : Addr} {fd : FuncData} (F : Fd K "_law_names" "_law_names" s_law_names [] [] f fd) (T : Txt K mg CL CS CO CV CW) (h1 : Has P w K mg base "_law_stem" 3 ["source"] spStem) (h2 : Has P w K mg base "_law_mixed" 2 ["source", "items"] spMixed) : FnOk P w K mg base CX0 4 f fd ["source", "many"] spNames := by
  refine F.ok sc_law_names (fun vs H Q E h => ?_) (fun cdv A outer s H vs Q E hr h => ?_)
  · obtain ⟨g, N, rfl, _⟩ := h
    rfl
  · obtain ⟨S, N, rfl, src, k⟩ := h
    dsimp only at src k
    refine wb_setW 2 sc_law_names.nd (we_draw h1 hr (va_cons (v_nm (v := .ref S) 0 rfl) va_nil) fun vs H1 e1 q => ⟨S, N, q, src.ex e1, fun v H2 m2 s2 ⟨z, ez, z5, zl⟩ => ?_⟩)
    subst ez
    have m12 : Em S H H2 := (em_ex e1).tr m2
    refine wb_setW 3 sc_law_names.nd (we_draw h2 (hr.mono (by decide)) (vap_v (v_nm (v := .ref S) 0 rfl) (vap_cons (P := fun v H' => ∃ p, v = .ref p ∧ H' p = some (.lst ((chrs letters).map V.str))) (vp_ty (call_listStr rfl) T.list boot_list (va_cons (v_str (i := letters)) va_nil) fun vs H3 e3 q Q3 k3 => ?_) mono_at fun _ _ _ _ => vap_nil)) fun vs H3 e3 q => ?_)
    · subst q
      exact ⟨letters, rfl, by decide +kernel, fun p hp => k3 _ _ (Ex.new hp) ⟨p, rfl, upd_same⟩⟩
    obtain ⟨_, rfl, v4, _, rfl, ⟨p, rfl, hp⟩, rfl⟩ := q
    refine ⟨(S, p, chrs letters), N, ⟨rfl, hp, (by show (chrs letters).length ≤ 100; decide +kernel), fun y hy c hc => ?_⟩, s2.ex e3, fun v4 H4 m4 s4 ⟨q, ys, eq, nqS, hq, pm⟩ => ?_⟩
    · have lt : ∀ c ∈ letters.cps.toList, c < 0x110000 := by decide +kernel
      exact lt c ((let_of hy).1 c hc)
    subst eq
    have m14 := (m12.ex e3).tr m4
    have l26 : ys.length = 26 := by rw [pm.length_eq, len_chrs]; decide +kernel
    have tk : (ys.take 4).length = 4 := by rw [List.length_take]; omega
    obtain ⟨xsS, hS4⟩ := s4.lst
    refine wb_ret (vp_lc (n := 4) (Y := fun i v _ => ∃ y, (ys.take 4)[i]? = some y ∧ v = .str y) (P0 := fun i v _ => v = .str (z ++ (ys.take 4).getD i Str.empty)) (keep := fun _ => true) [("letter", 4)] sc_law_names.nd (blkOk_by (N := n_law_names) (sc := defScope s_law_names) (by decide +kernel)) (fun i => imm_eq) (vi_L (fun i _ _ _ _ q => q) ((v_slL (v_nm (v := .ref q) 3 rfl) (sq_of hq) vo_none (vo_some (i := ((4 : Nat) : Int)) (v_nm (v := .int 4) 1 rfl))).imp fun v H5 e5 ⟨b, a1, _, a3⟩ => ⟨b, _, a1, sq_of a3, by rw [cut_to, ← List.map_take, List.length_map, tk], fun i x hx => ?_⟩)) (by decide) fun i x H5 hi e5 hx => ?_) fun v H5 e5 p5 => ?_
    · rw [cut_to, ← List.map_take, List.getElem?_map] at hx
      obtain ⟨y, hy, rfl⟩ := Option.map_eq_some_iff.mp hx
      exact ⟨y, hy, rfl⟩
    · obtain ⟨y, hy, rfl⟩ := hx
      have ly := let_of (pm.mem_iff.mp (List.mem_of_mem_take (List.mem_of_getElem? hy)))
      refine turn_nm 4 sc_law_names.nd rfl rfl rfl (fun s H0 C cl fp => ts_nil) fun _ s H0 C cl fp => ?_
      refine VE.is (v_cats (v_nm (v := .str z) 2 rfl) (v_nm (v := .str y) 4 rfl) (sz_of (by omega))) ?_
      rw [List.getD_eq_getElem?_getD, hy]
      rfl
    · obtain ⟨b, zs, rfl, hb0, hb, ho⟩ := p5
      have ez := outs_all (f := fun i => V.str (z ++ (ys.take 4).getD i Str.empty)) ho
      have ez2 : zs = ((ys.take 4).map fun y => z ++ y).map V.str := by
        rw [ez, List.map_map]
        have := map_range (fun y => V.str (z ++ y)) Str.empty (ys.take 4)
        rw [tk] at this
        exact this
      refine k _ _ (m14.ex e5) (s4.ex e5) ⟨b, (ys.take 4).map fun y => z ++ y, rfl, (fun e => by rw [e, hS4] at hb0; cases hb0), (by rw [hb, ez2]), (by rw [List.length_map, tk]), ?_, fun x hx => ?_⟩
      · have nd : (ys.take 4).Nodup := ((pm.nodup_iff).mpr nodup_letters).sublist (List.take_sublist _ _)
        exact List.Pairwise.map _ (fun a b hab e => hab (append_inj e)) nd
      · obtain ⟨y, hy, rfl⟩ := List.mem_map.mp hx
        have ly := let_of (pm.mem_iff.mp (List.mem_of_mem_take hy))
        have le := len_append z y
        exact ⟨by omega, by omega, let_append zl ly.1⟩
end
end Vw
end
section
/-! The law's loops, and what the law asks of them. -/
namespace Vw
open PySem PySem.Spec PyProof.Rows L2 Evl
structure LA where
  z : Str
  n1 : Str
  n2 : Str
  n3 : Str
  st : Int
  d : Int
  lo : Int
  W : WayD
structure LA.Ok (a : LA) : Prop where
  z : NmOk a.z
  n1 : NmOk a.n1
  n2 : NmOk a.n2
  n3 : NmOk a.n3
  nd : [a.n1, a.n2, a.n3].Nodup
  st : a.st = 1 ∨ a.st = 2
  d1 : 1 ≤ a.d
  d18 : a.d ≤ 18
  l1 : -9 ≤ a.lo
  l2 : a.lo + a.d * a.st ≤ 9
  wo : WayOk a.W
  wb : a.W.bun = []
def LA.s1 (a : LA) : Stm := ⟨a.n1, some a.lo, []⟩
def LA.s2 (a : LA) : Stm := ⟨a.n2, some (a.lo + a.d * a.st), []⟩
def LA.s3 (a : LA) : Stm := ⟨a.n3, none, [-9]⟩
def LA.first (a : LA) : LoopD := ⟨a.z, a.st, [a.s1, a.s2]⟩
def LA.second (a : LA) : LoopD := ⟨a.z, a.st, [a.s2, a.s1]⟩
def LA.added (a : LA) : LoopD := a.first.add a.s3
def carW (L : LoopD) : WayD := ⟨0, true, [(0, (L.ss.length : Int) - 1)]⟩
structure LA.Facts (a : LA) : Prop where
  k1 : LWOk ⟨a.first, a.W, false⟩
  k2 : LWOk ⟨a.second, a.W, false⟩
  k3 : LWOk ⟨a.first, carW a.first, true⟩
  k4 : LWOk ⟨a.added, carW a.added, true⟩
  m1 : meetsP a.first = [(0, -1, 1, -1, -a.d)]
  m2 : meetsP a.second = [(0, -1, 1, -1, a.d)]
  r1 : (reachP a.first : Int) = a.d
  r4 : a.d ≤ (reachP a.added : Int)
  b1 : ¬ Good ⟨a.first, a.W, false⟩ (gwP ⟨a.first, a.W, false⟩)
  w1 : ∀ w : Nat, 1 ≤ w → ¬ Good ⟨a.first, a.W, false⟩ w → (∀ w', 1 ≤ w' → w' < w → Good ⟨a.first, a.W, false⟩ w') → (w : Int) = a.d + 1
  c1 : ∀ (w c : Nat) (x : Int), (w : Int) = a.d + 1 → (∀ c', c' < c → NoD ⟨a.first, a.W, false⟩ w c') → DiffC (LW.at ⟨a.first, a.W, false⟩ w c) x → (c : Int) = a.d + 1 ∧ x = a.lo + a.d * a.st
  g2 : Good ⟨a.second, a.W, false⟩ (gwP ⟨a.second, a.W, false⟩)
  g3 : Good ⟨a.first, carW a.first, true⟩ (gwP ⟨a.first, carW a.first, true⟩)
  g4 : Good ⟨a.added, carW a.added, true⟩ (gwP ⟨a.added, carW a.added, true⟩)
theorem st_ok1 {a : LA} (h : a.Ok) : StmOk a.s1 := ⟨h.n1, (fun o e => by
  obtain rfl : a.lo = o := Option.some.inj e
  have h1 := h.l1
  have h2 := h.l2
  have h3 := h.d1
  constructor
  · exact h.l1
  · rcases h.st with z | z <;> rw [z] at h2 <;> omega), Nat.zero_le _, fun o z => nomatch z⟩
theorem st_ok2 {a : LA} (h : a.Ok) : StmOk a.s2 := ⟨h.n2, (fun o e => by
  obtain rfl : a.lo + a.d * a.st = o := Option.some.inj e
  have h1 := h.l1
  have h2 := h.d1
  refine ⟨?_, h.l2⟩
  rcases h.st with z | z <;> rw [z] <;> omega), Nat.zero_le _, fun o z => nomatch z⟩
theorem st_ok3 {a : LA} (h : a.Ok) : StmOk a.s3 := ⟨h.n3, (fun o e => nomatch e), by show 1 ≤ 3; decide, fun o z => by
  rw [show o = -9 from List.mem_singleton.mp z]
  unfold OffOk
  decide⟩
theorem ok_first {a : LA} (h : a.Ok) : LoopOk a.first := ⟨h.z, by show 1 ≤ a.st; rcases h.st with z | z <;> rw [z] <;> decide, by show a.st ≤ 6; rcases h.st with z | z <;> rw [z] <;> decide, fun s hs => by
  rcases List.mem_cons.mp hs with rfl | hs
  · exact st_ok1 h
  · rw [List.mem_singleton.mp hs]
    exact st_ok2 h, by
  have := h.nd
  show [a.n1, a.n2].Nodup
  simp at this ⊢
  exact this.1.1, by show 1 ≤ 2; decide, by show 2 ≤ 5; decide⟩
theorem ok_second {a : LA} (h : a.Ok) : LoopOk a.second := ⟨h.z, (ok_first h).s1, (ok_first h).s6, fun s hs => by
  rcases List.mem_cons.mp hs with rfl | hs
  · exact st_ok2 h
  · rw [List.mem_singleton.mp hs]
    exact st_ok1 h, by
  have := h.nd
  show [a.n2, a.n1].Nodup
  simp at this ⊢
  exact fun e => this.1.1 e.symm, by show 1 ≤ 2; decide, by show 2 ≤ 5; decide⟩
theorem ok_added {a : LA} (h : a.Ok) : LoopOk a.added := ⟨h.z, (ok_first h).s1, (ok_first h).s6, fun s hs => by
  rcases List.mem_append.mp hs with hs | hs
  · exact (ok_first h).ok s hs
  · rw [List.mem_singleton.mp hs]
    exact st_ok3 h, by
  have := h.nd
  show [a.n1, a.n2, a.n3].Nodup
  exact this, by show 1 ≤ 3; decide, by show 3 ≤ 5; decide⟩
end Vw
end
section
/-! The law. -/
namespace Vw
open PySem PySem.Spec PyProof.Rows L2 Evl
section
variable {X : Cx} {σ : L2.St} {H H' : Hp} {a b e : Expr} {es : List Expr} {kws : List Keyword} {pos p : Pos} {P : VPd} {S : List V → Hp → Prop}
/-- an instance made by keywords alone, whatever they do -/
theorem we_makeK {G : Type} {C : Addr} {pre : G → List V → Hp → Prop} {post : G → List (Str × V) → Hp → Prop} {n : Str} {k : Nat} {ps ks : List Str} {gV : List V → List V → List V} (F : HasIK X.prog X.w X.K X.mg X.base C k ps ks gV (InSp C pre post)) (hC : X.mg n = some (.ref C)) (hr : Room (k + 1) X.A) {Q : VK}
    (ha : WK X kws σ H fun vs H1 => vs.length = ks.length ∧ ∃ g r, (∀ x, gV [x] vs = x :: r) ∧ (∀ H2, Ex H1 H2 → pre g r H2) ∧ ∀ H' x dx fs, Ex H1 H' → H' x = some (.ins C dx fs) → post g fs H' → Q (.ref x) H')
    (hg : Gl X n := by rfl) (hall : (backToKw pos (keywordEach kws X.env)).all (·.1.isSome) = true := by rfl) (hks : (backToKw pos (keywordEach kws X.env)).filterMap (·.1) = ks := by rfl) (hdb : (n == ("__debug__" : Str)) = false := by decide)
    (hpl : ((backTo pos (starEach [] X.env)).any (·.1) || (backToKw pos (keywordEach kws X.env)).any (·.1.isNone)) = false := by rfl) : WE X (.Call (.Name n p) [] kws pos) σ H Q := by
  obtain ⟨f, fd, g, F1, F2, F3⟩ := F.ex
  refine toE (pe_makeK0 F2 F1 hr hg hC F3 pass0 wk_pk hall hks hdb hpl) ?_
  show tMakeK C 0 ks.length (InSp C pre post) gV E0 tNil (WK X kws) σ H Q
  show WK X kws σ H _
  intro pp pins s I
  refine thn (ha pp pins s I) fun us s1 ⟨vs, H2, I2, rv, hl, gg, r, hgv, hpre, hpost⟩ => ⟨vs, H2, I2, rv, ?_⟩
  refine ⟨rfl, hl, fun x dx hx hdx hne => ?_⟩
  rw [hgv]
  have ee : Ex H2 (upd (upd H2 dx (.own x)) x (.ins C dx [])) := (Ex.new hdx).trans (Ex.new (by rw [upd_ne hne.symm]; exact hx))
  refine ⟨gg, x, dx, r, rfl, upd_same, hpre _ ee, fun H3 fs b hi po => ⟨rfl, ?_⟩⟩
  have e3 : Ex H2 H3 := fun a o h => b a o (ne_of_none h hx) (ee a o h)
  exact hpost H3 x dx fs e3 hi po
/-- a statement made by a call -/
theorem vp_stm {CS : Addr} (hS : HasIR X.prog X.w X.K X.mg X.base CS 5 (StSp 3 (spStmInit CS))) (hC : X.mg "Statement" = some (.ref CS)) (hr : Room 6 X.A) {z : Str} {s : Stm} (hz : NmOk z) (ok : StmOk s)
    (ha : VAP X σ H (e :: es) S) (hs : ∀ vs H1, Ex H H1 → S vs H1 → ∃ vt rest, vs = .str s.name :: vt :: rest ∧ Tp H1 vt (tgtD z s.tgt) ∧ TpAll H1 rest (s.srcs.map (refD z)))
    (hg : Gl X "Statement" := by rfl) (he : starEach (e :: es) X.env = (false, eval e X.env) :: starEach es X.env := by rfl) (hpl : (backTo pos (starEach es X.env)).any (·.1) = false := by rfl) : VP X σ H (.Call (.Name "Statement" p) (e :: es) [] pos) fun v H' => ∃ a, v = .ref a ∧ StmAt CS H' a z s :=
  vp_makeR (po := fun fs H' => postStm (z, s) fs H') hS hC hr ha (fun vs H1 e1 q => by
    obtain ⟨vt, rest, rfl, t1, t2⟩ := hs vs H1 e1 q
    have l3 : rest.length ≤ 3 := by rw [t2.length, List.length_map]; exact ok.few
    exact ⟨[.str s.name, vt], rest, rfl, rfl, sz_of (by omega), fun H2 q e2 hq => ⟨(z, s), ⟨vt, q, rfl, hz, ok, t1.ex e2, .tup hq (t2.ex e2)⟩, fun fs H4 po => po⟩⟩)
    (fun H' x dx fs e' h0 hx po => by
      obtain ⟨vt, vs, rfl, t1, t2⟩ := po
      exact ⟨x, rfl, dx, vt, vs, hx, t1, t2⟩) hg (by decide) he hpl
/-- a loop of two statements made by a call -/
theorem vp_loop {CL CS CO : Addr} (hO : HasIR X.prog X.w X.K X.mg X.base CO 4 (StSp 2 (InSp CO (preLoop CL CS) (postLoop CL CS)))) (hC : X.mg "Loop" = some (.ref CO)) (hr : Room 5 X.A) {L : LoopD} {rows la : Addr} {sa : List Addr} (ok : LoopOk L) (hrow : H rows = some (.lst [.ref la])) (hla : LineAt CL H la L.z L.st) (hsa : StmsAt CS H L.z L.ss sa)
    (ha : VA X σ H (e :: es) (.ref rows :: sa.map V.ref)) 
    (hg : Gl X "Loop" := by rfl) (he : starEach (e :: es) X.env = (false, eval e X.env) :: starEach es X.env := by rfl) (hpl : (backTo pos (starEach es X.env)).any (·.1) = false := by rfl) : VP X σ H (.Call (.Name "Loop" p) (e :: es) [] pos) fun v H' => ∃ a, v = .ref a ∧ LoopAt CL CS CO H' a L :=
  vp_makeR (po := fun fs H' => ∃ ql qs d la sa, fs = fsO ql qs d ∧ LoopIn CL CS H' L ql qs d la sa) hO hC hr ha (fun vs H1 e1 q => by
    subst q
    have l5 : sa.length ≤ 5 := by have := hsa.len; have := ok.l5; omega
    exact ⟨[.ref rows], sa.map V.ref, rfl, rfl, sz_of (by rw [List.length_map]; omega), fun H2 q e2 hq => ⟨(L, rows, la, q, sa), ⟨rfl, ok, .inl ((e1.trans e2) _ _ hrow), hla.ex (e1.trans e2), hq, hsa.ex (e1.trans e2)⟩, fun fs H4 po => po⟩⟩)
    (fun H' x dx fs e' h0 hx po => ⟨x, rfl, loopAt_of hx po⟩) hg (by decide) he hpl
end
/-- the values of Way(ahead=.., guard=..) -/
def gTwo (bv : V) (vs zs : List V) : List V := vs ++ [.str "mask"] ++ zs ++ [bv, .str "row"]
theorem lay_cell {z : Str} (hz : NmOk z) (c : Int) : PyData.canLay0 (cellD z c) = true := by
  have hs : PyData.canLay0 (.str z) = true := by
    show (z.cps.all (· < 0x110000)) = true
    rw [← Array.all_toList, List.all_eq_true]
    intro c hc
    have lt : ∀ c ∈ letters.cps.toList, c < 0x110000 := by decide +kernel
    exact decide_eq_true (lt c (hz.let_ c hc))
  show (PyData.canLay0 (.str "cell") && (PyData.canLay0 (.str z) && (PyData.canLay0 (.int c) && true))) = true
  rw [hs]
  show (PyData.canLay0 (.str "cell") && true) = true
  decide +kernel
def fwD (z : Str) (i j x : Int) : PyData := .tuple [.int i, .int j, cellD z x]
theorem lay_fw {z : Str} (hz : NmOk z) (i j x : Int) : PyData.canLay0 (fwD z i j x) = true := by
  show (true && (true && (PyData.canLay0 (cellD z x) && true))) = true
  rw [lay_cell hz]
  rfl
theorem shaped_fw {z : Str} (hz : NmOk z) (i j x : Int) : SeqAt.shaped (fwD z i j x) = true := by
  unfold SeqAt.shaped
  rw [Bool.and_eq_true]
  refine ⟨lay_fw hz i j x, decide_eq_true ?_⟩
  have : PyData.depth (fwD z i j x) = 2 := by
    unfold fwD cellD
    simp [PyData.depth, PyData.depthAll]
  omega
def msD (i : Int) : PyData := .list [.tuple [.int 0, .int (-1), .int 1, .int (-1), .int i]]
theorem shaped_ms (i : Int) : SeqAt.shaped (msD i) = true := by
  unfold SeqAt.shaped
  rw [Bool.and_eq_true]
  refine ⟨rfl, decide_eq_true ?_⟩
  have : PyData.depth (msD i) = 2 := by
    unfold msD
    simp [PyData.depth, PyData.depthAll]
  omega
theorem mtl_one {K : PySem.W.Frag} {H H' : Hp} {v : V} {i : Int} (h : MtL [(0, -1, 1, -1, i)] v H) (e' : Ex H H') : Dp K H' v (msD i) := by
  obtain ⟨q, xs, es, rfl, hq, t, pm⟩ := h
  have e : es = [mtD (0, -1, 1, -1, i)] := List.perm_singleton.mp pm
  subst e
  exact .lst (sq_of (e' _ _ hq)) (t.ex e').dp
end Vw
end
section
set_option maxHeartbeats 4000000
/-! The law's body. -/
namespace Vw
open PySem PySem.Spec PyProof.Rows L2 Evl
theorem WB.is {X : Cx} {sts : List Stmt} {D : Ends} {σ σ2 : L2.St} {H : Hp} (h : WB X sts D σ2 H) (e : σ2 = σ) : WB X sts D σ H := e ▸ h
theorem fw_at {a : LA} (fc : a.Facts) {v : V} {H : Hp} (h : FirstW ⟨a.first, a.W, false⟩ v H) : Tp H v (fwD a.z (a.d + 1) (a.d + 1) (a.lo + a.d * a.st)) := by
  rcases h with ⟨_, hg⟩ | ⟨w, c, x, t, w1, wg, _, hall, hc, hn, hx⟩
  · exact absurd hg fc.b1
  · have ew := fc.w1 w w1 (fun gd => gd c hc x hx) hall
    obtain ⟨ec, ex⟩ := fc.c1 w c x ew hn hx
    rw [ew, ec, ex] at t
    exact t
theorem gs_at {a : LA} (fc : a.Facts) {v : V} (h : (v = .non ∧ Good ⟨a.first, a.W, false⟩ (gwP ⟨a.first, a.W, false⟩)) ∨ ∃ w : Nat, v = .int ((w : Int) - 1) ∧ 1 ≤ w ∧ w ≤ gwP ⟨a.first, a.W, false⟩ ∧ ¬ Good ⟨a.first, a.W, false⟩ w ∧ (∀ w', 1 ≤ w' → w' < w → Good ⟨a.first, a.W, false⟩ w') ∧ ¬ Good ⟨a.first, a.W, false⟩ (gwP ⟨a.first, a.W, false⟩)) : v = .int a.d := by
  rcases h with ⟨_, hg⟩ | ⟨w, rfl, w1, wg, nb, hall, _⟩
  · exact absurd hg fc.b1
  · rw [fc.w1 w w1 nb hall]
    congr 1
    omega
theorem fw_non {g : LW} {v : V} {H : Hp} (gd : Good g (gwP g)) (h : FirstW g v H) : v = .non := by
  rcases h with ⟨rfl, _⟩ | ⟨_, _, _, _, _, _, bad, _⟩
  · rfl
  · exact absurd gd bad
theorem safe_yes {g : LW} {v : V} (gd : Good g (gwP g)) (h : ∃ b, v = .bl b ∧ (b = true ↔ Good g (gwP g))) : v = .bl true := by
  obtain ⟨b, rfl, hb⟩ := h
  rw [hb.mpr gd]
section
variable {P : Program} {w : World} {K : PySem.W.Frag} {mg : Str → Option Value} {base : Heap} {CL CS CO CV CW : Addr}
abbrev spLaw (K : PySem.W.Frag) : Sp := fun vs H Q _ => ∃ (p : Addr) (is : List Int), vs = [.ref p] ∧ SqL K H p (is.map V.int) ∧ ∀ H', Q (.bl true) H'
structure AddOk (K : PySem.W.Frag) (CS CO : Addr) : Prop where
  na : NoAdd K CS
  sf : PySem.W.selfFirst K CO = true
  ne : CO ≠ CS
theorem ok_law {bv : V} {f : Addr} {fd : FuncData} (F : Fd K "law" "law" s_law [] [] f fd) (T : Txt K mg CL CS CO CV CW) (pl : ∀ a : LA, a.Ok → a.Facts) (hbv : ∀ H, BunAt K H bv []) (aok : AddOk K CS CO)
    (h1 : Has P w K mg base "_law_begin" 1 ["script"] (spBegin K)) (h2 : Has P w K mg base "_law_draw" 1 ["source", "limit"] spDraw) (h3 : Has P w K mg base "_law_names" 4 ["source", "many"] spNames)
    (hL : HasI P w K mg base CL 3 ["self", "name", "stride"] (spLineInit CL)) (hS : HasIR P w K mg base CS 5 (StSp 3 (spStmInit CS))) (hO : HasIR P w K mg base CO 4 (StSp 2 (InSp CO (preLoop CL CS) (postLoop CL CS))))
    (hW : HasIK P w K mg base CW 6 ["self", "tail", "ahead", "guard", "bundles", "joining"] ["ahead", "guard"] (gTwo bv) (InSp CW (preWay K) (postWay K)))
    (h4 : Has P w K mg base "first_wrong" 12 ["loop", "way"] (spFw K CL CS CO CV CW)) (h5 : Has P w K mg base "greatest_safe" 12 ["loop", "way"] (spGs K CL CS CO CV CW)) (h6 : Has P w K mg base "is_safe" 12 ["loop", "way"] (spSafe K CL CS CO CV CW))
    (hC : HasS P w K mg base CW "careful" 8 ["loop"] (spCareful K CL CS CO CW)) (h7 : Has P w K mg base "meets" 5 ["loop"] (spMeets CL CS CO)) (h8 : Has P w K mg base "reach" 6 ["loop"] (spReach CL CS CO)) (mA : HasM P w K mg base CO "__add__" 6 ["self", "statement"] (spLoopAdd CL CS CO)) :
    FnOk P w K mg base CX0 13 f fd ["script"] (spLaw K) := by
  refine F.ok sc_law (fun vs H Q E h => ?_) (fun cdv A outer s H vs Q E hr h => ?_)
  · obtain ⟨g, is, rfl, _⟩ := h
    rfl
  · obtain ⟨sp, is, rfl, hsp, k⟩ := h
    refine wb_set 1 sc_law.nd (P := fun v H' => ∃ S N, v = .ref S ∧ SrcN H' S N) (vp_call h1 (hr.mono (by decide)) (sp, is) (va_cons (v_nm (v := .ref sp) 0 rfl) va_nil) (fun vs H1 e1 q => ⟨q, ex_l e1 hsp⟩) (fun _ _ _ q => q)) fun v H1 e1 p1 => ?_
    obtain ⟨S, N, rfl, src1⟩ := p1
    refine wb_forR (k := 4) T.range v_int (by decide) (by decide) (fun i σ' H' => SrcN H' S N ∧ ∃ o2 o3 o4 o5 o6 o7 o8 o9 o10 o11 o12 o13, σ' = [some (.ref sp), some (.ref S), o2, o3, o4, o5, o6, o7, o8, o9, o10, o11, o12, o13]) (fun H2 e2 => ⟨src1.ex e2, none, none, none, none, none, none, none, none, none, none, none, none, rfl⟩) (fun i σ' H2 hi r => ?_) (fun σ' H2 r => wb_ret v_bl fun v H3 e3 p3 => by subst p3; exact k H3)
    obtain ⟨src2, o2, o3, o4, o5, o6, o7, o8, o9, o10, o11, o12, o13, rfl⟩ := r
    refine wg_nm 2 sc_law.nd ?_
    -- words
    refine wb_setW 3 sc_law.nd (we_draw h3 (hr.mono (by decide)) (va_cons (v_nm (v := .ref S) 1 rfl) (va_cons v_int va_nil)) fun vs H3 e3 q => ⟨S, N, q, src2.ex e3, fun v H4 m4 src4 ⟨pw, ws, ev, pwS, hpw, wl, wnd, wok⟩ => ?_⟩)
    subst ev
    obtain ⟨w0, w1, w2, w3, rfl⟩ : ∃ w0 w1 w2 w3, ws = [w0, w1, w2, w3] := by
      match ws, wl with
      | [a, b, c, d], _ => exact ⟨a, b, c, d, rfl⟩
    have nm0 := wok w0 (by simp)
    have nm1 := wok w1 (by simp)
    have nm2 := wok w2 (by simp)
    have nm3 := wok w3 (by simp)
    have nd3 : [w1, w2, w3].Nodup := (List.nodup_cons.mp wnd).2
    have hpw' : H4 pw = some (.lst [.str w0, .str w1, .str w2, .str w3]) := hpw
    clear hpw wok wnd
    -- step
    refine wb_setW 4 sc_law.nd (toE (pe_op op_add we_pe we_pe) (we_vp (P := fun v _ => v = .int 1) v_int fun v5 H5 e5 q5 => we_draw h2 (hr.mono (by decide)) (va_cons (v_nm (v := .ref S) 1 rfl) (va_cons v_int va_nil)) fun vs H6 e6 q => ⟨(S, 2), N, ⟨q, (by show (1 : Int) ≤ 2; decide), (by show (2 : Int) ≤ 1000; decide)⟩, (src4.ex e5).ex e6, fun v7 H7 m7 src7 ⟨r, er, r0, r2⟩ => ⟨1, r, q5, er, ?_⟩⟩))
    have r2' : r < 2 := r2
    have hpw7 := m7 _ _ pwS (e6 _ _ (e5 _ _ hpw'))
    clear q5 er m7 e5 e6 m4 e3 src4 hpw' r2
    obtain ⟨st, est⟩ : ∃ st, st = 1 + r := ⟨_, rfl⟩
    show WB _ _ _ (List.set _ 4 (some (V.int (1 + r)))) H7
    rw [← est]
    have hst : st = 1 ∨ st = 2 := by omega
    clear est r0 r2' r
    -- d
    refine wb_setW 5 sc_law.nd (toE (pe_op op_add we_pe we_pe) (we_vp (P := fun v _ => v = .int 1) v_int fun v5 H8 e8 q5 => we_draw h2 (hr.mono (by decide)) (va_cons (v_nm (v := .ref S) 1 rfl) (va_cons (v_fdiv (i := 18) (j := st) v_int (v_nm 4 rfl) ⟨by rcases hst with z | z <;> rw [z] <;> decide, by rcases hst with z | z <;> rw [z] <;> decide⟩) va_nil)) fun vs H9 e9 q => ⟨(S, 18 / st), N, ⟨q, (by show (1 : Int) ≤ 18 / st; rcases hst with z | z <;> rw [z] <;> decide), (by show 18 / st ≤ (1000 : Int); rcases hst with z | z <;> rw [z] <;> decide)⟩, (src7.ex e8).ex e9, fun v10 H10 m10 src10 ⟨r, er, r0, r2⟩ => ⟨1, r, q5, er, ?_⟩⟩))
    have r2' : r < 18 / st := r2
    have hpw10 := m10 _ _ pwS (e9 _ _ (e8 _ _ hpw7))
    clear q5 er m10 e8 e9 src7 hpw7 r2
    obtain ⟨d, ed⟩ : ∃ d, d = 1 + r := ⟨_, rfl⟩
    show WB _ _ _ (List.set _ 5 (some (V.int (1 + r)))) H10
    rw [← ed]
    have hd1 : 1 ≤ d := by omega
    have hds : d ≤ 18 ∧ d * st ≤ 18 := by rcases hst with z | z <;> rw [z] at r2' ⊢ <;> omega
    obtain ⟨hd18, hds⟩ := hds
    have hds0 : 1 ≤ d * st := by rcases hst with z | z <;> rw [z] <;> omega
    clear ed r0 r2' r
    -- low
    refine wb_setW 6 sc_law.nd (toE (pe_op op_add we_pe we_pe) (we_vp (P := fun v _ => v = .int (-9)) (v_neg v_int) fun v5 H11 e11 q5 => we_draw h2 (hr.mono (by decide)) (va_cons (v_nm (v := .ref S) 1 rfl) (va_cons (v_sub v_int (v_mul (i := d) (j := st) (v_nm 5 rfl) (v_nm 4 rfl) (.inl ⟨by omega, by omega⟩))) va_nil)) fun vs H12 e12 q => ⟨(S, 19 - d * st), N, ⟨q, (by show (1 : Int) ≤ 19 - d * st; omega), (by show 19 - d * st ≤ (1000 : Int); omega)⟩, (src10.ex e11).ex e12, fun v13 H13 m13 src13 ⟨r, er, r0, r2⟩ => ⟨-9, r, q5, er, ?_⟩⟩))
    have r2' : r < 19 - d * st := r2
    have hpw13 := m13 _ _ pwS (e12 _ _ (e11 _ _ hpw10))
    clear q5 er m13 e11 e12 src10 hpw10 r2
    obtain ⟨lo, elo⟩ : ∃ lo, lo = -9 + r := ⟨_, rfl⟩
    show WB _ _ _ (List.set _ 6 (some (V.int (-9 + r)))) H13
    rw [← elo]
    have hlo1 : -9 ≤ lo := by omega
    have hlo2 : lo + d * st ≤ 9 := by omega
    clear elo r0 r2' r
    have aok0 : ∀ W : WayD, WayOk W → W.bun = [] → (LA.mk w0 w1 w2 w3 st d lo W).Ok := fun W a b => ⟨nm0, nm1, nm2, nm3, nd3, hst, hd1, hd18, hlo1, hlo2, a, b⟩
    have aok1 := aok0 ⟨0, true, []⟩ ⟨by decide, by decide, by simp [BunOk]⟩ rfl
    have so1 : StmOk ⟨w1, some lo, []⟩ := st_ok1 aok1
    have so2 : StmOk ⟨w2, some (lo + d * st), []⟩ := st_ok2 aok1
    have so3 : StmOk ⟨w3, none, [-9]⟩ := st_ok3 aok1
    have lf : LoopOk ⟨w0, st, [⟨w1, some lo, []⟩, ⟨w2, some (lo + d * st), []⟩]⟩ := ok_first aok1
    have ls : LoopOk ⟨w0, st, [⟨w2, some (lo + d * st), []⟩, ⟨w1, some lo, []⟩]⟩ := ok_second aok1
    have la3 : LoopOk (LoopD.add ⟨w0, st, [⟨w1, some lo, []⟩, ⟨w2, some (lo + d * st), []⟩]⟩ ⟨w3, none, [-9]⟩) := ok_added aok1
    -- one, other
    refine wb_cons (toS (ps_par (i := 7) (j := 8) rfl sc_law.nd rfl rfl (by decide) rfl rfl (pa_cons we_pe (pa_cons we_pe pa_nil)) rfl) ?_)
    refine we_vp (vp_stm (z := w0) (s := ⟨w1, some lo, []⟩) hS T.gS (hr.mono (by decide)) nm0 so1 (vap_v (v_ixL (v := .str w1) (v_nm (v := .ref pw) 3 rfl) v_int (sq_of hpw13) (by rfl)) (vap_cons (P := fun v H' => Tp H' v (refD w0 lo)) (vt_tup (vta_cons (vt_of (v_ixL (v := .str w0) (v_nm (v := .ref pw) 3 rfl) v_int (sq_of hpw13) (by rfl)) (.str _)) (vta_cons (vt_of (v_nm (v := .int lo) 6 rfl) (.int _)) vta_nil)) (by simp)) mono_tp fun _ _ _ _ => vap_nil)) (fun vs H1 e1 q => ?_)) fun v14 H14 e14 p14 => we_vp (vp_stm (z := w0) (s := ⟨w2, some (lo + d * st), []⟩) hS T.gS (hr.mono (by decide)) nm0 so2 (vap_v (v_ixL (v := .str w2) (v_nm (v := .ref pw) 3 rfl) v_int (sq_of (e14 _ _ hpw13)) (by rfl)) (vap_cons (P := fun v H' => Tp H' v (refD w0 (lo + d * st))) (vt_tup (vta_cons (vt_of (v_ixL (v := .str w0) (v_nm (v := .ref pw) 3 rfl) v_int (sq_of (e14 _ _ hpw13)) (by rfl)) (.str _)) (vta_cons (vt_of (v_add (v_nm (v := .int lo) 6 rfl) (v_mul (i := d) (j := st) (v_nm 5 rfl) (v_nm 4 rfl) (.inl ⟨by omega, by omega⟩))) (.int _)) vta_nil)) (by simp)) mono_tp fun _ _ _ _ => vap_nil)) (fun vs H1 e1 q => ?_)) fun v15 H15 e15 p15 => ⟨v14, v15, rfl, ?_⟩
    · obtain ⟨_, rfl, vt, _, rfl, t, rfl⟩ := q
      exact ⟨vt, [], rfl, t, .nil⟩
    · obtain ⟨_, rfl, vt, _, rfl, t, rfl⟩ := q
      exact ⟨vt, [], rfl, t, .nil⟩
    obtain ⟨a1, rfl, sa1⟩ := p14
    obtain ⟨a2, rfl, sa2⟩ := p15
    have sa1' := sa1.ex e15
    have e135 := e14.trans e15
    -- rows
    refine wb_set 9 sc_law.nd (P := fun v H' => ∃ q la, v = .ref q ∧ q ≠ S ∧ H' q = some (.lst [.ref la]) ∧ LineAt CL H' la w0 st) (vp_lst (vap_cons (P := fun v H' => ∃ la, v = .ref la ∧ LineAt CL H' la w0 st) (vp_make hL T.gL (hr.mono (by decide)) (w0, st) (va_cons (v_ixL (v := .str w0) (v_nm (v := .ref pw) 3 rfl) v_int (sq_of (e135 _ _ hpw13)) (by rfl)) (va_cons (v_nm (v := .int st) 4 rfl) va_nil)) (fun vs H1 H2 e1 q e2 => ⟨q, nm0, by show 1 ≤ st; omega, by show st ≤ 6; omega⟩) (fun H' x dx fs e' h0 hx po => ⟨x, rfl, dx, by rw [hx, po]⟩)) (fun v H1 H2 e ⟨la, a, b⟩ => ⟨la, a, b.kl (kl_ex e)⟩) fun _ _ _ _ => vap_nil) fun vs H16 e16 q => ?_) fun v16 H16 e16 p16 => ?_
    · obtain ⟨_, _, rfl, ⟨la, rfl, hl⟩, rfl⟩ := q
      obtain ⟨xsS, hS0⟩ := (src13.ex (e135.trans e16)).lst
      exact ⟨sz_of (by simp), fun p hp => ⟨p, la, rfl, (fun e => by rw [e, hS0] at hp; cases hp), upd_same, hl.kl (kl_ex (Ex.new hp))⟩⟩
    obtain ⟨rows, la, rfl, rowS, hrow, hla⟩ := p16
    have s1H16 := sa1'.ex e16
    have s2H16 := sa2.ex e16
    -- first, second
    refine wb_cons (toS (ps_par (i := 10) (j := 11) rfl sc_law.nd rfl rfl (by decide) rfl rfl (pa_cons we_pe (pa_cons we_pe pa_nil)) rfl) ?_)
    refine we_vp (vp_loop (CL := CL) (CS := CS) (L := ⟨w0, st, [⟨w1, some lo, []⟩, ⟨w2, some (lo + d * st), []⟩]⟩) (rows := rows) (la := la) (sa := [a1, a2]) hO T.gO (hr.mono (by decide)) lf hrow hla (.cons s1H16 (.cons s2H16 .nil)) (va_cons (v_nm (v := .ref rows) 9 rfl) (va_cons (v_nm (v := .ref a1) 7 rfl) (va_cons (v_nm (v := .ref a2) 8 rfl) va_nil)))) fun v17 H17 e17 p17 => we_vp (vp_loop (CL := CL) (CS := CS) (L := ⟨w0, st, [⟨w2, some (lo + d * st), []⟩, ⟨w1, some lo, []⟩]⟩) (rows := rows) (la := la) (sa := [a2, a1]) hO T.gO (hr.mono (by decide)) ls (e17 _ _ hrow) (hla.kl (kl_ex e17)) (.cons (s2H16.ex e17) (.cons (s1H16.ex e17) .nil)) (va_cons (v_nm (v := .ref rows) 9 rfl) (va_cons (v_nm (v := .ref a2) 8 rfl) (va_cons (v_nm (v := .ref a1) 7 rfl) va_nil)))) fun v18 H18 e18 p18 => ⟨v17, v18, rfl, ?_⟩
    obtain ⟨of_, rfl, hof⟩ := p17
    obtain ⟨os, rfl, hos⟩ := p18
    have hof' := hof.ex e18
    have src18 : SrcN H18 S N := src13.ex (((e135.trans e16).trans e17).trans e18)
    have hpw18 := (((e135.trans e16).trans e17).trans e18) _ _ hpw13
    clear hof sa1 sa2 sa1' s1H16 s2H16 hrow hla hpw13 src13 e14 e15 e135 e16 e17 e18
    -- way
    refine wb_setW 12 sc_law.nd (we_makeK hW T.gW (hr.mono (by decide)) (toK (pk_cons we_pe wk_pk) (we_draw h2 (hr.mono (by decide)) (va_cons (v_nm (v := .ref S) 1 rfl) (va_cons v_int va_nil)) fun vs H19 e19 q => ⟨(S, 4), N, ⟨q, (by show (1 : Int) ≤ 4; decide), (by show (4 : Int) ≤ 1000; decide)⟩, src18.ex e19, fun v20 H20 m20 src20 ⟨ah, er, ah0, ah4⟩ => ?_⟩)))
    subst er
    refine toK (pk_cons we_pe wk_pk) (toE (pe_cmpR op_eq we_pe we_pe (by first | exact nomark _ | rfl)) (we_draw h2 (hr.mono (by decide)) (va_cons (v_nm (v := .ref S) 1 rfl) (va_cons v_int va_nil)) fun vs H21 e21 q => ⟨(S, 2), N, ⟨q, (by show (1 : Int) ≤ 2; decide), (by show (2 : Int) ≤ 1000; decide)⟩, src20.ex e21, fun v22 H22 m22 src22 ⟨g, er, _, _⟩ => ?_⟩))
    subst er
    refine we_vp (P := fun v _ => v = .int 0) v_int fun v23 H23 e23 p23 => ?_
    subst p23
    refine ⟨rfl, toK pk_nil ?_⟩
    have ah4' : ah < 4 := ah4
    refine ⟨rfl, (⟨ah, decide (V.int g = V.int 0), []⟩, bv), _, fun x => rfl, fun H2 e2 => ⟨rfl, ⟨ah0, by show ah ≤ 3; omega, by simp [BunOk]⟩, hbv H2⟩, fun H24 wx dx fs e24 hx po => ?_⟩
    obtain ⟨dW, rfl, hdW, hbW⟩ := po
    have hW24 : WayAt K CW H24 wx ⟨ah, decide (V.int g = V.int 0), []⟩ := ⟨dx, dW, bv, hx, hdW, hbW⟩
    have mm : Em S H18 H24 := ((((em_ex e19).tr m20).ex e21).tr m22).ex (e23.trans e24)
    obtain ⟨xsS, hS18⟩ := src18.lst
    have kl := em_kl hS18 mm
    have hof24 := hof'.kl kl
    have hos24 := hos.kl kl
    have src24 : SrcN H24 S N := src22.ex (e23.trans e24)
    have hpw24 := mm _ _ pwS hpw18
    have aok2 := aok0 ⟨ah, decide (V.int g = V.int 0), []⟩ ⟨ah0, by show ah ≤ 3; omega, by simp [BunOk]⟩ rfl
    clear hx hdW hbW mm kl hof' hos src18 src20 src22 hpw18 hS18 xsS m20 m22 e19 e21 e23 e24 ah0 ah4 ah4'
    generalize hWd : (⟨ah, decide (V.int g = V.int 0), []⟩ : WayD) = W at hW24 aok2
    have fc := pl _ aok2
    generalize hA : LA.mk w0 w1 w2 w3 st d lo W = A0 at aok2 fc
    have hof0 : LoopAt CL CS CO H24 of_ A0.first := by rw [← hA]; exact hof24
    have hos0 : LoopAt CL CS CO H24 os A0.second := by rw [← hA]; exact hos24
    have eW : A0.W = W := by rw [← hA]
    have ez : A0.z = w0 := by rw [← hA]
    have e3 : A0.n3 = w3 := by rw [← hA]
    have ed : A0.d = d := by rw [← hA]
    have el : A0.lo = lo := by rw [← hA]
    have es : A0.st = st := by rw [← hA]
    clear hof24 hos24 hA so1 so2 so3 lf ls la3 aok0 aok1 nd3 nm0 nm1 nm2 nm3 hds hds0 hd1 hd18 hlo1 hlo2 hst hWd
    subst eW ez e3 ed el es
    have lf := ok_first aok2
    have ls := ok_second aok2
    have la3 := ok_added aok2
    have nmz := aok2.z
    have dB := aok2.d1
    have dB2 := aok2.d18
    show WB _ _ _ _ H24
    -- first_wrong
    refine wb_no (VT.is (tp_cmp (op_neD hr.units) (PA := FirstW ⟨A0.first, A0.W, false⟩) (PB := fun _ v H' => Tp H' v (fwD A0.z (A0.d + 1) (A0.d + 1) (A0.lo + A0.d * A0.st))) (vp_call h4 hr (⟨A0.first, A0.W, false⟩, of_, wx) (va_cons (v_nm (v := .ref of_) 10 rfl) (va_cons (v_nm (v := .ref wx) 12 rfl) va_nil)) (fun vs H1 e1 q => ⟨q, hof0.ex e1, hW24.ex e1, fc.k1⟩) (fun _ _ _ q => q)) (fun x H1 e1 p1 => vt_tup (vta_cons (vt_of (v_add (v_nm (v := .int A0.d) 5 rfl) v_int) (.int _)) (vta_cons (vt_of (v_add (v_nm (v := .int A0.d) 5 rfl) v_int) (.int _)) (vta_cons (vt_tup (vta_cons (vt_of v_str (.str _)) (vta_cons (vt_of (v_ixL (v := .str A0.z) (v_nm (v := .ref pw) 3 rfl) v_int (sq_of (e1 _ _ hpw24)) (by rfl)) (.str _)) (vta_cons (vt_of (v_add (v_nm (v := .int A0.lo) 6 rfl) (v_mul (i := A0.d) (j := A0.st) (v_nm 5 rfl) (v_nm 4 rfl) (.inl ⟨by omega, by omega⟩))) (.int _)) vta_nil))) (by simp)) vta_nil))) (by simp)) fun x H1 y H2 e1 p1 e2 p2 Q1 k1 => ?_) rfl) fun H25 e25 => ?_
    · exact ⟨_, _, ((fw_at fc p1).ex e2).dp, p2.dp, shaped_fw nmz _ _ _, shaped_fw nmz _ _ _, k1 _ H2 (Ex.refl _) (by rw [SeqAt.eqv_refl _ (lay_fw nmz _ _ _)]; rfl)⟩
    have hof1 := hof0.ex e25
    have hos1 := hos0.ex e25
    have hW1 := hW24.ex e25
    have hpw1 := e25 _ _ hpw24
    have src1 := src24.ex e25
    clear hof0 hos0 hW24 hpw24 src24 e25
    -- greatest_safe, is_safe
    refine wb_no (VT.is (w_t (w_or (t_ne (vp_call (P := fun v _ => v = .int A0.d) h5 hr (⟨A0.first, A0.W, false⟩, of_, wx) (va_cons (v_nm (v := .ref of_) 10 rfl) (va_cons (v_nm (v := .ref wx) 12 rfl) va_nil)) (fun vs H1 e1 q => ⟨q, hof1.ex e1, hW1.ex e1, fc.k1⟩) (fun _ _ _ q => gs_at fc q)) (v_nm (v := .int A0.d) 5 rfl)) fun _ =>
      w_or (t_not (t_val (vp_call (P := fun v _ => v = .bl true) h6 hr (⟨A0.second, A0.W, false⟩, os, wx) (va_cons (v_nm (v := .ref os) 11 rfl) (va_cons (v_nm (v := .ref wx) 12 rfl) va_nil)) (fun vs H1 e1 q => ⟨q, hos1.ex e1, hW1.ex e1, fc.k2⟩) (fun _ _ _ q => safe_yes fc.g2 q)))) fun _ =>
      w_or1 (t_not (t_val (vp_callD (P := fun v _ => v = .bl true) h6 hr (vap_v (v_nm (v := .ref of_) 10 rfl) (vap_cons (P := fun v H' => ∃ x, v = .ref x ∧ WayAt K CW H' x (carW A0.first)) (vp_static hC (hr.mono (by decide)) (v_gl (v := .ref CW) T.gW rfl) (of_, A0.first) (va_cons (v_nm (v := .ref of_) 10 rfl) va_nil) (fun vs H1 e1 q => ⟨q, hof1.ex e1, lf.l1, lf.l5⟩) fun v H' _ q => q) (fun v H1 H2 e ⟨x, a, b⟩ => ⟨x, a, b.ex e⟩) fun _ _ _ _ => vap_nil)) (fun vs H1 e1 q => ?_)))))) (by simp)) fun H26 e26 => ?_
    · obtain ⟨_, rfl, _, _, rfl, ⟨x, rfl, hx⟩, rfl⟩ := q
      exact ⟨(⟨A0.first, carW A0.first, true⟩, of_, x), ⟨rfl, hof1.ex e1, hx, fc.k3⟩, fun v H' _ q => safe_yes fc.g3 q⟩
    have hof2 := hof1.ex e26
    have hos2 := hos1.ex e26
    have hpw2 := e26 _ _ hpw1
    have src2 := src1.ex e26
    clear hof1 hos1 hW1 hpw1 src1 e26
    -- meets, reach
    refine wb_no (VT.is (w_t (w_or (t := false) (tp_cmp (op_neD hr.units) (t := false) (PA := MtL [(0, -1, 1, -1, -A0.d)]) (PB := fun _ v H' => Dp K H' v (msD (-A0.d))) (vp_call h7 (hr.mono (by decide)) (of_, A0.first) (va_cons (v_nm (v := .ref of_) 10 rfl) va_nil) (fun vs H1 e1 q => ⟨q, hof2.ex e1, lf⟩) (fun _ _ _ q => by rw [← fc.m1]; exact q)) (fun x H1 e1 p1 => vp_lst (vta_cons (vt_tup (vta_cons (vt_of v_int (.int _)) (vta_cons (vt_of (v_neg v_int) (.int _)) (vta_cons (vt_of v_int (.int _)) (vta_cons (vt_of (v_neg v_int) (.int _)) (vta_cons (vt_of (v_neg (v_nm (v := .int A0.d) 5 rfl)) (.int _)) vta_nil))))) (by simp)) vta_nil) fun vs H2 e2 q => ?_) fun x H1 y H2 e1 p1 e2 p2 Q1 k1 => ?_) fun _ =>
      w_or (t := false) (tp_cmp (op_neD hr.units) (t := false) (PA := MtL [(0, -1, 1, -1, A0.d)]) (PB := fun _ v H' => Dp K H' v (msD A0.d)) (vp_call h7 (hr.mono (by decide)) (os, A0.second) (va_cons (v_nm (v := .ref os) 11 rfl) va_nil) (fun vs H1 e1 q => ⟨q, hos2.ex e1, ls⟩) (fun _ _ _ q => by rw [← fc.m2]; exact q)) (fun x H1 e1 p1 => vp_lst (vta_cons (vt_tup (vta_cons (vt_of v_int (.int _)) (vta_cons (vt_of (v_neg v_int) (.int _)) (vta_cons (vt_of v_int (.int _)) (vta_cons (vt_of (v_neg v_int) (.int _)) (vta_cons (vt_of (v_nm (v := .int A0.d) 5 rfl) (.int _)) vta_nil))))) (by simp)) vta_nil) fun vs H2 e2 q => ?_) fun x H1 y H2 e1 p1 e2 p2 Q1 k1 => ?_) fun _ =>
      w_or1 (VT.is (t_ne (vp_call (P := fun v _ => v = .int A0.d) h8 (hr.mono (by decide)) (of_, A0.first) (va_cons (v_nm (v := .ref of_) 10 rfl) va_nil) (fun vs H1 e1 q => ⟨q, hof2.ex e1, lf, fc.k1.mt⟩) (fun _ _ _ q => by rw [← fc.r1]; exact q)) (v_nm (v := .int A0.d) 5 rfl)) (by simp)))) rfl) fun H27 e27 => ?_
    · exact ⟨sz_of (by rw [q.length]; simp), fun p hp => .lst (sq_of upd_same) (q.kt (kt_new hp)).dp⟩
    · exact ⟨_, _, mtl_one p1 e2, p2, shaped_ms _, shaped_ms _, k1 _ H2 (Ex.refl _) (by rw [SeqAt.eqv_refl _ rfl]; rfl)⟩
    · exact ⟨sz_of (by rw [q.length]; simp), fun p hp => .lst (sq_of upd_same) (q.kt (kt_new hp)).dp⟩
    · exact ⟨_, _, mtl_one p1 e2, p2, shaped_ms _, shaped_ms _, k1 _ H2 (Ex.refl _) (by rw [SeqAt.eqv_refl _ rfl]; rfl)⟩
    have hof3 := hof2.ex e27
    have hpw3 := e27 _ _ hpw2
    have src3 := src2.ex e27
    clear hof2 hos2 hpw2 src2 e27
    -- added
    obtain ⟨fA, fdA, A1, A2, A3⟩ := mA.ex
    refine wb_set 13 sc_law.nd (P := fun v H' => ∃ x, v = .ref x ∧ LoopAt CL CS CO H' x A0.added) (vp_op (op_addO A1 A3 A2 (hr.mono (by decide)) aok.sf aok.na aok.ne) (v_nm (v := .ref of_) 10 rfl) (fun x H1 e1 _ => vp_stm (z := A0.z) (s := A0.s3) hS T.gS (hr.mono (by decide)) nmz (st_ok3 aok2) (vap_v (v_ixL (v := .str A0.n3) (v_nm (v := .ref pw) 3 rfl) v_int (sq_of (e1 _ _ hpw3)) (by rfl)) (vap_v v_non (vap_cons (P := fun v H' => Tp H' v (refD A0.z (-9))) (vt_tup (vta_cons (vt_of (v_ixL (v := .str A0.z) (v_nm (v := .ref pw) 3 rfl) v_int (sq_of (e1 _ _ hpw3)) (by rfl)) (.str _)) (vta_cons (vt_of (v_neg v_int) (.int _)) vta_nil)) (by simp)) mono_tp fun _ _ _ _ => vap_nil))) (fun vs H2 e2 q => ?_)) fun x H1 y H2 e1 p1 e2 p2 Q1 k1 => ?_) fun v H28 e28 p28 => ?_
    · obtain ⟨_, rfl, _, rfl, t, _, rfl, ht, rfl⟩ := q
      exact ⟨.non, [t], rfl, .non, .cons ht .nil⟩
    · subst p1
      obtain ⟨b, rfl, hb⟩ := p2
      have hL2 := hof3.ex (e1.trans e2)
      obtain ⟨dx, ql, qs, dd, la, sa, hi, _⟩ := id hL2
      obtain ⟨dy, vt, vs, hj, _⟩ := id hb
      exact ⟨of_, dx, _, b, dy, _, rfl, rfl, hi, hj, (of_, A0.first, b, A0.s3), ⟨rfl, hL2, hb, la3, (fun z => nomatch z)⟩, fun v H' e' q => k1 v H' e' q⟩
    obtain ⟨oa, rfl, hoa⟩ := p28
    have src4 := src3.ex e28
    refine wb_no (VT.is (w_t (w_or (t := false) (VT.is (t_notN (vp_callD (P := fun v _ => v = .non) h4 hr (vap_v (v_nm (v := .ref oa) 13 rfl) (vap_cons (P := fun v H' => ∃ x, v = .ref x ∧ WayAt K CW H' x (carW A0.added)) (vp_static hC (hr.mono (by decide)) (v_gl (v := .ref CW) T.gW rfl) (oa, A0.added) (va_cons (v_nm (v := .ref oa) 13 rfl) va_nil) (fun vs H1 e1 q => ⟨q, hoa.ex e1, la3.l1, la3.l5⟩) fun v H' _ q => q) (fun v H1 H2 e ⟨x, a, b⟩ => ⟨x, a, b.ex e⟩) fun _ _ _ _ => vap_nil)) (fun vs H1 e1 q => ?_))) rfl) fun _ =>
      w_or1 (VT.is (t_lt (vp_call (P := fun v _ => v = .int (reachP A0.added : Int)) h8 (hr.mono (by decide)) (oa, A0.added) (va_cons (v_nm (v := .ref oa) 13 rfl) va_nil) (fun vs H1 e1 q => ⟨q, hoa.ex e1, la3, fc.k4.mt⟩) (fun _ _ _ q => q)) (v_nm (v := .int A0.d) 5 rfl)) (decide_eq_false (by have := fc.r4; omega))))) rfl) fun H29 e29 => wb_nil ⟨src4.ex e29, _, _, _, _, _, _, _, _, _, _, _, _, rfl⟩
    obtain ⟨_, rfl, _, _, rfl, ⟨x, rfl, hx⟩, rfl⟩ := q
    exact ⟨(⟨A0.added, carW A0.added, true⟩, oa, x), ⟨rfl, hoa.ex e1, hx, fc.k4⟩, fun v H' _ q => fw_non fc.g4 q⟩
end
end Vw
end
section
/-! The plain law: last stores. -/
namespace Vw
open PySem PySem.Spec PyProof.Rows L2 Evl
def hitB (L : LoopD) (x : Int) (e : Ev) : Bool := decide (e.w = "store") && decide (cellP L e = x)
theorem wr_step (L : LoopD) (x : Int) (m : Ori × Wri) (e : Ev) : wrAt (stepP L m e).2 x = if hitB L x e = true then some (e.n, e.a) else wrAt m.2 x := by
  unfold stepP hitB wrAt
  by_cases h1 : e.w = "load"
  · rw [if_pos h1, if_neg (by rw [h1, decide_eq_false (by decide +kernel : ¬ (("load" : Str) = "store"))]; simp)]
  · rw [if_neg h1]
    by_cases h2 : e.w = "store"
    · rw [if_pos h2, getM_put]
      by_cases h3 : cellP L e = x
      · rw [if_pos h3.symm, if_pos (by simp [h2, h3])]
        rfl
      · rw [if_neg (fun z => h3 z.symm), if_neg (by simp [h3])]
    · rw [if_neg h2, if_neg (by simp [h2])]
theorem wr_rest (L : LoopD) (x : Int) : ∀ (es : List Ev) (m : Ori × Wri), (∀ e ∈ es, hitB L x e = false) → wrAt (es.foldl (stepP L) m).2 x = wrAt m.2 x
  | [], _, _ => rfl
  | e :: es, m, h => by
    rw [List.foldl_cons, wr_rest L x es _ fun e' he' => h e' (List.mem_cons_of_mem _ he'), wr_step, if_neg (by rw [h e List.mem_cons_self]; exact Bool.false_ne_true)]
theorem last_none {L : LoopD} {x : Int} {es : List Ev} (h : ∀ e ∈ es, hitB L x e = false) : wrAt (flowP L es).2 x = none := wr_rest L x es _ h
theorem last_some {L : LoopD} {x : Int} {es : List Ev} {R : Ev → Ev → Prop} {e : Ev} (pw : es.Pairwise R) (he : e ∈ es) (hh : hitB L x e = true) (hm : ∀ e' ∈ es, hitB L x e' = true → ¬ R e e') : wrAt (flowP L es).2 x = some (e.n, e.a) := by
  obtain ⟨s, t, rfl⟩ := List.append_of_mem he
  have h2 := (List.pairwise_cons.mp (List.pairwise_append.mp pw).2.1).1
  unfold flowP
  rw [List.foldl_append, List.foldl_cons, wr_rest L x t, wr_step, if_pos hh]
  intro e' he'
  cases q : hitB L x e' with
  | false => rfl
  | true => exact absurd (h2 e' he') (hm e' (List.mem_append.mpr (.inr (List.mem_cons_of_mem _ he'))) q)
/-! ### the cells that are written -/
theorem keys_put (m : Wri) (k : Int) (v : Wr) : (putM m k v).map (·.1) = if (m.any fun kv => decide (kv.1 = k)) = true then m.map (·.1) else m.map (·.1) ++ [k] := by
  unfold putM
  split
  · rw [List.map_map]
    apply List.map_congr_left
    intro a _
    simp only [Function.comp_apply]
    split <;> rfl
  · rw [List.map_append]
    rfl
theorem keys_flow (L : LoopD) (S : List Int) : ∀ (es : List Ev) (m : Ori × Wri), (m.2.map (·.1)).Nodup → (m.2.map (·.1)) ⊆ S → (∀ e ∈ es, e.w = "store" → cellP L e ∈ S) → ((es.foldl (stepP L) m).2.map (·.1)).Nodup ∧ ((es.foldl (stepP L) m).2.map (·.1)) ⊆ S
  | [], m, h1, h2, _ => ⟨h1, h2⟩
  | e :: es, m, h1, h2, h3 => by
    rw [List.foldl_cons]
    refine keys_flow L S es _ ?_ ?_ fun e' he' => h3 e' (List.mem_cons_of_mem _ he')
    · unfold stepP
      split
      · exact h1
      · split
        · rw [keys_put]
          split
          · exact h1
          · rename_i hs hn
            rw [List.nodup_append]
            refine ⟨h1, by simp, fun a ha b hb => ?_⟩
            rw [List.mem_singleton.mp hb]
            rintro rfl
            apply hn
            obtain ⟨kv, hk, ek⟩ := List.mem_map.mp ha
            exact List.any_eq_true.mpr ⟨kv, hk, by simp [ek]⟩
        · exact h1
    · unfold stepP
      split
      · exact h2
      · split
        · rename_i hs
          rw [keys_put]
          split
          · exact h2
          · intro a ha
            rcases List.mem_append.mp ha with ha | ha
            · exact h2 ha
            · rw [List.mem_singleton.mp ha]
              exact h3 e List.mem_cons_self hs
        · exact h2
theorem flow_size {L : LoopD} {es : List Ev} {S : List Int} (h : ∀ e ∈ es, e.w = "store" → cellP L e ∈ S) : (flowP L es).2.length ≤ S.length := by
  obtain ⟨h1, h2⟩ := keys_flow L S es ([], []) (by simp) (by simp) h
  have := List.Nodup.length_le_of_subset h1 h2
  rw [List.length_map] at this
  exact this
/-! ### lanes -/
theorem lane_mem {w c b a : Nat} : a ∈ lanesP w c b ↔ a < c ∧ b * w ≤ a ∧ a < b * w + w := by
  unfold lanesP
  rw [List.mem_filter, List.mem_range'_1]
  simp
  omega
theorem lane_lt (w c b : Nat) : (lanesP w c b).Pairwise (· < ·) := List.Pairwise.filter _ (List.pairwise_lt_range' ..)
theorem lane_div {w c b a : Nat} (h : a ∈ lanesP w c b) : a / w = b := by
  obtain ⟨_, h1, h2⟩ := lane_mem.mp h
  exact Nat.div_eq_of_lt_le h1 (by rw [Nat.succ_mul]; exact h2)
theorem lane_has {w c a : Nat} (hw : 1 ≤ w) (h : a < c) : a / w < manyP w c ∧ a ∈ lanesP w c (a / w) := by
  have e := Nat.div_add_mod a w
  have m := Nat.mod_lt a hw
  rw [Nat.mul_comm] at e
  refine ⟨?_, lane_mem.mpr ⟨h, by omega, by omega⟩⟩
  unfold manyP
  show a / w + 1 ≤ _
  rw [Nat.le_div_iff_mul_le hw, Nat.succ_mul]
  omega
theorem many_up {w : Nat} (c : Nat) (hw : 1 ≤ w) : c ≤ manyP w c * w := by
  unfold manyP
  have e := Nat.div_add_mod (c + w - 1) w
  have m := Nat.mod_lt (c + w - 1) hw
  rw [Nat.mul_comm] at e
  omega
theorem blocks_all (w : Nat) : ∀ k, (List.range k).flatMap (fun b => List.range' (b * w) w) = List.range (k * w)
  | 0 => by simp
  | k + 1 => by
    rw [List.range_succ, List.flatMap_append, blocks_all w k, List.flatMap_cons, List.flatMap_nil, List.append_nil, List.range_eq_range', List.range_eq_range', Nat.succ_mul]
    have := List.range'_append_1 (s := 0) (m := k * w) (n := w)
    rw [Nat.zero_add] at this
    exact this
theorem lanes_all {w : Nat} (c : Nat) (hw : 1 ≤ w) : (List.range (manyP w c)).flatMap (lanesP w c) = List.range c := by
  have h := many_up c hw
  have e : (List.range (manyP w c)).flatMap (lanesP w c) = (List.range (manyP w c * w)).filter fun a => decide (a < c) := by
    rw [← blocks_all, List.filter_flatMap]
    rfl
  rw [e]
  obtain ⟨r, hr⟩ := Nat.exists_eq_add_of_le h
  have := List.range'_append_1 (s := 0) (m := c) (n := r)
  rw [Nat.zero_add] at this
  rw [hr, List.range_eq_range', ← this, List.filter_append, List.filter_eq_self.mpr, List.filter_eq_nil_iff.mpr, List.append_nil, List.range_eq_range']
  · intro a ha
    have := List.mem_range'_1.mp ha
    simp
    omega
  · intro a ha
    have := List.mem_range'_1.mp ha
    simp
    omega
/-- in one bundle: as the plain loop -/
theorem wide_plain {L : LoopD} {w : Nat} (c : Nat) (hw : 1 ≤ w) (h1 : 1 ≤ L.ss.length) : wideP L true w c = plainP L c := by
  unfold wideP evB plainP
  rw [← lanes_all c hw, List.flatMap_assoc]
  congr 1
  funext blk
  unfold groupsP
  rw [if_pos rfl, List.flatMap_cons, List.flatMap_nil, List.append_nil]
  unfold groupQ
  rw [if_pos rfl]
  show (lanesP w c blk).flatMap (fun a => iterP L a (List.range' 0 (L.ss.length - 1 + 1 - 0))) = _
  rw [show L.ss.length - 1 + 1 - 0 = L.ss.length by omega, ← List.range_eq_range']
end Vw
end
section
/-! The plain law: loops of two stores. -/
namespace Vw
open PySem PySem.Spec PyProof.Rows L2 Evl
def T2 (z m0 m1 : Str) (st o0 o1 : Int) : LoopD := ⟨z, st, [⟨m0, some o0, []⟩, ⟨m1, some o1, []⟩]⟩
def sv (n a : Nat) : Ev := ⟨"store", n, a, 0⟩
section
variable {z m0 m1 : Str} {st o0 o1 : Int} {W : WayD}
theorem iter_T2 (a : Nat) : iterP (T2 z m0 m1 st o0 o1) a (List.range (T2 z m0 m1 st o0 o1).ss.length) = [sv 0 a, sv 1 a] := rfl
theorem grp_T2 (ls : List Nat) : (groupsP false (T2 z m0 m1 st o0 o1).ss.length).flatMap (fun g => groupQ (T2 z m0 m1 st o0 o1) g ls) = ls.map (sv 0) ++ ls.map (sv 1) := by
  show ls.map (fun a => endP (T2 z m0 m1 st o0 o1) 0 a) ++ (ls.map (fun a => endP (T2 z m0 m1 st o0 o1) 1 a) ++ []) = _
  rw [List.append_nil]
  rfl
theorem cell_0 (a : Nat) : cellP (T2 z m0 m1 st o0 o1) (sv 0 a) = st * (a : Int) + o0 := rfl
theorem cell_1 (a : Nat) : cellP (T2 z m0 m1 st o0 o1) (sv 1 a) = st * (a : Int) + o1 := rfl
theorem hit_0 (x : Int) (a : Nat) : hitB (T2 z m0 m1 st o0 o1) x (sv 0 a) = true ↔ st * (a : Int) + o0 = x := by
  unfold hitB
  rw [cell_0, show (sv 0 a).w = "store" from rfl]
  simp
theorem hit_1 (x : Int) (a : Nat) : hitB (T2 z m0 m1 st o0 o1) x (sv 1 a) = true ↔ st * (a : Int) + o1 = x := by
  unfold hitB
  rw [cell_1, show (sv 1 a).w = "store" from rfl]
  simp
/-- all stores below c -/
def AllSt (c : Nat) (es : List Ev) : Prop := ∀ e, e ∈ es ↔ ∃ a, a < c ∧ (e = sv 0 a ∨ e = sv 1 a)
theorem plain_all (c : Nat) : AllSt c (plainP (T2 z m0 m1 st o0 o1) c) := fun e => by
  unfold plainP
  rw [List.mem_flatMap]
  constructor
  · rintro ⟨a, ha, he⟩
    rw [iter_T2] at he
    simp only [List.mem_cons, List.not_mem_nil, or_false] at he
    exact ⟨a, List.mem_range.mp ha, he⟩
  · rintro ⟨a, ha, he⟩
    refine ⟨a, List.mem_range.mpr ha, ?_⟩
    rw [iter_T2]
    simp only [List.mem_cons, List.not_mem_nil, or_false]
    exact he
theorem wide_all {w : Nat} (c : Nat) (hw : 1 ≤ w) : AllSt c (wideP (T2 z m0 m1 st o0 o1) false w c) := fun e => by
  unfold wideP evB
  rw [List.mem_flatMap]
  constructor
  · rintro ⟨b, hb, he⟩
    rw [grp_T2] at he
    rcases List.mem_append.mp he with he | he
    · obtain ⟨a, ha, rfl⟩ := List.mem_map.mp he
      exact ⟨a, (lane_mem.mp ha).1, .inl rfl⟩
    · obtain ⟨a, ha, rfl⟩ := List.mem_map.mp he
      exact ⟨a, (lane_mem.mp ha).1, .inr rfl⟩
  · rintro ⟨a, ha, he⟩
    obtain ⟨h1, h2⟩ := lane_has hw ha
    refine ⟨a / w, List.mem_range.mpr h1, ?_⟩
    rw [grp_T2]
    rcases he with rfl | rfl
    · exact List.mem_append.mpr (.inl (List.mem_map.mpr ⟨a, h2, rfl⟩))
    · exact List.mem_append.mpr (.inr (List.mem_map.mpr ⟨a, h2, rfl⟩))
def Rp (e f : Ev) : Prop := e.a < f.a ∨ (e.a = f.a ∧ e.n < f.n)
def Rw (w : Nat) (e f : Ev) : Prop := e.a / w < f.a / w ∨ (e.a / w = f.a / w ∧ (e.n < f.n ∨ (e.n = f.n ∧ e.a < f.a)))
theorem plain_ord (c : Nat) : (plainP (T2 z m0 m1 st o0 o1) c).Pairwise Rp := by
  unfold plainP
  rw [List.pairwise_flatMap]
  refine ⟨fun a ha => ?_, ?_⟩
  · rw [iter_T2]
    refine List.Pairwise.cons (fun f hf => ?_) (List.Pairwise.cons (fun f hf => absurd hf (by simp)) .nil)
    rw [List.mem_singleton.mp hf]
    exact .inr ⟨rfl, by show 0 < 1; decide⟩
  · refine List.Pairwise.imp ?_ (List.pairwise_lt_range (n := c))
    intro a b hab x hx y hy
    rw [iter_T2] at hx hy
    simp only [List.mem_cons, List.not_mem_nil, or_false] at hx hy
    left
    rcases hx with rfl | rfl <;> rcases hy with rfl | rfl <;> exact hab
theorem wide_ord (w c : Nat) : (wideP (T2 z m0 m1 st o0 o1) false w c).Pairwise (Rw w) := by
  unfold wideP evB
  rw [List.pairwise_flatMap]
  refine ⟨fun b hb => ?_, ?_⟩
  · rw [grp_T2, List.pairwise_append]
    refine ⟨?_, ?_, ?_⟩
    · rw [List.pairwise_map]
      refine List.Pairwise.imp_of_mem ?_ (lane_lt w c b)
      intro x y hx hy hxy
      exact .inr ⟨by show x / w = y / w; rw [lane_div hx, lane_div hy], .inr ⟨rfl, hxy⟩⟩
    · rw [List.pairwise_map]
      refine List.Pairwise.imp_of_mem ?_ (lane_lt w c b)
      intro x y hx hy hxy
      exact .inr ⟨by show x / w = y / w; rw [lane_div hx, lane_div hy], .inr ⟨rfl, hxy⟩⟩
    · intro x hx y hy
      obtain ⟨a, ha, rfl⟩ := List.mem_map.mp hx
      obtain ⟨a', ha', rfl⟩ := List.mem_map.mp hy
      exact .inr ⟨by show a / w = a' / w; rw [lane_div ha, lane_div ha'], .inl (by show 0 < 1; decide)⟩
  · refine List.Pairwise.imp ?_ (List.pairwise_lt_range (n := manyP w c))
    intro b b' hbb x hx y hy
    rw [grp_T2] at hx hy
    have f : ∀ {b : Nat} {e : Ev}, e ∈ (lanesP w c b).map (sv 0) ++ (lanesP w c b).map (sv 1) → e.a / w = b := fun {b e} h => by
      rcases List.mem_append.mp h with h | h
      · obtain ⟨a, ha, rfl⟩ := List.mem_map.mp h
        exact lane_div ha
      · obtain ⟨a, ha, rfl⟩ := List.mem_map.mp h
        exact lane_div ha
    left
    rw [f hx, f hy]
    exact hbb
section
variable {c : Nat} {es : List Ev} {R : Ev → Ev → Prop} {x : Int}
theorem two_none (al : AllSt c es) (h0 : ∀ a : Nat, a < c → st * (a : Int) + o0 ≠ x) (h1 : ∀ a : Nat, a < c → st * (a : Int) + o1 ≠ x) : wrAt (flowP (T2 z m0 m1 st o0 o1) es).2 x = none := last_none fun e he => by
  obtain ⟨a, ha, rfl | rfl⟩ := (al e).mp he
  · rw [Bool.eq_false_iff]
    exact fun q => h0 a ha ((hit_0 x a).mp q)
  · rw [Bool.eq_false_iff]
    exact fun q => h1 a ha ((hit_1 x a).mp q)
theorem two_0 (hs : st = 1 ∨ st = 2) (pw : es.Pairwise R) (irr : ∀ e, ¬ R e e) (al : AllSt c es) {a0 : Nat} (h0 : a0 < c) (e0 : st * (a0 : Int) + o0 = x) (h : ∀ a1 : Nat, a1 < c → st * (a1 : Int) + o1 = x → ¬ R (sv 0 a0) (sv 1 a1)) : wrAt (flowP (T2 z m0 m1 st o0 o1) es).2 x = some (0, a0) :=
  last_some (e := sv 0 a0) pw ((al _).mpr ⟨a0, h0, .inl rfl⟩) ((hit_0 x a0).mpr e0) fun e' he' q => by
    obtain ⟨a, ha, rfl | rfl⟩ := (al e').mp he'
    · have := (hit_0 x a).mp q
      have ea : a = a0 := by rcases hs with rfl | rfl <;> omega
      rw [ea]
      exact irr _
    · exact h a ha ((hit_1 x a).mp q)
theorem two_1 (hs : st = 1 ∨ st = 2) (pw : es.Pairwise R) (irr : ∀ e, ¬ R e e) (al : AllSt c es) {a1 : Nat} (h1 : a1 < c) (e1 : st * (a1 : Int) + o1 = x) (h : ∀ a0 : Nat, a0 < c → st * (a0 : Int) + o0 = x → ¬ R (sv 1 a1) (sv 0 a0)) : wrAt (flowP (T2 z m0 m1 st o0 o1) es).2 x = some (1, a1) :=
  last_some (e := sv 1 a1) pw ((al _).mpr ⟨a1, h1, .inr rfl⟩) ((hit_1 x a1).mpr e1) fun e' he' q => by
    obtain ⟨a, ha, rfl | rfl⟩ := (al e').mp he'
    · exact h a ha ((hit_0 x a).mp q)
    · have := (hit_1 x a).mp q
      have ea : a = a1 := by rcases hs with rfl | rfl <;> omega
      rw [ea]
      exact irr _
end
theorem irr_p (e : Ev) : ¬ Rp e e := by unfold Rp; omega
theorem irr_w (w : Nat) (e : Ev) : ¬ Rw w e e := by unfold Rw; omega
/-- where the two forms differ -/
theorem diff_two {b : Bool} {w c : Nat} {x : Int} (hs : st = 1 ∨ st = 2) (hw : 1 ≤ w) : DiffC (LW.at ⟨T2 z m0 m1 st o0 o1, W, false⟩ w c) x ↔ ∃ a0 a1 : Nat, a0 < c ∧ a1 < c ∧ st * (a0 : Int) + o0 = x ∧ st * (a1 : Int) + o1 = x ∧ a1 < a0 ∧ a1 / w = a0 / w := by
  show wrAt (flowP (T2 z m0 m1 st o0 o1) (plainP (T2 z m0 m1 st o0 o1) c)).2 x ≠ wrAt (flowP (T2 z m0 m1 st o0 o1) (wideP (T2 z m0 m1 st o0 o1) false w c)).2 x ↔ _
  have pa := plain_all (z := z) (m0 := m0) (m1 := m1) (st := st) (o0 := o0) (o1 := o1) c
  have wa := wide_all (z := z) (m0 := m0) (m1 := m1) (st := st) (o0 := o0) (o1 := o1) c hw
  have po := plain_ord (z := z) (m0 := m0) (m1 := m1) (st := st) (o0 := o0) (o1 := o1) c
  have wo := wide_ord (z := z) (m0 := m0) (m1 := m1) (st := st) (o0 := o0) (o1 := o1) w c
  by_cases h0 : ∃ a : Nat, a < c ∧ st * (a : Int) + o0 = x
  · obtain ⟨a0, l0, e0⟩ := h0
    by_cases h1 : ∃ a : Nat, a < c ∧ st * (a : Int) + o1 = x
    · obtain ⟨a1, l1, e1⟩ := h1
      have u0 : ∀ a : Nat, st * (a : Int) + o0 = x → a = a0 := fun a e => by rcases hs with rfl | rfl <;> omega
      have u1 : ∀ a : Nat, st * (a : Int) + o1 = x → a = a1 := fun a e => by rcases hs with rfl | rfl <;> omega
      by_cases hle : a0 ≤ a1
      · have hd : a0 / w ≤ a1 / w := Nat.div_le_div_right hle
        rw [two_1 hs po irr_p pa l1 e1 fun a _ e => by
          rw [u0 a e]
          show ¬ (a1 < a0 ∨ (a1 = a0 ∧ 1 < 0))
          omega]
        rw [two_1 hs wo (irr_w w) wa l1 e1 fun a _ e => by
          rw [u0 a e]
          show ¬ (a1 / w < a0 / w ∨ (a1 / w = a0 / w ∧ (1 < 0 ∨ (1 = 0 ∧ a1 < a0))))
          omega]
        constructor
        · exact fun z => absurd rfl z
        · rintro ⟨b0, b1, _, _, q0, q1, lt, _⟩
          rw [u0 b0 q0, u1 b1 q1] at lt
          omega
      · have hd : a1 / w ≤ a0 / w := Nat.div_le_div_right (by omega)
        rw [two_0 hs po irr_p pa l0 e0 fun a _ e => by
          rw [u1 a e]
          show ¬ (a0 < a1 ∨ (a0 = a1 ∧ 0 < 1))
          omega]
        by_cases he : a1 / w = a0 / w
        · rw [two_1 hs wo (irr_w w) wa l1 e1 fun a _ e => by
            rw [u0 a e]
            show ¬ (a1 / w < a0 / w ∨ (a1 / w = a0 / w ∧ (1 < 0 ∨ (1 = 0 ∧ a1 < a0))))
            omega]
          constructor
          · exact fun _ => ⟨a0, a1, l0, l1, e0, e1, by omega, he⟩
          · exact fun _ z => by simp at z
        · rw [two_0 hs wo (irr_w w) wa l0 e0 fun a _ e => by
            rw [u1 a e]
            show ¬ (a0 / w < a1 / w ∨ (a0 / w = a1 / w ∧ (0 < 1 ∨ (0 = 1 ∧ a0 < a1))))
            omega]
          constructor
          · exact fun z => absurd rfl z
          · rintro ⟨b0, b1, _, _, q0, q1, lt, q⟩
            rw [u0 b0 q0, u1 b1 q1] at q
            exact absurd q he
    · have n1 : ∀ a : Nat, a < c → st * (a : Int) + o1 ≠ x := fun a l e => h1 ⟨a, l, e⟩
      rw [two_0 hs po irr_p pa l0 e0 fun a l e => absurd e (n1 a l), two_0 hs wo (irr_w w) wa l0 e0 fun a l e => absurd e (n1 a l)]
      constructor
      · exact fun z => absurd rfl z
      · rintro ⟨_, b1, _, l1, _, q1, _, _⟩
        exact absurd q1 (n1 b1 l1)
  · have n0 : ∀ a : Nat, a < c → st * (a : Int) + o0 ≠ x := fun a l e => h0 ⟨a, l, e⟩
    by_cases h1 : ∃ a : Nat, a < c ∧ st * (a : Int) + o1 = x
    · obtain ⟨a1, l1, e1⟩ := h1
      rw [two_1 hs po irr_p pa l1 e1 fun a l e => absurd e (n0 a l), two_1 hs wo (irr_w w) wa l1 e1 fun a l e => absurd e (n0 a l)]
      constructor
      · exact fun z => absurd rfl z
      · rintro ⟨b0, _, l0, _, q0, _, _, _⟩
        exact absurd q0 (n0 b0 l0)
    · have n1 : ∀ a : Nat, a < c → st * (a : Int) + o1 ≠ x := fun a l e => h1 ⟨a, l, e⟩
      rw [two_none pa n0 n1, two_none wa n0 n1]
      constructor
      · exact fun z => absurd rfl z
      · rintro ⟨b0, _, l0, _, q0, _, _, _⟩
        exact absurd q0 (n0 b0 l0)
end
end Vw
end
section
/-! The plain law: what the law asks. -/
namespace Vw
open PySem PySem.Spec PyProof.Rows L2 Evl
theorem meets2 (st : Int) (r0 r1 : NR) : meetsTo st [r0, r1] 2 = meetP st r0 r1 := by simp [meetsTo, meetsAt, List.range_succ]
theorem meets3 (st : Int) (r0 r1 r2 : NR) : meetsTo st [r0, r1, r2] 3 = meetP st r0 r1 ++ (meetP st r0 r2 ++ meetP st r1 r2) := by simp [meetsTo, meetsAt, List.range_succ]
theorem meet_pos {st x y q : Int} {n m : Nat} {j : Int} (h : (x - y) % st = 0) (e : (x - y) / st = q) : meetP st (n, -1, x) (m, j, y) = [(n, -1, m, j, q)] := by
  unfold meetP
  rw [if_pos (.inl rfl), if_pos h, e]
theorem meet_any (st x y : Int) (n m : Nat) (j : Int) : meetP st (n, -1, x) (m, j, y) = [] ∨ meetP st (n, -1, x) (m, j, y) = [(n, -1, m, j, (x - y) / st)] := by
  unfold meetP
  rw [if_pos (.inl rfl)]
  split
  · exact .inr rfl
  · exact .inl rfl
theorem div_st {st d : Int} (hs : st = 1 ∨ st = 2) (x : Int) : (x - (x + d * st)) % st = 0 ∧ (x - (x + d * st)) / st = -d := by rcases hs with rfl | rfl <;> omega
theorem div_st2 {st d : Int} (hs : st = 1 ∨ st = 2) (x : Int) : ((x + d * st) - x) % st = 0 ∧ ((x + d * st) - x) / st = d := by rcases hs with rfl | rfl <;> omega
theorem max_le {k : Nat} : ∀ l : List Nat, (∀ x ∈ l, x ≤ k) → l.foldr max 0 ≤ k
  | [], _ => Nat.zero_le _
  | x :: l, h => by
    have h1 := h x List.mem_cons_self
    have h2 := max_le l fun y hy => h y (List.mem_cons_of_mem _ hy)
    rw [List.foldr_cons]
    omega
variable {a : LA}
theorem nrefs_first (a : LA) : nrefsP a.first = [(0, -1, a.lo), (1, -1, a.lo + a.d * a.st)] := rfl
theorem nrefs_second (a : LA) : nrefsP a.second = [(0, -1, a.lo + a.d * a.st), (1, -1, a.lo)] := rfl
theorem nrefs_added (a : LA) : nrefsP a.added = [(0, -1, a.lo), (1, -1, a.lo + a.d * a.st), (2, 0, -9)] := rfl
theorem meets_first (h : a.Ok) : meetsP a.first = [(0, -1, 1, -1, -a.d)] := by
  unfold meetsP
  rw [nrefs_first]
  show meetsTo a.st _ 2 = _
  rw [meets2, meet_pos (div_st h.st _).1 (div_st h.st _).2]
theorem meets_second (h : a.Ok) : meetsP a.second = [(0, -1, 1, -1, a.d)] := by
  unfold meetsP
  rw [nrefs_second]
  show meetsTo a.st _ 2 = _
  rw [meets2, meet_pos (div_st2 h.st _).1 (div_st2 h.st _).2]
theorem reach_first (h : a.Ok) : (reachP a.first : Int) = a.d := by
  have := h.d1
  unfold reachP
  rw [meets_first h]
  show ((max (-a.d).natAbs 0 : Nat) : Int) = a.d
  omega
theorem reach_second (h : a.Ok) : (reachP a.second : Int) = a.d := by
  have := h.d1
  unfold reachP
  rw [meets_second h]
  show ((max (a.d).natAbs 0 : Nat) : Int) = a.d
  omega
theorem meets_added (h : a.Ok) : ∃ l, meetsP a.added = (0, -1, 1, -1, -a.d) :: l ∧ l.length ≤ 2 ∧ ∀ m ∈ l, m.2.2.2.2.natAbs ≤ 18 := by
  have e : meetsP a.added = meetP a.st (0, -1, a.lo) (1, -1, a.lo + a.d * a.st) ++ (meetP a.st (0, -1, a.lo) (2, 0, -9) ++ meetP a.st (1, -1, a.lo + a.d * a.st) (2, 0, -9)) := by
    unfold meetsP
    rw [nrefs_added]
    show meetsTo a.st _ 3 = _
    rw [meets3]
  rw [e, meet_pos (div_st h.st _).1 (div_st h.st _).2]
  have h1 := h.l1
  have h2 := h.l2
  have h3 := h.d1
  have b1 : ((a.lo - -9) / a.st).natAbs ≤ 18 := by rcases h.st with z | z <;> rw [z] at h2 ⊢ <;> omega
  have b2 : ((a.lo + a.d * a.st - -9) / a.st).natAbs ≤ 18 := by rcases h.st with z | z <;> rw [z] at h2 ⊢ <;> omega
  refine ⟨meetP a.st (0, -1, a.lo) (2, 0, -9) ++ meetP a.st (1, -1, a.lo + a.d * a.st) (2, 0, -9), rfl, ?_, ?_⟩
  · rcases meet_any a.st a.lo (-9) 0 2 0 with q | q <;> rcases meet_any a.st (a.lo + a.d * a.st) (-9) 1 2 0 with r | r <;> rw [q, r] <;> simp
  · intro m hm
    rcases List.mem_append.mp hm with hm | hm
    · rcases meet_any a.st a.lo (-9) 0 2 0 with q | q
      · rw [q] at hm
        cases hm
      · rw [q] at hm
        rw [List.mem_singleton.mp hm]
        exact b1
    · rcases meet_any a.st (a.lo + a.d * a.st) (-9) 1 2 0 with q | q
      · rw [q] at hm
        cases hm
      · rw [q] at hm
        rw [List.mem_singleton.mp hm]
        exact b2
theorem reach_added (h : a.Ok) : a.d ≤ (reachP a.added : Int) ∧ reachP a.added ≤ 18 := by
  obtain ⟨l, e, _, hl⟩ := meets_added h
  have h1 := h.d1
  have h2 := h.d18
  unfold reachP
  rw [e, List.map_cons, List.foldr_cons]
  have m := max_le (k := 18) (l.map fun m => m.2.2.2.2.natAbs) fun x hx => by
    obtain ⟨y, hy, rfl⟩ := List.mem_map.mp hx
    exact hl y hy
  have key : ∀ q : Nat, q ≤ 18 → a.d ≤ ((max (-a.d).natAbs q : Nat) : Int) ∧ max (-a.d).natAbs q ≤ 18 := fun q hq => by omega
  exact key _ m
/-! ### bounds -/
theorem bnd {g : LW} {w c : Nat} (r : reachP g.L ≤ 18) (h1 : w ≤ gwP g) (h2 : c ≤ gcP g w) : w ≤ 37 ∧ c ≤ 110 := by
  unfold gwP at h1
  unfold gcP at h2
  omega
theorem ori_none (L : LoopD) : ∀ (es : List Ev) (m : Ori × Wri), (∀ e ∈ es, e.w ≠ "load") → (es.foldl (stepP L) m).1 = m.1
  | [], _, _ => rfl
  | e :: es, m, h => by
    rw [List.foldl_cons, ori_none L es _ fun e' he' => h e' (List.mem_cons_of_mem _ he')]
    unfold stepP
    rw [if_neg (h e List.mem_cons_self)]
    split <;> rfl
def cellsOf (a : LA) (c : Nat) : List Int := (List.range (c + 18)).map fun j : Nat => a.lo + a.st * (j : Int)
theorem cell_lo (h : a.Ok) {c x : Nat} (hx : x < c) : a.st * (x : Int) + a.lo ∈ cellsOf a c := List.mem_map.mpr ⟨x, List.mem_range.mpr (by omega), by rw [Int.add_comm]⟩
theorem cell_hi (h : a.Ok) {c x : Nat} (hx : x < c) : a.st * (x : Int) + (a.lo + a.d * a.st) ∈ cellsOf a c := by
  have h1 := h.d1
  have h2 := h.d18
  refine List.mem_map.mpr ⟨x + a.d.toNat, List.mem_range.mpr (by omega), ?_⟩
  rcases h.st with z | z <;> rw [z] <;> omega
theorem sv_not (n x : Nat) : (sv n x).w ≠ "load" := by show ("store" : Str) ≠ "load"; decide +kernel
theorem pre_two {z m0 m1 : Str} {o0 o1 : Int} {W : WayD} (h : a.Ok) (ok : LoopOk (T2 z m0 m1 a.st o0 o1)) (wo : WayOk W) (wb : W.bun = []) {w c : Nat} (hw : 1 ≤ w) (w37 : w ≤ 37) (c110 : c ≤ 110) (hc : ∀ x : Nat, x < c → a.st * (x : Int) + o0 ∈ cellsOf a c ∧ a.st * (x : Int) + o1 ∈ cellsOf a c) :
    DiffPre (LW.at ⟨T2 z m0 m1 a.st o0 o1, W, false⟩ w c) := by
  have pa := plain_all (z := z) (m0 := m0) (m1 := m1) (st := a.st) (o0 := o0) (o1 := o1) c
  have wa := wide_all (z := z) (m0 := m0) (m1 := m1) (st := a.st) (o0 := o0) (o1 := o1) c hw
  refine ⟨⟨ok, wo, wb, hw, by show w ≤ 200; omega, by show c ≤ 300; omega, .inr ⟨rfl, fun n => ?_⟩⟩, fun kw hk => ?_, ?_⟩
  · match n with
    | 0 => rfl
    | 1 => rfl
    | n + 2 => rfl
  · have e : (fl1 (LW.at ⟨T2 z m0 m1 a.st o0 o1, W, false⟩ w c)).1 = [] := ori_none _ _ _ fun e he => by
      obtain ⟨x, _, rfl | rfl⟩ := (pa e).mp he
      · exact sv_not _ _
      · exact sv_not _ _
    rw [e] at hk
    cases hk
  · have s1 : (fl1 (LW.at ⟨T2 z m0 m1 a.st o0 o1, W, false⟩ w c)).2.length ≤ (cellsOf a c).length := flow_size fun e he _ => by
      obtain ⟨x, hx, rfl | rfl⟩ := (pa e).mp he
      · exact (hc x hx).1
      · exact (hc x hx).2
    have s2 : (fl2 (LW.at ⟨T2 z m0 m1 a.st o0 o1, W, false⟩ w c)).2.length ≤ (cellsOf a c).length := flow_size fun e he _ => by
      obtain ⟨x, hx, rfl | rfl⟩ := (wa e).mp he
      · exact (hc x hx).1
      · exact (hc x hx).2
    have l : (cellsOf a c).length = c + 18 := by unfold cellsOf; rw [List.length_map, List.length_range]
    omega
theorem getM_in {κ α : Type} [DecidableEq κ] {m : List (κ × α)} {kw : κ × α} (h : kw ∈ m) : ∃ v, getM m kw.1 = some v := by
  have : (m.any fun kv => decide (kv.1 = kw.1)) = true := List.any_eq_true.mpr ⟨kw, h, by simp⟩
  rw [getM_any] at this
  exact Option.isSome_iff_exists.mp this
theorem car_same {L : LoopD} {W : WayD} {w : Nat} (c : Nat) (hw : 1 ≤ w) (h1 : 1 ≤ L.ss.length) : fl2 (LW.at ⟨L, W, true⟩ w c) = fl1 (LW.at ⟨L, W, true⟩ w c) := by
  show flowP L (wideP L true w c) = flowP L (plainP L c)
  rw [wide_plain c hw h1]
theorem car_ok {L : LoopD} (h1 : 1 ≤ L.ss.length) (h5 : L.ss.length ≤ 5) : WayOk (carW L) := ⟨by show (0 : Int) ≤ 0; decide, by show (0 : Int) ≤ 3; decide, by
  unfold carW BunOk
  simp
  omega⟩
theorem pre_car {L : LoopD} (ok : LoopOk L) {w c : Nat} (hw : 1 ≤ w) (w37 : w ≤ 37) (c110 : c ≤ 110) (hc : ∀ e ∈ plainP L c, e.w = "store" → cellP L e ∈ cellsOf a c) : DiffPre (LW.at ⟨L, carW L, true⟩ w c) := by
  refine ⟨⟨ok, car_ok ok.l1 ok.l5, rfl, hw, by show w ≤ 200; omega, by show c ≤ 300; omega, .inl ⟨rfl, rfl⟩⟩, fun kw hk => ?_, ?_⟩
  · rw [car_same c hw ok.l1]
    obtain ⟨v, hv⟩ := getM_in hk
    exact ⟨v, hv, hv⟩
  · rw [car_same c hw ok.l1]
    have s1 : (fl1 (LW.at ⟨L, carW L, true⟩ w c)).2.length ≤ (cellsOf a c).length := flow_size hc
    have l : (cellsOf a c).length = c + 18 := by unfold cellsOf; rw [List.length_map, List.length_range]
    omega
theorem good_car {L : LoopD} (h1 : 1 ≤ L.ss.length) {w : Nat} (hw : 1 ≤ w) : Good ⟨L, carW L, true⟩ w := fun c _ x hx => hx (by rw [car_same c hw h1])
/-! ### the facts -/
theorem facts (a : LA) (h : a.Ok) : a.Facts := by
  have hs := h.st
  have hd1 := h.d1
  have hd18 := h.d18
  have r1 := reach_first h
  have r2 := reach_second h
  obtain ⟨r4, r4'⟩ := reach_added h
  have o1 := ok_first h
  have o2 := ok_second h
  have o4 := ok_added h
  have mt1 : (meetsP a.first).length ≤ 1000 := by rw [meets_first h]; simp
  have mt2 : (meetsP a.second).length ≤ 1000 := by rw [meets_second h]; simp
  have mt4 : (meetsP a.added).length ≤ 1000 := by
    obtain ⟨l, e, hl, _⟩ := meets_added h
    rw [e, List.length_cons]
    omega
  have r1' : reachP a.first ≤ 18 := by omega
  have r2' : reachP a.second ≤ 18 := by omega
  have gw1 : (gwP ⟨a.first, a.W, false⟩ : Int) = 2 * a.d + 1 := by
    show ((max 2 (2 * reachP a.first + 1) : Nat) : Int) = _
    omega
  -- the difference of first
  have df : ∀ {w c : Nat} {x : Int}, 1 ≤ w → (DiffC (LW.at ⟨a.first, a.W, false⟩ w c) x ↔ ∃ a0 a1 : Nat, a0 < c ∧ a1 < c ∧ a.st * (a0 : Int) + a.lo = x ∧ a.st * (a1 : Int) + (a.lo + a.d * a.st) = x ∧ a1 < a0 ∧ a1 / w = a0 / w) := fun {w c x} hw => diff_two (b := false) hs hw
  have ds : ∀ {w c : Nat} {x : Int}, 1 ≤ w → (DiffC (LW.at ⟨a.second, a.W, false⟩ w c) x ↔ ∃ a0 a1 : Nat, a0 < c ∧ a1 < c ∧ a.st * (a0 : Int) + (a.lo + a.d * a.st) = x ∧ a.st * (a1 : Int) + a.lo = x ∧ a1 < a0 ∧ a1 / w = a0 / w) := fun {w c x} hw => diff_two (b := false) hs hw
  have far : ∀ {a0 a1 : Nat} {x : Int}, a.st * (a0 : Int) + a.lo = x → a.st * (a1 : Int) + (a.lo + a.d * a.st) = x → (a0 : Int) = a1 + a.d := fun {a0 a1 x} e0 e1 => by rcases hs with z | z <;> rw [z] at e0 e1 <;> omega
  obtain ⟨dn, edn⟩ : ∃ dn : Nat, (dn : Int) = a.d := ⟨a.d.toNat, by omega⟩
  -- a difference at count d + 1, from width d + 1 on
  have bad : ∀ {w : Nat}, dn + 1 ≤ w → DiffC (LW.at ⟨a.first, a.W, false⟩ w (dn + 1)) (a.lo + a.d * a.st) := fun {w} hw => (df (by omega)).mpr ⟨dn, 0, by omega, by omega, by rw [edn, Int.mul_comm, Int.add_comm], by simp, by omega, by rw [Nat.div_eq_of_lt (by omega : dn < w), Nat.zero_div]⟩
  have few : ∀ {w c : Nat}, 1 ≤ w → c ≤ dn → NoD ⟨a.first, a.W, false⟩ w c := fun {w c} hw hc x hx => by
    obtain ⟨a0, a1, l0, l1, e0, e1, lt, _⟩ := (df hw).mp hx
    have := far e0 e1
    omega
  have low : ∀ {w : Nat}, 1 ≤ w → w ≤ dn → Good ⟨a.first, a.W, false⟩ w := fun {w} hw hwd c _ x hx => by
    obtain ⟨a0, a1, l0, l1, e0, e1, lt, q⟩ := (df hw).mp hx
    have e := far e0 e1
    have le : (a1 + w) / w ≤ a0 / w := Nat.div_le_div_right (by omega)
    rw [Nat.add_div_right _ (by omega)] at le
    omega
  have cnt : ∀ {w : Nat}, dn + 1 ≤ w → dn + 1 ≤ gcP ⟨a.first, a.W, false⟩ w := fun {w} hw => by
    show dn + 1 ≤ 2 * w + 2 * reachP a.first
    omega
  exact {
    k1 := ⟨o1, h.wb, mt1, r1', fun w c hw hw2 hc => by
      obtain ⟨b1, b2⟩ := bnd (g := ⟨a.first, a.W, false⟩) r1' hw2 hc
      exact pre_two h o1 h.wo h.wb hw b1 b2 fun x hx => ⟨cell_lo h hx, cell_hi h hx⟩⟩
    k2 := ⟨o2, h.wb, mt2, r2', fun w c hw hw2 hc => by
      obtain ⟨b1, b2⟩ := bnd (g := ⟨a.second, a.W, false⟩) r2' hw2 hc
      exact pre_two h o2 h.wo h.wb hw b1 b2 fun x hx => ⟨cell_hi h hx, cell_lo h hx⟩⟩
    k3 := ⟨o1, rfl, mt1, r1', fun w c hw hw2 hc => by
      obtain ⟨b1, b2⟩ := bnd (g := ⟨a.first, carW a.first, true⟩) r1' hw2 hc
      exact pre_car (a := a) o1 hw b1 b2 fun e he _ => by
        obtain ⟨x, hx, rfl | rfl⟩ := (plain_all (z := a.z) (m0 := a.n1) (m1 := a.n2) (st := a.st) (o0 := a.lo) (o1 := a.lo + a.d * a.st) c e).mp he
        · exact cell_lo h hx
        · exact cell_hi h hx⟩
    k4 := ⟨o4, rfl, mt4, r4', fun w c hw hw2 hc => by
      obtain ⟨b1, b2⟩ := bnd (g := ⟨a.added, carW a.added, true⟩) r4' hw2 hc
      exact pre_car (a := a) o4 hw b1 b2 fun e he st => by
        unfold plainP at he
        obtain ⟨x, hx, hm⟩ := List.mem_flatMap.mp he
        have hx := List.mem_range.mp hx
        have hm' : e ∈ [sv 0 x, sv 1 x, ⟨"load", 2, x, 0⟩, ⟨"add", 2, x, 0⟩] := hm
        simp only [List.mem_cons, List.not_mem_nil, or_false] at hm'
        rcases hm' with rfl | rfl | rfl | rfl
        · exact cell_lo h hx
        · exact cell_hi h hx
        · exact absurd st (by show ¬ ("load" : Str) = "store"; decide +kernel)
        · exact absurd st (by show ¬ ("add" : Str) = "store"; decide +kernel)⟩
    m1 := meets_first h
    m2 := meets_second h
    r1 := r1
    r4 := r4
    b1 := fun gd => gd (dn + 1) (cnt (by omega)) _ (bad (by omega))
    w1 := fun w hw nb all => by
      rcases Nat.lt_trichotomy w (dn + 1) with q | q | q
      · exact absurd (low hw (by omega)) nb
      · omega
      · exact absurd (bad (Nat.le_refl _)) (all (dn + 1) (by omega) q (dn + 1) (cnt (Nat.le_refl _)) _)
    c1 := fun w c x ew all hx => by
      have hw : w = dn + 1 := by omega
      subst hw
      have hc : dn < c := by
        rcases Nat.lt_or_ge dn c with q | q
        · exact q
        · exact absurd hx (few (by omega) q x)
      have hc2 : c ≤ dn + 1 := by
        rcases Nat.lt_or_ge (dn + 1) c with q | q
        · exact absurd (bad (Nat.le_refl _)) (all (dn + 1) q _)
        · exact q
      have e : c = dn + 1 := by omega
      subst e
      obtain ⟨a0, a1, l0, l1, e0, e1, lt, _⟩ := (df (by omega)).mp hx
      have := far e0 e1
      obtain rfl : a1 = 0 := by omega
      exact ⟨by omega, by rw [← e1]; simp⟩
    g2 := fun c _ x hx => by
      obtain ⟨a0, a1, l0, l1, e0, e1, lt, _⟩ := (ds (gw_pos _)).mp hx
      have := far e1 e0
      omega
    g3 := good_car o1.l1 (gw_pos _)
    g4 := good_car o4.l1 (gw_pos _) }
end Vw
end
section
set_option maxHeartbeats 2000000
/-! A hook that tells defs by paths of one's own, and facts by own tests. -/
namespace Vw
open PySem PySem.Spec PyProof.Rows L2 Evl
/-- a def: the path to it, its names, its text, its defaults -/
structure DX where
  ad : PySem.W.Frag → Addr
  nm : Str
  qual : Str
  st : Stmt
  dfl : List He.Dv
  kwd : List (Str × He.Dv)
def funAt (K : PySem.W.Frag) (a : Addr) : Option FuncData := match K.lookup a with
  | some ⟨_, _, .func fd, _⟩ => some fd
  | _ => none
theorem funAt_eq {K : PySem.W.Frag} {a : Addr} {fd : FuncData} (h : funAt K a = some fd) : ∃ oc od osl, K.lookup a = some ⟨oc, od, .func fd, osl⟩ := by
  unfold funAt at h
  split at h
  · rename_i hq
    injection h with h
    subst h
    exact ⟨_, _, _, hq⟩
  · cases h
def DX.seen (K : PySem.W.Frag) (d : DX) : He.FnW := (funAt K (d.ad K)).map fun fd => (fd.name, fd.qualname, fd.params, fd.body, fd.scope, fd.globals, fd.closure, fd.builtins)
def DX.val (d : DX) : He.FnW := some (d.nm, d.qual, defArgs d.st, .stmts (defBody d.st), defScope d.st, mainGlobals, [], builtinsNs)
def DX.dvs (K : PySem.W.Frag) (d : DX) : List V := d.dfl.map (He.Dv.v K)
def DX.kws (K : PySem.W.Frag) (d : DX) : List (Str × V) := d.kwd.map fun q => (q.1, q.2.v K)
def DX.ok (K : PySem.W.Frag) (d : DX) : Bool := match funAt K (d.ad K) with
  | some fd => PySem.W.keepIn K (.ref (d.ad K)) && (PySem.W.codeIn K fd.code d.qual && (He.dflB K fd.defaults (d.dvs K) && He.kwdB K fd.kwdefaults (d.kws K)))
  | none => false
theorem DX.funD {K : PySem.W.Frag} {d : DX} (e : d.seen K = d.val) (c : d.ok K = true) : ∃ fd, Fd K d.nm d.qual d.st (d.dvs K) (d.kws K) (d.ad K) fd := by
  unfold DX.seen at e
  unfold DX.ok at c
  cases q : funAt K (d.ad K) with
  | none => rw [q] at c; cases c
  | some fd =>
    rw [q] at e c
    obtain ⟨oc, od, osl, lk⟩ := funAt_eq q
    obtain ⟨c1, c⟩ := He.ba c
    obtain ⟨c2, c⟩ := He.ba c
    obtain ⟨c3, c4⟩ := He.ba c
    obtain ⟨y1, y2, y3, y4, y5, y6, y7, y8, y9, y10, y11, y12, y13, y14, y15⟩ := fd
    have e' : (some (y1, y2, y3, y4, y5, y6, y7, y15) : He.FnW) = d.val := e
    unfold DX.val at e'
    simp only [Option.some.injEq, Prod.mk.injEq] at e'
    obtain ⟨rfl, rfl, rfl, rfl, rfl, rfl, rfl, rfl⟩ := e'
    exact ⟨_, ⟨⟨oc, od, y8, y9, y10, y11, y12, y13, y14, osl, rfl, lk, c2, He.dflB_ok c3, He.kwdB_ok c4⟩, c1⟩⟩
/-! ### tests -/
def isiB (C : Str) (K : PySem.W.Frag) : Bool := He.eqO (PySem.W.findIn K (.ref (He.ga K C)) "__class__") (some (some (.builtin "object.__class__"))) && (He.eqO (PySem.W.specialIn K (.builtin "object.__class__") "__get__") (some (some (.builtin "getset_descriptor.__get__"))) &&
  (decide (PySem.W.takesIn K (.builtin "object.__class__") = some true) && (decide (PySem.W.mroIn K (He.ga K C) (.type "object") = some true) && decide (PySem.W.kitOne K (.ref (He.ga K C)) (.ref (He.ga K C)) = some true))))
theorem isiB_ok {C : Str} {K : PySem.W.Frag} (c : isiB C K = true) : IsiT K (He.ga K C) := by
  obtain ⟨c1, c⟩ := He.ba c
  obtain ⟨c2, c⟩ := He.ba c
  obtain ⟨c3, c⟩ := He.ba c
  obtain ⟨c4, c5⟩ := He.ba c
  exact ⟨He.eqO_ok c1, He.eqO_ok c2, of_decide_eq_true c3, of_decide_eq_true c4, of_decide_eq_true c5⟩
def nadB (C : Str) (K : PySem.W.Frag) : Bool := decide ((PySem.W.clsIn K (He.ga K C)).map (·.mro) = some [.ref (He.ga K C), .type "object"]) && (He.eqO (PySem.W.findIn K (.ref (He.ga K C)) "__add__") (some none) && (He.eqO (PySem.W.findIn K (.ref (He.ga K C)) "__radd__") (some none) && (He.eqO (PySem.W.findIn K (.type "object") "__add__") (some none) && He.eqO (PySem.W.findIn K (.type "object") "__radd__") (some none))))
theorem nadB_ok {C : Str} {K : PySem.W.Frag} (c : nadB C K = true) : NoAdd K (He.ga K C) := by
  obtain ⟨c1, c⟩ := He.ba c
  obtain ⟨c2, c⟩ := He.ba c
  obtain ⟨c3, c⟩ := He.ba c
  obtain ⟨c4, c5⟩ := He.ba c
  exact ⟨of_decide_eq_true c1, He.eqO_ok c2, He.eqO_ok c3, He.eqO_ok c4, He.eqO_ok c5⟩
theorem of_ne {a b : Addr} (h : (!decide (a = b)) = true) : a ≠ b := by simpa using h
/-- the first field of a record at p -/
def fst1 (K : PySem.W.Frag) (p : Addr) (T : String) : Addr := match PySem.W.recIn K p T with
  | some (.ref g :: _) => g
  | _ => 0
def fstB (K : PySem.W.Frag) (p : Addr) (T : String) : Bool := match PySem.W.recIn K p T with
  | some (.ref _ :: _) => true
  | _ => false
theorem fstB_ok {K : PySem.W.Frag} {p : Addr} {T : String} (h : fstB K p T = true) : ∃ rest, PySem.W.recIn K p T = some (.ref (fst1 K p T) :: rest) := by
  unfold fstB at h
  unfold fst1
  split at h
  · rename_i g r e
    rw [e]
    exact ⟨r, rfl⟩
  · cases h
def pgt (C f : Str) (K : PySem.W.Frag) : Addr := fst1 K (He.ma K (He.ga K C) f) "property"
def sgt (C f : Str) (K : PySem.W.Frag) : Addr := fst1 K (He.ma K (He.ga K C) f) "staticmethod"
def propB (C f : Str) (K : PySem.W.Frag) : Bool := He.eqO (PySem.W.findIn K (.ref (He.ga K C)) f) (some (some (.ref (He.ma K (He.ga K C) f)))) && (He.eqO (PySem.W.specialIn K (.ref (He.ma K (He.ga K C) f)) "__get__") (some (some (.builtin "property.__get__"))) &&
  (decide (PySem.W.takesIn K (.ref (He.ma K (He.ga K C) f)) = some true) && fstB K (He.ma K (He.ga K C) f) "property"))
theorem propB_ok {C f : Str} {K : PySem.W.Frag} (c : propB C f K = true) : PropOf K (He.ga K C) f (He.ma K (He.ga K C) f) (pgt C f K) := by
  obtain ⟨c1, c⟩ := He.ba c
  obtain ⟨c2, c⟩ := He.ba c
  obtain ⟨c3, c4⟩ := He.ba c
  exact ⟨He.eqO_ok c1, He.eqO_ok c2, of_decide_eq_true c3, fstB_ok c4⟩
def getB (r : Option PySem.W.CFound) (b : String) (p c : Addr) : Bool := match r with
  | some (.get (.builtin x) (.ref q) .none (.ref d)) => decide (x = b) && (decide (q = p) && decide (d = c))
  | _ => false
theorem getB_ok {r : Option PySem.W.CFound} {b : String} {p c : Addr} (h : getB r b p c = true) : r = some (.get (.builtin b) (.ref p) .none (.ref c)) := by
  unfold getB at h
  split at h
  · obtain ⟨h1, h⟩ := He.ba h
    obtain ⟨h2, h3⟩ := He.ba h
    rw [of_decide_eq_true h1, of_decide_eq_true h2, of_decide_eq_true h3]
  · cases h
def staB (C f : Str) (K : PySem.W.Frag) : Bool := PySem.W.readsIn K (He.ga K C) (.type "type") && (He.eqO (PySem.W.specialIn K (.ref (He.ga K C)) "__getattribute__") (some (some (.builtin "type.__getattribute__"))) &&
  (getB (PySem.W.findCls K (.ref (He.ga K C)) (.type "type") f) "staticmethod.__get__" (He.ma K (He.ga K C) f) (He.ga K C) && fstB K (He.ma K (He.ga K C) f) "staticmethod"))
theorem staB_ok {C f : Str} {K : PySem.W.Frag} (c : staB C f K = true) : SMet K (He.ga K C) f (sgt C f K) := by
  obtain ⟨c1, c⟩ := He.ba c
  obtain ⟨c2, c⟩ := He.ba c
  obtain ⟨c3, c4⟩ := He.ba c
  exact ⟨.type "type", _, ⟨c1, He.eqO_ok c2⟩, getB_ok c3, fstB_ok c4⟩
/-- the default of Way's bundles -/
def wbd (K : PySem.W.Frag) : Addr := match funAt K (He.ma K (He.ga K "Way") "__init__") with
  | some fd => (match fd.kwdefaults with
    | .ref D => (match PySem.W.nsIn K D "bundles" with
      | some (some (.ref a)) => a
      | _ => 0)
    | _ => 0)
  | none => 0
def bunB (K : PySem.W.Frag) : Bool := match K.lookup (wbd K) with
  | some ⟨.type c, _, .seq its _, _⟩ => decide (c = "tuple") && decide (its.toList = [])
  | _ => false
theorem bunB_ok {K : PySem.W.Frag} (h : bunB K = true) (H : Hp) : BunAt K H (.ref (wbd K)) [] := by
  unfold bunB at h
  split at h
  · rename_i c od its n osl e
    obtain ⟨h1, h2⟩ := He.ba h
    have z : its.toList = [] := of_decide_eq_true h2
    have s0 : its.size = 0 := by rw [← Array.length_toList, z]; rfl
    exact ⟨_, [], rfl, .inr ⟨_, its, n, e, congrArg Value.type (of_decide_eq_true h1), rfl, by rw [s0]; exact Nat.zero_le _, by rw [z]; exact .nil⟩, .nil⟩
  · cases h
theorem vals_take {vs : List V} {us : List Value} (n : Nat) (h : Vals vs us) : Vals (vs.take n) (us.take n) := by
  induction h generalizing n with
  | nil => simp; exact .nil
  | cons q t ih =>
    cases n with
    | zero => exact .nil
    | succ n => exact .cons q (ih n)
def wayKw (K : PySem.W.Frag) : List (Str × V) := [("tail", .str "mask"), ("ahead", .int 0), ("guard", .bl true), ("bundles", .ref (wbd K)), ("joining", .str "row")]
theorem wayKw_ne (K : PySem.W.Frag) : wayKw K ≠ [] := by
  unfold wayKw
  simp
theorem kw_sub1 (K : PySem.W.Frag) (q : Str × V) (h : q ∈ ([("tail", .str "mask"), ("ahead", .int 0), ("guard", .bl true), ("joining", .str "row")] : List (Str × V))) : q ∈ wayKw K := by
  unfold wayKw
  simp only [List.mem_cons, List.not_mem_nil, or_false] at h ⊢
  rcases h with h | h | h | h <;> simp [h]
theorem kw_sub2 (K : PySem.W.Frag) (q : Str × V) (h : q ∈ ([("tail", .str "mask"), ("bundles", .ref (wbd K)), ("joining", .str "row")] : List (Str × V))) : q ∈ wayKw K := by
  unfold wayKw
  simp only [List.mem_cons, List.not_mem_nil, or_false] at h ⊢
  rcases h with h | h | h <;> simp [h]
/-! ### the hook -/
def fro (g : Addr → Option Obj) (as : List Addr) : List Addr := as.flatMap fun a => match g a with
  | some o => He.refsD o
  | none => []
/-- the named objects and what they reach in four steps -/
def partK (g : Addr → Option Obj) (n : List Str) : PySem.W.Frag :=
  let f1 := n.map (He.ga (He.frG g [mainGlobals]))
  let f2 := fro g f1
  let f3 := fro g f2
  let f4 := fro g f3
  let f5 := fro g f4
  He.frG g (mainGlobals :: cStatics :: (f1 ++ (f2 ++ (f3 ++ (f4 ++ f5)))))
def obsV (fa : List He.Fa) (ex : List (PySem.W.Frag → Bool)) (ds : List DX) (K : PySem.W.Frag) : He.AlD := ((fa.all fun f => f.ok K) && ((ex.all fun f => f K) && ds.all fun d => d.ok K), ds.map fun d => d.seen K)
def valW (ds : List DX) : He.AlD := (true, ds.map DX.val)
def Says (fa : List He.Fa) (ex : List (PySem.W.Frag → Bool)) (ds : List DX) (K : PySem.W.Frag) : Prop := obsV fa ex ds K = valW ds
def hookV (n : List Str) (fa : List He.Fa) (ex : List (PySem.W.Frag → Bool)) (ds : List DX) : PySem.W.Hook where
  α := He.AlD
  obs := fun s => obsV fa ex ds (partK s.heap.get? n)
  val := fun _ => valW ds
  says := fun _ h => ∃ K : PySem.W.Frag, K.In h ∧ Says fa ex ds K
  of := fun _ _ e => ⟨_, He.frG_in, e⟩
  keeps := fun _ _ _ ⟨K, hK, c⟩ k => ⟨K, PySem.W.Frag.In.keeps hK k, c⟩
def obV (n : List Str) (fa : List He.Fa) (ex : List (PySem.W.Frag → Bool)) (ds : List DX) (g : Addr → Option Obj) : He.AlD := obsV fa ex ds (partK g n)
theorem obV_eq {n : List Str} {fa : List He.Fa} {ex : List (PySem.W.Frag → Bool)} {ds : List DX} {g : Addr → Option Obj} {s : Shared} (h : ∀ a, g a = s.heap.get? a) : obV n fa ex ds g = (hookV n fa ex ds).obs s := by
  have e : g = s.heap.get? := funext h
  rw [e]
  rfl
section
variable {fa : List He.Fa} {ex : List (PySem.W.Frag → Bool)} {ds : List DX} {K : PySem.W.Frag}
theorem Says.all (c : Says fa ex ds K) : ((fa.all fun f => f.ok K) && ((ex.all fun f => f K) && ds.all fun d => d.ok K)) = true := congrArg (fun z : He.AlD => z.1) c
theorem Says.fact (c : Says fa ex ds K) (i : Nat) {f : He.Fa} (h : fa[i]? = some f) : f.ok K = true := List.all_eq_true.mp (He.ba c.all).1 f (List.mem_of_getElem? h)
theorem Says.more (c : Says fa ex ds K) (i : Nat) {f : PySem.W.Frag → Bool} (h : ex[i]? = some f) : f K = true := List.all_eq_true.mp (He.ba (He.ba c.all).2).1 f (List.mem_of_getElem? h)
theorem Says.def_ (c : Says fa ex ds K) (i : Nat) {d : DX} (h : ds[i]? = some d) : ∃ fd, Fd K d.nm d.qual d.st (d.dvs K) (d.kws K) (d.ad K) fd := by
  have e : ds.map (fun d => d.seen K) = ds.map DX.val := congrArg (fun z : He.AlD => z.2) c
  have e2 : (ds.map fun d => d.seen K)[i]? = (ds.map DX.val)[i]? := by rw [e]
  rw [List.getElem?_map, List.getElem?_map, h] at e2
  exact DX.funD (Option.some.inj e2) (List.all_eq_true.mp (He.ba (He.ba c.all).2).2 d (List.mem_of_getElem? h))
end
end Vw
end
section
set_option maxHeartbeats 4000000
/-! What the top leaves, by names; the law's def keeps its promise (printed by gen_head.py). -/
namespace Vw
open PySem PySem.Spec PyProof.Rows L2 Evl
def seen0 : List Str := ["is_integer", "is_between", "is_name", "is_offset", "is_ref", "are_unlike", "loads_of", "end_of", "iteration_events", "plain_list", "cell_of", "flow"]
def seen1 : List Str := ["check_way", "block_number", "block_lanes", "groups", "wide_list", "numbered_refs", "meets", "reach", "found_differences", "greatest_count", "greatest_width", "least_count"]
def seen2 : List Str := ["least_wrong", "first_wrong", "is_safe", "greatest_safe", "are_lines", "are_statements", "is_bundle", "are_bundles", "is_value", "_law_begin", "_law_draw", "_law_pick"]
def seen3 : List Str := ["_law_mixed", "_law_stem", "_law_names", "law", "Line", "Statement", "Loop", "Weaver", "Way", "PARTS", "TAILS", "JOININGS"]
def seenNm : List Str := seen0 ++ seen1 ++ seen2 ++ seen3
def fa : List He.Fa := [.glo "is_integer", .glo "is_between", .glo "is_name", .glo "is_offset", .glo "is_ref", .glo "are_unlike", .glo "loads_of", .glo "end_of", .glo "iteration_events", .glo "plain_list", .glo "cell_of", .glo "flow", .glo "check_way", .glo "block_number", .glo "block_lanes", .glo "groups", .glo "wide_list", .glo "numbered_refs", .glo "meets", .glo "reach", .glo "found_differences", .glo "greatest_count", .glo "greatest_width", .glo "least_count", .glo "least_wrong", .glo "first_wrong", .glo "is_safe", .glo "greatest_safe", .glo "are_lines", .glo "are_statements", .glo "is_bundle", .glo "are_bundles", .glo "is_value", .glo "_law_begin", .glo "_law_draw", .glo "_law_pick", .glo "_law_mixed", .glo "_law_stem", .glo "_law_names", .glo "law", .glo "Line", .glo "Statement", .glo "Loop", .glo "Weaver", .glo "Way", .glo "PARTS", .glo "TAILS", .glo "JOININGS", .free "len", .free "isinstance", .free "int", .free "bool", .free "str", .free "tuple", .free "list", .free "all", .free "range", .free "enumerate", .free "zip", .free "sorted", .free "max", .free "abs", .str "LETTERS" "abcdefghijklmnopqrstuvwxyz", .int "MOST_LETTERS" 8, .int "MOST_STRIDE" 6, .int "MOST_OFFSET" 9, .int "MOST_SOURCES" 3, .int "MOST_LINES" 3, .int "MOST_STATEMENTS" 5, .int "MOST_AHEAD" 3, .int "MOST_BUNDLES" 5, .cls "Line", .cls "Statement", .cls "Loop", .cls "Weaver", .cls "Way", .noat "Line" "kept_name", .noat "Line" "kept_stride", .noat "Statement" "kept_name", .noat "Statement" "kept_target", .noat "Statement" "kept_sources", .noat "Loop" "kept_lines", .noat "Loop" "kept_statements", .noat "Loop" "strides", .noat "Weaver" "loop", .noat "Weaver" "kept_way", .noat "Weaver" "kept_width", .noat "Weaver" "count", .noat "Weaver" "many", .noat "Weaver" "groups", .noat "Way" "kept_parts", .meth "Line" "distance", .meth "Statement" "refs", .meth "Loop" "__len__", .meth "Loop" "__add__", .meth "Loop" "line", .meth "Loop" "place", .meth "Way" "goes_with", .meth "Weaver" "lanes", .meth "Weaver" "early", .meth "Weaver" "beginning", .meth "Weaver" "group", .meth "Weaver" "events", .mkr "Line", .mkr "Statement", .mkr "Loop", .mkr "Weaver", .mkr "Way"]
def ex : List (PySem.W.Frag → Bool) := [fun K => He.tupB K "PARTS" [.str "tail", .str "ahead", .str "guard", .str "bundles", .str "joining"], fun K => He.tupB K "TAILS" [.str "mask", .str "rest", .str "whole"], fun K => He.tupB K "JOININGS" [.str "row", .str "parts", .str "tree"], isiB "Line", isiB "Statement", propB "Line" "name", propB "Line" "stride", propB "Statement" "name", propB "Statement" "target", propB "Statement" "sources", propB "Loop" "statements", propB "Way" "tail", propB "Way" "ahead", propB "Way" "guard", propB "Way" "bundles", staB "Way" "careful", nadB "Statement", fun K => PySem.W.selfFirst K (He.ga K "Loop"), fun K => !decide (He.ga K "Loop" = He.ga K "Statement"), bunB]
def dx0 : DX := ⟨fun K => He.ga K "is_integer", "is_integer", "is_integer", s_is_integer, [], []⟩
def dx1 : DX := ⟨fun K => He.ga K "is_between", "is_between", "is_between", s_is_between, [], []⟩
def dx2 : DX := ⟨fun K => He.ga K "is_name", "is_name", "is_name", s_is_name, [], []⟩
def dx3 : DX := ⟨fun K => He.ga K "is_offset", "is_offset", "is_offset", s_is_offset, [], []⟩
def dx4 : DX := ⟨fun K => He.ga K "is_ref", "is_ref", "is_ref", s_is_ref, [], []⟩
def dx5 : DX := ⟨fun K => He.ga K "are_unlike", "are_unlike", "are_unlike", s_are_unlike, [], []⟩
def dx6 : DX := ⟨fun K => He.ga K "loads_of", "loads_of", "loads_of", s_loads_of, [], []⟩
def dx7 : DX := ⟨fun K => He.ga K "end_of", "end_of", "end_of", s_end_of, [], []⟩
def dx8 : DX := ⟨fun K => He.ga K "iteration_events", "iteration_events", "iteration_events", s_iteration_events, [], []⟩
def dx9 : DX := ⟨fun K => He.ga K "plain_list", "plain_list", "plain_list", s_plain_list, [], []⟩
def dx10 : DX := ⟨fun K => He.ga K "cell_of", "cell_of", "cell_of", s_cell_of, [], []⟩
def dx11 : DX := ⟨fun K => He.ga K "flow", "flow", "flow", s_flow, [], []⟩
def dx12 : DX := ⟨fun K => He.ga K "check_way", "check_way", "check_way", s_check_way, [], []⟩
def dx13 : DX := ⟨fun K => He.ga K "block_number", "block_number", "block_number", s_block_number, [], []⟩
def dx14 : DX := ⟨fun K => He.ga K "block_lanes", "block_lanes", "block_lanes", s_block_lanes, [], []⟩
def dx15 : DX := ⟨fun K => He.ga K "groups", "groups", "groups", s_groups, [], []⟩
def dx16 : DX := ⟨fun K => He.ga K "wide_list", "wide_list", "wide_list", s_wide_list, [], []⟩
def dx17 : DX := ⟨fun K => He.ga K "numbered_refs", "numbered_refs", "numbered_refs", s_numbered_refs, [], []⟩
def dx18 : DX := ⟨fun K => He.ga K "meets", "meets", "meets", s_meets, [], []⟩
def dx19 : DX := ⟨fun K => He.ga K "reach", "reach", "reach", s_reach, [], []⟩
def dx20 : DX := ⟨fun K => He.ga K "found_differences", "found_differences", "found_differences", s_found_differences, [], []⟩
def dx21 : DX := ⟨fun K => He.ga K "greatest_count", "greatest_count", "greatest_count", s_greatest_count, [], []⟩
def dx22 : DX := ⟨fun K => He.ga K "greatest_width", "greatest_width", "greatest_width", s_greatest_width, [], []⟩
def dx23 : DX := ⟨fun K => He.ga K "least_count", "least_count", "least_count", s_least_count, [], []⟩
def dx24 : DX := ⟨fun K => He.ga K "least_wrong", "least_wrong", "least_wrong", s_least_wrong, [], []⟩
def dx25 : DX := ⟨fun K => He.ga K "first_wrong", "first_wrong", "first_wrong", s_first_wrong, [], []⟩
def dx26 : DX := ⟨fun K => He.ga K "is_safe", "is_safe", "is_safe", s_is_safe, [], []⟩
def dx27 : DX := ⟨fun K => He.ga K "greatest_safe", "greatest_safe", "greatest_safe", s_greatest_safe, [], []⟩
def dx28 : DX := ⟨fun K => He.ga K "are_lines", "are_lines", "are_lines", s_are_lines, [], []⟩
def dx29 : DX := ⟨fun K => He.ga K "are_statements", "are_statements", "are_statements", s_are_statements, [], []⟩
def dx30 : DX := ⟨fun K => He.ga K "is_bundle", "is_bundle", "is_bundle", s_is_bundle, [], []⟩
def dx31 : DX := ⟨fun K => He.ga K "are_bundles", "are_bundles", "are_bundles", s_are_bundles, [], []⟩
def dx32 : DX := ⟨fun K => He.ga K "is_value", "is_value", "is_value", s_is_value, [], []⟩
def dx33 : DX := ⟨fun K => He.ga K "_law_begin", "_law_begin", "_law_begin", s_law_begin, [], []⟩
def dx34 : DX := ⟨fun K => He.ga K "_law_draw", "_law_draw", "_law_draw", s_law_draw, [], []⟩
def dx35 : DX := ⟨fun K => He.ga K "_law_pick", "_law_pick", "_law_pick", s_law_pick, [], []⟩
def dx36 : DX := ⟨fun K => He.ga K "_law_mixed", "_law_mixed", "_law_mixed", s_law_mixed, [], []⟩
def dx37 : DX := ⟨fun K => He.ga K "_law_stem", "_law_stem", "_law_stem", s_law_stem, [], []⟩
def dx38 : DX := ⟨fun K => He.ga K "_law_names", "_law_names", "_law_names", s_law_names, [], []⟩
def dx39 : DX := ⟨fun K => He.ga K "law", "law", "law", s_law, [], []⟩
def dx40 : DX := ⟨fun K => He.ma K (He.ga K "Line") "__init__", "__init__", "Line.__init__", s_Line_init, [.int 1], []⟩
def dx41 : DX := ⟨fun K => He.ma K (He.ga K "Statement") "__init__", "__init__", "Statement.__init__", s_Statement_init, [.non], []⟩
def dx42 : DX := ⟨fun K => He.ma K (He.ga K "Loop") "__init__", "__init__", "Loop.__init__", s_Loop_init, [], []⟩
def dx43 : DX := ⟨fun K => He.ma K (He.ga K "Weaver") "__init__", "__init__", "Weaver.__init__", s_Weaver_init, [], []⟩
def dx44 : DX := ⟨fun K => He.ma K (He.ga K "Way") "__init__", "__init__", "Way.__init__", s_Way_init, [], [("tail", .str "mask"), ("ahead", .int 0), ("guard", .bl true), ("bundles", .adr wbd), ("joining", .str "row")]⟩
def dx45 : DX := ⟨fun K => He.ma K (He.ga K "Line") "distance", "distance", "Line.distance", s_Line_distance, [], []⟩
def dx46 : DX := ⟨fun K => He.ma K (He.ga K "Statement") "refs", "refs", "Statement.refs", s_Statement_refs, [], []⟩
def dx47 : DX := ⟨fun K => He.ma K (He.ga K "Loop") "__len__", "__len__", "Loop.__len__", s_Loop_len, [], []⟩
def dx48 : DX := ⟨fun K => He.ma K (He.ga K "Loop") "__add__", "__add__", "Loop.__add__", s_Loop_add, [], []⟩
def dx49 : DX := ⟨fun K => He.ma K (He.ga K "Loop") "line", "line", "Loop.line", s_Loop_line, [], []⟩
def dx50 : DX := ⟨fun K => He.ma K (He.ga K "Loop") "place", "place", "Loop.place", s_Loop_place, [], []⟩
def dx51 : DX := ⟨fun K => He.ma K (He.ga K "Way") "goes_with", "goes_with", "Way.goes_with", s_Way_goes_with, [], []⟩
def dx52 : DX := ⟨fun K => He.ma K (He.ga K "Weaver") "lanes", "lanes", "Weaver.lanes", s_Weaver_lanes, [], []⟩
def dx53 : DX := ⟨fun K => He.ma K (He.ga K "Weaver") "early", "early", "Weaver.early", s_Weaver_early, [], []⟩
def dx54 : DX := ⟨fun K => He.ma K (He.ga K "Weaver") "beginning", "beginning", "Weaver.beginning", s_Weaver_beginning, [], []⟩
def dx55 : DX := ⟨fun K => He.ma K (He.ga K "Weaver") "group", "group", "Weaver.group", s_Weaver_group, [], []⟩
def dx56 : DX := ⟨fun K => He.ma K (He.ga K "Weaver") "events", "events", "Weaver.events", s_Weaver_events, [], []⟩
def dx57 : DX := ⟨pgt "Line" "name", "name", "Line.name", s_Line_name, [], []⟩
def dx58 : DX := ⟨pgt "Line" "stride", "stride", "Line.stride", s_Line_stride, [], []⟩
def dx59 : DX := ⟨pgt "Statement" "name", "name", "Statement.name", s_Statement_name, [], []⟩
def dx60 : DX := ⟨pgt "Statement" "target", "target", "Statement.target", s_Statement_target, [], []⟩
def dx61 : DX := ⟨pgt "Statement" "sources", "sources", "Statement.sources", s_Statement_sources, [], []⟩
def dx62 : DX := ⟨pgt "Loop" "statements", "statements", "Loop.statements", s_Loop_statements, [], []⟩
def dx63 : DX := ⟨pgt "Way" "tail", "tail", "Way.tail", s_Way_tail, [], []⟩
def dx64 : DX := ⟨pgt "Way" "ahead", "ahead", "Way.ahead", s_Way_ahead, [], []⟩
def dx65 : DX := ⟨pgt "Way" "guard", "guard", "Way.guard", s_Way_guard, [], []⟩
def dx66 : DX := ⟨pgt "Way" "bundles", "bundles", "Way.bundles", s_Way_bundles, [], []⟩
def dx67 : DX := ⟨sgt "Way" "careful", "careful", "Way.careful", s_Way_careful, [], []⟩
def ds : List DX := [dx0, dx1, dx2, dx3, dx4, dx5, dx6, dx7, dx8, dx9, dx10, dx11, dx12, dx13, dx14, dx15, dx16, dx17, dx18, dx19, dx20, dx21, dx22, dx23, dx24, dx25, dx26, dx27, dx28, dx29, dx30, dx31, dx32, dx33, dx34, dx35, dx36, dx37, dx38, dx39, dx40, dx41, dx42, dx43, dx44, dx45, dx46, dx47, dx48, dx49, dx50, dx51, dx52, dx53, dx54, dx55, dx56, dx57, dx58, dx59, dx60, dx61, dx62, dx63, dx64, dx65, dx66, dx67]
theorem txt_of {K : PySem.W.Frag} {h : Heap} {mg : Str → Option Value} (X : K.In h) (G : h.Ns mainGlobals mg) (c : Says fa ex ds K) : Txt K mg (He.ga K "Line") (He.ga K "Statement") (He.ga K "Loop") (He.ga K "Weaver") (He.ga K "Way") where
  len := He.free_ok X G (x := "len") (c.fact 48 rfl)
  isi := He.free_ok X G (x := "isinstance") (c.fact 49 rfl)
  int := He.free_ok X G (x := "int") (c.fact 50 rfl)
  bool := He.free_ok X G (x := "bool") (c.fact 51 rfl)
  str := He.free_ok X G (x := "str") (c.fact 52 rfl)
  tuple := He.free_ok X G (x := "tuple") (c.fact 53 rfl)
  list := He.free_ok X G (x := "list") (c.fact 54 rfl)
  all := He.free_ok X G (x := "all") (c.fact 55 rfl)
  range := He.free_ok X G (x := "range") (c.fact 56 rfl)
  enumerate := He.free_ok X G (x := "enumerate") (c.fact 57 rfl)
  zip := He.free_ok X G (x := "zip") (c.fact 58 rfl)
  sorted := He.free_ok X G (x := "sorted") (c.fact 59 rfl)
  max := He.free_ok X G (x := "max") (c.fact 60 rfl)
  abs := He.free_ok X G (x := "abs") (c.fact 61 rfl)
  lett := He.str_ok X G (x := "LETTERS") (c.fact 62 rfl)
  mLet := He.int_ok X G (x := "MOST_LETTERS") (c.fact 63 rfl)
  mStr := He.int_ok X G (x := "MOST_STRIDE") (c.fact 64 rfl)
  mOff := He.int_ok X G (x := "MOST_OFFSET") (c.fact 65 rfl)
  mSou := He.int_ok X G (x := "MOST_SOURCES") (c.fact 66 rfl)
  mLin := He.int_ok X G (x := "MOST_LINES") (c.fact 67 rfl)
  mSta := He.int_ok X G (x := "MOST_STATEMENTS") (c.fact 68 rfl)
  mAhe := He.int_ok X G (x := "MOST_AHEAD") (c.fact 69 rfl)
  mBun := He.int_ok X G (x := "MOST_BUNDLES") (c.fact 70 rfl)
  parts := ⟨_, He.glo_ok X G (x := "PARTS") (c.fact 45 rfl), fun H => He.tupB_ok (x := "PARTS") (vs := [.str "tail", .str "ahead", .str "guard", .str "bundles", .str "joining"]) (c.more 0 rfl) H⟩
  tails := ⟨_, He.glo_ok X G (x := "TAILS") (c.fact 46 rfl), fun H => He.tupB_ok (x := "TAILS") (vs := [.str "mask", .str "rest", .str "whole"]) (c.more 1 rfl) H⟩
  joins := ⟨_, He.glo_ok X G (x := "JOININGS") (c.fact 47 rfl), fun H => He.tupB_ok (x := "JOININGS") (vs := [.str "row", .str "parts", .str "tree"]) (c.more 2 rfl) H⟩
  gL := He.glo_ok X G (x := "Line") (c.fact 40 rfl)
  gS := He.glo_ok X G (x := "Statement") (c.fact 41 rfl)
  gO := He.glo_ok X G (x := "Loop") (c.fact 42 rfl)
  gV := He.glo_ok X G (x := "Weaver") (c.fact 43 rfl)
  gW := He.glo_ok X G (x := "Way") (c.fact 44 rfl)
  cL := He.cls_ok (x := "Line") (c.fact 71 rfl)
  cS := He.cls_ok (x := "Statement") (c.fact 72 rfl)
  cO := He.cls_ok (x := "Loop") (c.fact 73 rfl)
  cV := He.cls_ok (x := "Weaver") (c.fact 74 rfl)
  cW := He.cls_ok (x := "Way") (c.fact 75 rfl)
  iL := isiB_ok (c.more 3 rfl)
  iS := isiB_ok (c.more 4 rfl)
  nLn := He.noat_ok (x := "Line") (f := "kept_name") (c.fact 76 rfl)
  nLs := He.noat_ok (x := "Line") (f := "kept_stride") (c.fact 77 rfl)
  nSn := He.noat_ok (x := "Statement") (f := "kept_name") (c.fact 78 rfl)
  nSt := He.noat_ok (x := "Statement") (f := "kept_target") (c.fact 79 rfl)
  nSs := He.noat_ok (x := "Statement") (f := "kept_sources") (c.fact 80 rfl)
  nOl := He.noat_ok (x := "Loop") (f := "kept_lines") (c.fact 81 rfl)
  nOs := He.noat_ok (x := "Loop") (f := "kept_statements") (c.fact 82 rfl)
  nOr := He.noat_ok (x := "Loop") (f := "strides") (c.fact 83 rfl)
  nVl := He.noat_ok (x := "Weaver") (f := "loop") (c.fact 84 rfl)
  nVw := He.noat_ok (x := "Weaver") (f := "kept_way") (c.fact 85 rfl)
  nVk := He.noat_ok (x := "Weaver") (f := "kept_width") (c.fact 86 rfl)
  nVc := He.noat_ok (x := "Weaver") (f := "count") (c.fact 87 rfl)
  nVm := He.noat_ok (x := "Weaver") (f := "many") (c.fact 88 rfl)
  nVg := He.noat_ok (x := "Weaver") (f := "groups") (c.fact 89 rfl)
  nWp := He.noat_ok (x := "Way") (f := "kept_parts") (c.fact 90 rfl)
theorem law_fn {P : Program} {w : World} {K : PySem.W.Frag} {h : Heap} {mg : Str → Option Value} {f : Addr} (X : K.In h) (G : h.Ns mainGlobals mg) (hfa : mg ("law" : Str) = some (.ref f)) (c : Says fa ex ds K) :
    ∃ fd : FuncData, (∀ (s : Shared) (v : Value), BindsTo s fd ⟨[v], []⟩ [("script", v)]) ∧ ∀ base : Heap, FnOk P w K mg base CX0 13 f fd ["script"] (spLaw K) := by
  have T := txt_of X G c
  obtain ⟨f0, F0⟩ := c.def_ 0 (d := dx0) rfl
  obtain ⟨f1, F1⟩ := c.def_ 1 (d := dx1) rfl
  obtain ⟨f2, F2⟩ := c.def_ 2 (d := dx2) rfl
  obtain ⟨f3, F3⟩ := c.def_ 3 (d := dx3) rfl
  obtain ⟨f4, F4⟩ := c.def_ 4 (d := dx4) rfl
  obtain ⟨f5, F5⟩ := c.def_ 5 (d := dx5) rfl
  obtain ⟨f6, F6⟩ := c.def_ 6 (d := dx6) rfl
  obtain ⟨f7, F7⟩ := c.def_ 7 (d := dx7) rfl
  obtain ⟨f8, F8⟩ := c.def_ 8 (d := dx8) rfl
  obtain ⟨f9, F9⟩ := c.def_ 9 (d := dx9) rfl
  obtain ⟨f10, F10⟩ := c.def_ 10 (d := dx10) rfl
  obtain ⟨f11, F11⟩ := c.def_ 11 (d := dx11) rfl
  obtain ⟨f12, F12⟩ := c.def_ 12 (d := dx12) rfl
  obtain ⟨f13, F13⟩ := c.def_ 13 (d := dx13) rfl
  obtain ⟨f14, F14⟩ := c.def_ 14 (d := dx14) rfl
  obtain ⟨f15, F15⟩ := c.def_ 15 (d := dx15) rfl
  obtain ⟨f16, F16⟩ := c.def_ 16 (d := dx16) rfl
  obtain ⟨f17, F17⟩ := c.def_ 17 (d := dx17) rfl
  obtain ⟨f18, F18⟩ := c.def_ 18 (d := dx18) rfl
  obtain ⟨f19, F19⟩ := c.def_ 19 (d := dx19) rfl
  obtain ⟨f20, F20⟩ := c.def_ 20 (d := dx20) rfl
  obtain ⟨f21, F21⟩ := c.def_ 21 (d := dx21) rfl
  obtain ⟨f22, F22⟩ := c.def_ 22 (d := dx22) rfl
  obtain ⟨f23, F23⟩ := c.def_ 23 (d := dx23) rfl
  obtain ⟨f24, F24⟩ := c.def_ 24 (d := dx24) rfl
  obtain ⟨f25, F25⟩ := c.def_ 25 (d := dx25) rfl
  obtain ⟨f26, F26⟩ := c.def_ 26 (d := dx26) rfl
  obtain ⟨f27, F27⟩ := c.def_ 27 (d := dx27) rfl
  obtain ⟨f28, F28⟩ := c.def_ 28 (d := dx28) rfl
  obtain ⟨f29, F29⟩ := c.def_ 29 (d := dx29) rfl
  obtain ⟨f30, F30⟩ := c.def_ 30 (d := dx30) rfl
  obtain ⟨f31, F31⟩ := c.def_ 31 (d := dx31) rfl
  obtain ⟨f32, F32⟩ := c.def_ 32 (d := dx32) rfl
  obtain ⟨f33, F33⟩ := c.def_ 33 (d := dx33) rfl
  obtain ⟨f34, F34⟩ := c.def_ 34 (d := dx34) rfl
  obtain ⟨f35, F35⟩ := c.def_ 35 (d := dx35) rfl
  obtain ⟨f36, F36⟩ := c.def_ 36 (d := dx36) rfl
  obtain ⟨f37, F37⟩ := c.def_ 37 (d := dx37) rfl
  obtain ⟨f38, F38⟩ := c.def_ 38 (d := dx38) rfl
  obtain ⟨f39, F39⟩ := c.def_ 39 (d := dx39) rfl
  obtain ⟨f40, F40⟩ := c.def_ 40 (d := dx40) rfl
  obtain ⟨f41, F41⟩ := c.def_ 41 (d := dx41) rfl
  obtain ⟨f42, F42⟩ := c.def_ 42 (d := dx42) rfl
  obtain ⟨f43, F43⟩ := c.def_ 43 (d := dx43) rfl
  obtain ⟨f44, F44⟩ := c.def_ 44 (d := dx44) rfl
  obtain ⟨f45, F45⟩ := c.def_ 45 (d := dx45) rfl
  obtain ⟨f46, F46⟩ := c.def_ 46 (d := dx46) rfl
  obtain ⟨f47, F47⟩ := c.def_ 47 (d := dx47) rfl
  obtain ⟨f48, F48⟩ := c.def_ 48 (d := dx48) rfl
  obtain ⟨f49, F49⟩ := c.def_ 49 (d := dx49) rfl
  obtain ⟨f50, F50⟩ := c.def_ 50 (d := dx50) rfl
  obtain ⟨f51, F51⟩ := c.def_ 51 (d := dx51) rfl
  obtain ⟨f52, F52⟩ := c.def_ 52 (d := dx52) rfl
  obtain ⟨f53, F53⟩ := c.def_ 53 (d := dx53) rfl
  obtain ⟨f54, F54⟩ := c.def_ 54 (d := dx54) rfl
  obtain ⟨f55, F55⟩ := c.def_ 55 (d := dx55) rfl
  obtain ⟨f56, F56⟩ := c.def_ 56 (d := dx56) rfl
  obtain ⟨f57, F57⟩ := c.def_ 57 (d := dx57) rfl
  obtain ⟨f58, F58⟩ := c.def_ 58 (d := dx58) rfl
  obtain ⟨f59, F59⟩ := c.def_ 59 (d := dx59) rfl
  obtain ⟨f60, F60⟩ := c.def_ 60 (d := dx60) rfl
  obtain ⟨f61, F61⟩ := c.def_ 61 (d := dx61) rfl
  obtain ⟨f62, F62⟩ := c.def_ 62 (d := dx62) rfl
  obtain ⟨f63, F63⟩ := c.def_ 63 (d := dx63) rfl
  obtain ⟨f64, F64⟩ := c.def_ 64 (d := dx64) rfl
  obtain ⟨f65, F65⟩ := c.def_ 65 (d := dx65) rfl
  obtain ⟨f66, F66⟩ := c.def_ 66 (d := dx66) rfl
  obtain ⟨f67, F67⟩ := c.def_ 67 (d := dx67) rfl
  have e := hfa.symm.trans (He.glo_ok X G (x := "law") (c.fact 39 rfl))
  cases e
  refine ⟨f39, fun s v => FunD.bindsA (ps := ["script"]) F39 (fun _ _ _ _ _ _ us hl => match us, hl with | [_], _ => rfl) s [v] rfl, fun base => ?_⟩
  have h_is_integer := has_of (P := P) (w := w) (base := base) F0 (He.glo_ok X G (x := "is_integer") (c.fact 0 rfl)) (ok_is_integer F0 T) (fun _ _ _ _ _ _ us hl => match us, hl with | [_], _ => rfl)
  have h_is_between := has_of (P := P) (w := w) (base := base) F1 (He.glo_ok X G (x := "is_between") (c.fact 1 rfl)) (ok_is_between F1 T h_is_integer) (fun _ _ _ _ _ _ us hl => match us, hl with | [_, _, _], _ => rfl)
  have h_is_name := has_of (P := P) (w := w) (base := base) F2 (He.glo_ok X G (x := "is_name") (c.fact 2 rfl)) (ok_is_name F2 T) (fun _ _ _ _ _ _ us hl => match us, hl with | [_], _ => rfl)
  have h_is_offset := has_of (P := P) (w := w) (base := base) F3 (He.glo_ok X G (x := "is_offset") (c.fact 3 rfl)) (ok_is_offset F3 T h_is_between) (fun _ _ _ _ _ _ us hl => match us, hl with | [_], _ => rfl)
  have h_is_ref := has_of (P := P) (w := w) (base := base) F4 (He.glo_ok X G (x := "is_ref") (c.fact 4 rfl)) (ok_is_ref F4 T h_is_name h_is_offset) (fun _ _ _ _ _ _ us hl => match us, hl with | [_], _ => rfl)
  have h_are_unlike := has_of (P := P) (w := w) (base := base) F5 (He.glo_ok X G (x := "are_unlike") (c.fact 5 rfl)) (ok_are_unlike F5 T) (fun _ _ _ _ _ _ us hl => match us, hl with | [_], _ => rfl)
  have g_Line_name : HasG P w K mg base (He.ga K "Line") "name" 1 (spGetV (He.ga K "Line") "kept_name") := ⟨_, _, _, ok_Line_name F57 T, propB_ok (c.more 5 rfl), FunD.bindsN F57 (fun _ _ _ _ _ _ us hl => match us, hl with | [_], _ => rfl)⟩
  have g_Line_stride : HasG P w K mg base (He.ga K "Line") "stride" 1 (spGetV (He.ga K "Line") "kept_stride") := ⟨_, _, _, ok_Line_stride F58 T, propB_ok (c.more 6 rfl), FunD.bindsN F58 (fun _ _ _ _ _ _ us hl => match us, hl with | [_], _ => rfl)⟩
  have g_Statement_name : HasG P w K mg base (He.ga K "Statement") "name" 1 (spGetV (He.ga K "Statement") "kept_name") := ⟨_, _, _, ok_Stm_name F59 T, propB_ok (c.more 7 rfl), FunD.bindsN F59 (fun _ _ _ _ _ _ us hl => match us, hl with | [_], _ => rfl)⟩
  have g_Statement_target : HasG P w K mg base (He.ga K "Statement") "target" 1 (spGetV (He.ga K "Statement") "kept_target") := ⟨_, _, _, ok_Stm_target F60 T, propB_ok (c.more 8 rfl), FunD.bindsN F60 (fun _ _ _ _ _ _ us hl => match us, hl with | [_], _ => rfl)⟩
  have g_Statement_sources : HasG P w K mg base (He.ga K "Statement") "sources" 1 (spGetV (He.ga K "Statement") "kept_sources") := ⟨_, _, _, ok_Stm_sources F61 T, propB_ok (c.more 9 rfl), FunD.bindsN F61 (fun _ _ _ _ _ _ us hl => match us, hl with | [_], _ => rfl)⟩
  have g_Loop_statements : HasG P w K mg base (He.ga K "Loop") "statements" 1 (spGetV (He.ga K "Loop") "kept_statements") := ⟨_, _, _, ok_Loop_statements F62 T, propB_ok (c.more 10 rfl), FunD.bindsN F62 (fun _ _ _ _ _ _ us hl => match us, hl with | [_], _ => rfl)⟩
  have g_Way_tail : HasG P w K mg base (He.ga K "Way") "tail" 1 (spWayGet K (He.ga K "Way") fun _ v _ => v = .str "mask") := ⟨_, _, _, ok_Way_tail F63 T, propB_ok (c.more 11 rfl), FunD.bindsN F63 (fun _ _ _ _ _ _ us hl => match us, hl with | [_], _ => rfl)⟩
  have g_Way_ahead : HasG P w K mg base (He.ga K "Way") "ahead" 1 (spWayGet K (He.ga K "Way") fun W v _ => v = .int W.ahead) := ⟨_, _, _, ok_Way_ahead F64 T, propB_ok (c.more 12 rfl), FunD.bindsN F64 (fun _ _ _ _ _ _ us hl => match us, hl with | [_], _ => rfl)⟩
  have g_Way_guard : HasG P w K mg base (He.ga K "Way") "guard" 1 (spWayGet K (He.ga K "Way") fun W v _ => v = .bl W.guard) := ⟨_, _, _, ok_Way_guard F65 T, propB_ok (c.more 13 rfl), FunD.bindsN F65 (fun _ _ _ _ _ _ us hl => match us, hl with | [_], _ => rfl)⟩
  have g_Way_bundles : HasG P w K mg base (He.ga K "Way") "bundles" 1 (spWayGet K (He.ga K "Way") fun W v H' => BunAt K H' v W.bun) := ⟨_, _, _, ok_Way_bundles F66 T, propB_ok (c.more 14 rfl), FunD.bindsN F66 (fun _ _ _ _ _ _ us hl => match us, hl with | [_], _ => rfl)⟩
  have m_Line_distance : HasM P w K mg base (He.ga K "Line") "distance" 4 ["self", "first", "second"] (spDistance (He.ga K "Line")) := ⟨_, _, ok_Line_distance F45 T h_is_offset, He.meth_ok (x := "Line") (m := "distance") (c.fact 91 rfl), FunD.bindsN F45 (fun _ _ _ _ _ _ us hl => match us, hl with | [_, _, _], _ => rfl)⟩
  have m_Statement_refs : HasM P w K mg base (He.ga K "Statement") "refs" 1 ["self"] (spRefs (He.ga K "Statement")) := ⟨_, _, ok_Stm_refs F46 T, He.meth_ok (x := "Statement") (m := "refs") (c.fact 92 rfl), FunD.bindsN F46 (fun _ _ _ _ _ _ us hl => match us, hl with | [_], _ => rfl)⟩
  have m_Loop_len : HasM P w K mg base (He.ga K "Loop") "__len__" 1 ["self"] (spLoopLen (He.ga K "Line") (He.ga K "Statement") (He.ga K "Loop")) := ⟨_, _, ok_Loop_len F47 T, He.meth_ok (x := "Loop") (m := "__len__") (c.fact 93 rfl), FunD.bindsN F47 (fun _ _ _ _ _ _ us hl => match us, hl with | [_], _ => rfl)⟩
  have m_Loop_line : HasM P w K mg base (He.ga K "Loop") "line" 3 ["self", "name"] (spLoopLine (He.ga K "Line") (He.ga K "Statement") (He.ga K "Loop")) := ⟨_, _, ok_Loop_line F49 T g_Line_name, He.meth_ok (x := "Loop") (m := "line") (c.fact 95 rfl), FunD.bindsN F49 (fun _ _ _ _ _ _ us hl => match us, hl with | [_, _], _ => rfl)⟩
  have m_Loop_place : HasM P w K mg base (He.ga K "Loop") "place" 1 ["self", "ref", "at"] (spPlace (He.ga K "Line") (He.ga K "Statement") (He.ga K "Loop")) := ⟨_, _, ok_Loop_place F50 T, He.meth_ok (x := "Loop") (m := "place") (c.fact 96 rfl), FunD.bindsN F50 (fun _ _ _ _ _ _ us hl => match us, hl with | [_, _, _], _ => rfl)⟩
  have i_Line : HasI P w K mg base (He.ga K "Line") 3 ["self", "name", "stride"] (spLineInit (He.ga K "Line")) := by
    obtain ⟨dv, r, b⟩ := FunD.binds1 (ps := ["self", "name", "stride"]) F40 3 1 (by show [V.int 1] ≠ []; simp) rfl fun Tt kV doc pm an cdv ct us its hl hi => match us, its, hl, hi with | [_, _, _], [_], _, _ => ⟨_, rfl, rfl⟩
    have e0 : dv = [] := by
      have r' : Vals ([] : List V) dv := r
      cases r'
      rfl
    subst e0
    exact ⟨_, _, ok_Line_init F40 T h_is_name h_is_between, He.mkr_ok (x := "Line") (c.fact 103 rfl), b⟩
  have i_Stm : HasIR P w K mg base (He.ga K "Statement") 5 (StSp 3 (spStmInit (He.ga K "Statement"))) := ⟨_, ok_Stm_init F41 T h_is_name h_is_ref, He.mkr_ok (x := "Statement") (c.fact 104 rfl)⟩
  have h_are_lines := has_of (P := P) (w := w) (base := base) F28 (He.glo_ok X G (x := "are_lines") (c.fact 28 rfl)) (ok_are_lines F28 T h_are_unlike g_Line_name) (fun _ _ _ _ _ _ us hl => match us, hl with | [_], _ => rfl)
  have h_are_statements := has_of (P := P) (w := w) (base := base) F29 (He.glo_ok X G (x := "are_statements") (c.fact 29 rfl)) (ok_are_statements F29 T h_are_unlike g_Statement_name) (fun _ _ _ _ _ _ us hl => match us, hl with | [_], _ => rfl)
  have i_Loop : HasIR P w K mg base (He.ga K "Loop") 4 (StSp 2 (InSp (He.ga K "Loop") (preLoop (He.ga K "Line") (He.ga K "Statement")) (postLoop (He.ga K "Line") (He.ga K "Statement")))) := ⟨_, ok_Loop_init F42 T h_are_lines h_are_statements g_Line_name g_Line_stride m_Statement_refs, He.mkr_ok (x := "Loop") (c.fact 105 rfl)⟩
  have m_Loop_add : HasM P w K mg base (He.ga K "Loop") "__add__" 6 ["self", "statement"] (spLoopAdd (He.ga K "Line") (He.ga K "Statement") (He.ga K "Loop")) := ⟨_, _, ok_Loop_add F48 T i_Loop, He.meth_ok (x := "Loop") (m := "__add__") (c.fact 94 rfl), FunD.bindsN F48 (fun _ _ _ _ _ _ us hl => match us, hl with | [_, _], _ => rfl)⟩
  have h_is_bundle := has_of (P := P) (w := w) (base := base) F30 (He.glo_ok X G (x := "is_bundle") (c.fact 30 rfl)) (ok_is_bundle F30 T h_is_between) (fun _ _ _ _ _ _ us hl => match us, hl with | [_], _ => rfl)
  have h_are_bundles := has_of (P := P) (w := w) (base := base) F31 (He.glo_ok X G (x := "are_bundles") (c.fact 31 rfl)) (ok_are_bundles F31 T h_is_bundle) (fun _ _ _ _ _ _ us hl => match us, hl with | [_], _ => rfl)
  have h_is_value := has_of (P := P) (w := w) (base := base) F32 (He.glo_ok X G (x := "is_value") (c.fact 32 rfl)) (ok_is_value F32 T h_is_between h_are_bundles) (fun _ _ _ _ _ _ us hl => match us, hl with | [_, _], _ => rfl)
  have okW : FnOk P w K mg base CX0 6 (He.ma K (He.ga K "Way") "__init__") f44 ["self", "tail", "ahead", "guard", "bundles", "joining"] (InSp (He.ga K "Way") (preWay K) (postWay K)) := ok_Way_init F44 T h_is_value
  have k_care : HasIK P w K mg base (He.ga K "Way") 6 ["self", "tail", "ahead", "guard", "bundles", "joining"] ["bundles"] gCare (InSp (He.ga K "Way") (preWay K) (postWay K)) := by
    obtain ⟨mv, kb⟩ := FunD.kbinds0 (ps := ["self", "tail", "ahead", "guard", "bundles", "joining"]) F44 1 ["bundles"] [("tail", .str "mask"), ("ahead", .int 0), ("guard", .bl true), ("joining", .str "row")] (fun vs mz zs => vs ++ mz.take 3 ++ zs ++ mz.drop 3) (wayKw_ne K) (fun q hq => kw_sub1 K q hq) (fun r1 r2 r3 => ((r1.append (vals_take 3 r2)).append r3).append (r2.drop 3))
      (fun D doc pm an cdv ct us mv ws h1 h2 h3 => match us, mv, ws, h1, h2, h3 with | [_], [_, _, _, _], [_], _, _, _ => ⟨_, _, _, _, _, _, rfl, rfl, _, _, _, _, _, _, rfl, rfl, _, _, _, _, _, _, rfl, rfl, _, _, _, _, _, _, rfl, rfl, rfl⟩)
    exact ⟨_, _, _, okW, He.mkr_ok (x := "Way") (c.fact 107 rfl), kb⟩
  have k_two : HasIK P w K mg base (He.ga K "Way") 6 ["self", "tail", "ahead", "guard", "bundles", "joining"] ["ahead", "guard"] (gTwo (.ref (wbd K))) (InSp (He.ga K "Way") (preWay K) (postWay K)) := by
    obtain ⟨mv, kb⟩ := FunD.kbinds0 (ps := ["self", "tail", "ahead", "guard", "bundles", "joining"]) F44 1 ["ahead", "guard"] [("tail", .str "mask"), ("bundles", .ref (wbd K)), ("joining", .str "row")] (fun vs mz zs => vs ++ mz.take 1 ++ zs ++ mz.drop 1) (wayKw_ne K) (fun q hq => kw_sub2 K q hq) (fun r1 r2 r3 => ((r1.append (vals_take 1 r2)).append r3).append (r2.drop 1))
      (fun D doc pm an cdv ct us mv ws h1 h2 h3 => match us, mv, ws, h1, h2, h3 with | [_], [_, _, _], [_, _], _, _, _ => ⟨_, _, _, _, _, _, rfl, rfl, _, _, _, _, _, _, rfl, rfl, _, _, _, _, _, _, rfl, rfl, rfl⟩)
    exact ⟨_, _, _, okW, He.mkr_ok (x := "Way") (c.fact 107 rfl), kb⟩
  have m_Way_goes_with : HasM P w K mg base (He.ga K "Way") "goes_with" 3 ["self", "loop"] (spGoes K (He.ga K "Line") (He.ga K "Statement") (He.ga K "Loop") (He.ga K "Way")) := ⟨_, _, ok_Way_goes F51 T m_Loop_len, He.meth_ok (x := "Way") (m := "goes_with") (c.fact 97 rfl), FunD.bindsN F51 (fun _ _ _ _ _ _ us hl => match us, hl with | [_, _], _ => rfl)⟩
  have s_care : HasS P w K mg base (He.ga K "Way") "careful" 8 ["loop"] (spCareful K (He.ga K "Line") (He.ga K "Statement") (He.ga K "Loop") (He.ga K "Way")) := ⟨_, _, ok_Way_careful F67 T m_Loop_len k_care, staB_ok (c.more 15 rfl), FunD.kp F67, FunD.bindsN F67 (fun _ _ _ _ _ _ us hl => match us, hl with | [_], _ => rfl)⟩
  have h_loads_of := has_of (P := P) (w := w) (base := base) F6 (He.glo_ok X G (x := "loads_of") (c.fact 6 rfl)) (ok_loads_of F6 T g_Loop_statements g_Statement_sources) (fun _ _ _ _ _ _ us hl => match us, hl with | [_, _, _], _ => rfl)
  have h_end_of := has_of (P := P) (w := w) (base := base) F7 (He.glo_ok X G (x := "end_of") (c.fact 7 rfl)) (ok_end_of F7 T g_Loop_statements g_Statement_target) (fun _ _ _ _ _ _ us hl => match us, hl with | [_, _, _], _ => rfl)
  have h_iteration_events := has_of (P := P) (w := w) (base := base) F8 (He.glo_ok X G (x := "iteration_events") (c.fact 8 rfl)) (ok_iteration_events F8 T h_loads_of h_end_of) (fun _ _ _ _ _ _ us hl => match us, hl with | [_, _, _], _ => rfl)
  have h_plain_list := has_of (P := P) (w := w) (base := base) F9 (He.glo_ok X G (x := "plain_list") (c.fact 9 rfl)) (ok_plain_list F9 T h_iteration_events m_Loop_len) (fun _ _ _ _ _ _ us hl => match us, hl with | [_, _], _ => rfl)
  have h_cell_of := has_of (P := P) (w := w) (base := base) F10 (He.glo_ok X G (x := "cell_of") (c.fact 10 rfl)) (ok_cell_of F10 T g_Loop_statements g_Statement_target g_Statement_sources m_Loop_place) (fun _ _ _ _ _ _ us hl => match us, hl with | [_, _], _ => rfl)
  have h_flow := has_of (P := P) (w := w) (base := base) F11 (He.glo_ok X G (x := "flow") (c.fact 11 rfl)) (ok_flow F11 T h_cell_of) (fun _ _ _ _ _ _ us hl => match us, hl with | [_, _], _ => rfl)
  have h_check_way := has_of (P := P) (w := w) (base := base) F12 (He.glo_ok X G (x := "check_way") (c.fact 12 rfl)) (ok_check_way F12 T m_Way_goes_with) (fun _ _ _ _ _ _ us hl => match us, hl with | [_, _], _ => rfl)
  have h_block_number := has_of (P := P) (w := w) (base := base) F13 (He.glo_ok X G (x := "block_number") (c.fact 13 rfl)) (ok_block_number F13 T g_Way_tail) (fun _ _ _ _ _ _ us hl => match us, hl with | [_, _, _], _ => rfl)
  have h_block_lanes := has_of (P := P) (w := w) (base := base) F14 (He.glo_ok X G (x := "block_lanes") (c.fact 14 rfl)) (ok_block_lanes F14 T g_Way_tail) (fun _ _ _ _ _ _ us hl => match us, hl with | [_, _, _, _], _ => rfl)
  have h_groups := has_of (P := P) (w := w) (base := base) F15 (He.glo_ok X G (x := "groups") (c.fact 15 rfl)) (ok_groups F15 T m_Loop_len) (fun _ _ _ _ _ _ us hl => match us, hl with | [_, _], _ => rfl)
  have i_Weaver : HasI P w K mg base (He.ga K "Weaver") 4 ["self", "loop", "way", "width", "count"] (InSp (He.ga K "Weaver") (preWv K (He.ga K "Line") (He.ga K "Statement") (He.ga K "Loop") (He.ga K "Way")) (postWv K (He.ga K "Line") (He.ga K "Statement") (He.ga K "Loop") (He.ga K "Way"))) := ⟨_, _, ok_Weaver_init F43 T h_block_number h_groups g_Way_bundles, He.mkr_ok (x := "Weaver") (c.fact 106 rfl), FunD.bindsN F43 (fun _ _ _ _ _ _ us hl => match us, hl with | [_, _, _, _, _], _ => rfl)⟩
  have m_Weaver_lanes : HasM P w K mg base (He.ga K "Weaver") "lanes" 4 ["self", "block"] (spLanes K (He.ga K "Line") (He.ga K "Statement") (He.ga K "Loop") (He.ga K "Weaver") (He.ga K "Way")) := ⟨_, _, ok_Weaver_lanes F52 T h_block_lanes, He.meth_ok (x := "Weaver") (m := "lanes") (c.fact 98 rfl), FunD.bindsN F52 (fun _ _ _ _ _ _ us hl => match us, hl with | [_, _], _ => rfl)⟩
  have m_Weaver_early : HasM P w K mg base (He.ga K "Weaver") "early" 5 ["self", "block"] (spEarly K (He.ga K "Line") (He.ga K "Statement") (He.ga K "Loop") (He.ga K "Weaver") (He.ga K "Way")) := ⟨_, _, ok_Weaver_early F53 T h_loads_of m_Weaver_lanes g_Way_guard, He.meth_ok (x := "Weaver") (m := "early") (c.fact 99 rfl), FunD.bindsN F53 (fun _ _ _ _ _ _ us hl => match us, hl with | [_, _], _ => rfl)⟩
  have m_Weaver_beginning : HasM P w K mg base (He.ga K "Weaver") "beginning" 6 ["self", "block"] (spBeg K (He.ga K "Line") (He.ga K "Statement") (He.ga K "Loop") (He.ga K "Weaver") (He.ga K "Way")) := ⟨_, _, ok_Weaver_beginning F54 T m_Weaver_early g_Way_ahead, He.meth_ok (x := "Weaver") (m := "beginning") (c.fact 100 rfl), FunD.bindsN F54 (fun _ _ _ _ _ _ us hl => match us, hl with | [_, _], _ => rfl)⟩
  have m_Weaver_group : HasM P w K mg base (He.ga K "Weaver") "group" 5 ["self", "first", "last", "bundled", "lanes"] (spGroup K (He.ga K "Line") (He.ga K "Statement") (He.ga K "Loop") (He.ga K "Weaver") (He.ga K "Way")) := ⟨_, _, ok_Weaver_group F55 T h_loads_of h_iteration_events h_end_of g_Way_ahead, He.meth_ok (x := "Weaver") (m := "group") (c.fact 101 rfl), FunD.bindsN F55 (fun _ _ _ _ _ _ us hl => match us, hl with | [_, _, _, _, _], _ => rfl)⟩
  have m_Weaver_events : HasM P w K mg base (He.ga K "Weaver") "events" 7 ["self"] (spEvents K (He.ga K "Line") (He.ga K "Statement") (He.ga K "Loop") (He.ga K "Weaver") (He.ga K "Way")) := ⟨_, _, ok_Weaver_events F56 T m_Weaver_beginning m_Weaver_group m_Weaver_lanes g_Way_tail, He.meth_ok (x := "Weaver") (m := "events") (c.fact 102 rfl), FunD.bindsN F56 (fun _ _ _ _ _ _ us hl => match us, hl with | [_], _ => rfl)⟩
  have h_wide_list := has_of (P := P) (w := w) (base := base) F16 (He.glo_ok X G (x := "wide_list") (c.fact 16 rfl)) (ok_wide_list F16 T i_Weaver m_Weaver_events) (fun _ _ _ _ _ _ us hl => match us, hl with | [_, _, _, _], _ => rfl)
  have h_numbered_refs := has_of (P := P) (w := w) (base := base) F17 (He.glo_ok X G (x := "numbered_refs") (c.fact 17 rfl)) (ok_numbered_refs F17 T g_Loop_statements g_Statement_target g_Statement_sources) (fun _ _ _ _ _ _ us hl => match us, hl with | [_], _ => rfl)
  have h_meets := has_of (P := P) (w := w) (base := base) F18 (He.glo_ok X G (x := "meets") (c.fact 18 rfl)) (ok_meets F18 T h_numbered_refs m_Loop_line m_Line_distance) (fun _ _ _ _ _ _ us hl => match us, hl with | [_], _ => rfl)
  have h_reach := has_of (P := P) (w := w) (base := base) F19 (He.glo_ok X G (x := "reach") (c.fact 19 rfl)) (ok_reach F19 T h_meets) (fun _ _ _ _ _ _ us hl => match us, hl with | [_], _ => rfl)
  have h_found_differences := has_of (P := P) (w := w) (base := base) F20 (He.glo_ok X G (x := "found_differences") (c.fact 20 rfl)) (ok_found_differences F20 T h_flow h_plain_list h_wide_list) (fun _ _ _ _ _ _ us hl => match us, hl with | [_, _, _, _], _ => rfl)
  have h_greatest_count := has_of (P := P) (w := w) (base := base) F21 (He.glo_ok X G (x := "greatest_count") (c.fact 21 rfl)) (ok_greatest_count F21 T h_reach) (fun _ _ _ _ _ _ us hl => match us, hl with | [_, _], _ => rfl)
  have h_greatest_width := has_of (P := P) (w := w) (base := base) F22 (He.glo_ok X G (x := "greatest_width") (c.fact 22 rfl)) (ok_greatest_width F22 T h_reach) (fun _ _ _ _ _ _ us hl => match us, hl with | [_], _ => rfl)
  have h_least_count := has_of (P := P) (w := w) (base := base) F23 (He.glo_ok X G (x := "least_count") (c.fact 23 rfl)) (ok_least_count F23 T h_greatest_count h_found_differences) (fun _ _ _ _ _ _ us hl => match us, hl with | [_, _, _], _ => rfl)
  have h_least_wrong := has_of (P := P) (w := w) (base := base) F24 (He.glo_ok X G (x := "least_wrong") (c.fact 24 rfl)) (ok_least_wrong F24 T h_greatest_width h_least_count) (fun _ _ _ _ _ _ us hl => match us, hl with | [_, _], _ => rfl)
  have h_first_wrong := has_of (P := P) (w := w) (base := base) F25 (He.glo_ok X G (x := "first_wrong") (c.fact 25 rfl)) (ok_first_wrong F25 T h_check_way h_least_wrong h_least_count h_found_differences) (fun _ _ _ _ _ _ us hl => match us, hl with | [_, _], _ => rfl)
  have h_is_safe := has_of (P := P) (w := w) (base := base) F26 (He.glo_ok X G (x := "is_safe") (c.fact 26 rfl)) (ok_is_safe F26 T h_check_way h_least_wrong) (fun _ _ _ _ _ _ us hl => match us, hl with | [_, _], _ => rfl)
  have h_greatest_safe := has_of (P := P) (w := w) (base := base) F27 (He.glo_ok X G (x := "greatest_safe") (c.fact 27 rfl)) (ok_greatest_safe F27 T h_check_way h_least_wrong) (fun _ _ _ _ _ _ us hl => match us, hl with | [_, _], _ => rfl)
  have h__law_begin := has_of (P := P) (w := w) (base := base) F33 (He.glo_ok X G (x := "_law_begin") (c.fact 33 rfl)) (ok_law_begin F33 T) (fun _ _ _ _ _ _ us hl => match us, hl with | [_], _ => rfl)
  have h__law_draw := has_of (P := P) (w := w) (base := base) F34 (He.glo_ok X G (x := "_law_draw") (c.fact 34 rfl)) (ok_law_draw F34 T) (fun _ _ _ _ _ _ us hl => match us, hl with | [_, _], _ => rfl)
  have h__law_pick := has_of (P := P) (w := w) (base := base) F35 (He.glo_ok X G (x := "_law_pick") (c.fact 35 rfl)) (ok_law_pick F35 T h__law_draw) (fun _ _ _ _ _ _ us hl => match us, hl with | [_, _], _ => rfl)
  have h__law_mixed := has_of (P := P) (w := w) (base := base) F36 (He.glo_ok X G (x := "_law_mixed") (c.fact 36 rfl)) (ok_law_mixed F36 T h__law_draw) (fun _ _ _ _ _ _ us hl => match us, hl with | [_, _], _ => rfl)
  have h__law_stem := has_of (P := P) (w := w) (base := base) F37 (He.glo_ok X G (x := "_law_stem") (c.fact 37 rfl)) (ok_law_stem F37 T h__law_draw h__law_pick) (fun _ _ _ _ _ _ us hl => match us, hl with | [_], _ => rfl)
  have h__law_names := has_of (P := P) (w := w) (base := base) F38 (He.glo_ok X G (x := "_law_names") (c.fact 38 rfl)) (ok_law_names F38 T h__law_stem h__law_mixed) (fun _ _ _ _ _ _ us hl => match us, hl with | [_, _], _ => rfl)
  exact ok_law (bv := .ref (wbd K)) F39 T facts (bunB_ok (c.more 19 rfl)) ⟨nadB_ok (c.more 16 rfl), (c.more 17 rfl), of_ne (c.more 18 rfl)⟩ h__law_begin h__law_draw h__law_names i_Line i_Stm i_Loop k_two h_first_wrong h_greatest_safe h_is_safe s_care h_meets h_reach m_Loop_add
end Vw
end
section
set_option maxHeartbeats 0
/-! The head's run and the law. -/
namespace Vw
open PySem PySem.W PySem.Calls PyProof.Rows
abbrev Rr : OpenRow := OpenLaw.row PySem.Challenge.rw_vectorwidths_k31_whole_known_stores
abbrev hk : Hook := hookV seenNm fa ex ds
def ob (s : SharedT) : He.AlD := obV seenNm fa ex ds (HandSHeadRun.getT s)
theorem ob_eq (s : SharedT) : ob s = hk.obs s.abs := obV_eq (HandSHeadRun.getT_eq s)
def nms0 : List PySem.Str := ["_wall", "__name__", "WidthError", "InvalidNumber", "InvalidName", "InvalidRef", "InvalidLine", "InvalidStatement", "InvalidLoop", "InvalidPart", "InvalidBundles", "LETTERS", "MOST_LETTERS", "MOST_STRIDE", "MOST_OFFSET"]
def nms1 : List PySem.Str := ["is_integer", "is_between", "is_count", "is_name", "is_offset", "is_ref", "are_unlike", "Line", "loads_of", "end_of", "iteration_events", "plain_list", "cell_of", "flow", "check_way"]
def nms2 : List PySem.Str := ["block_number", "block_lanes", "groups", "Weaver", "wide_list", "numbered_refs", "meets", "reach", "found_differences", "greatest_count", "greatest_width", "least_count", "least_wrong", "first_wrong", "is_safe"]
def nms3 : List PySem.Str := ["greatest_safe", "MOST_SOURCES", "Statement", "MOST_LINES", "MOST_STATEMENTS", "are_lines", "are_statements", "Loop", "PARTS", "TAILS", "JOININGS", "MOST_AHEAD", "MOST_BUNDLES", "is_bundle", "are_bundles"]
def nms4 : List PySem.Str := ["is_value", "Way", "_law_begin", "_law_draw", "_law_pick", "_law_mixed", "_law_stem", "_law_names"]
def names : List PySem.Str := nms0 ++ nms1 ++ nms2 ++ nms3 ++ nms4
theorem run (w : World) : HandSHeadRun.RunEq Rr (view Rr.prog [78]) hk ob 9000 names w := by
  intro os
  kernel_rfl
end Vw
end
section
set_option maxHeartbeats 0
open PySem PySem.W PySem.Calls PyProof.Rows
theorem PySem.Challenge.cw_vectorwidths_k31_whole_known_stores_holds : PySem.Challenge.rw_vectorwidths_k31_whole_known_stores.Holds := by
  w_on; o_law
  refine HandSHeadRun.head_any (r := OpenLaw.row PySem.Challenge.rw_vectorwidths_k31_whole_known_stores) (q := view (OpenLaw.row PySem.Challenge.rw_vectorwidths_k31_whole_known_stores).prog [78]) (H := Vw.hk) (ob := Vw.ob) (M := 9000) (loose := Vw.names) (d := HandSHeadRun.topDef (OpenLaw.row PySem.Challenge.rw_vectorwidths_k31_whole_known_stores).prog 78) (kwd := []) Vw.ob_eq
    (by kernel_rfl) (fun s => by kernel_rfl) Vw.run (by kernel_rfl) (by kernel_rfl) (by kernel_rfl) (by rfl) (by first | assumption | decide +kernel) (by decide +kernel) ⟨rfl, rfl, rfl, rfl, rfl, by decide +kernel⟩ ?hw ?hc
  case hw => w_witness2
  case hc =>
    refine L2.walk_ofE (l := PySem.Challenge.rw_vectorwidths_k31_whole_known_stores) (n := 63) (k := 13) (x := "script") (CX := L2.CX0) rfl (by decide) (by kernel_rfl) ⟨rfl, by decide, by decide⟩ ?F (fun _ _ _ _ z => z)
    intro w mg fa h Y G hmg0
    obtain ⟨K, KX, c⟩ := Y
    have hmg : mg ("law" : PySem.Str) = some (.ref fa) := by
      have e : (HandSHeadRun.topDef (OpenLaw.row PySem.Challenge.rw_vectorwidths_k31_whole_known_stores).prog 78).name = ("law" : PySem.Str) := by kernel_rfl
      rw [← e]
      exact hmg0
    obtain ⟨fd, hb, hF⟩ := Vw.law_fn (P := (PySem.Challenge.rw_vectorwidths_k31_whole_known_stores).prog) (w := w) KX G hmg c
    refine ⟨K, fd, Vw.spLaw K, KX, hb, fun H a ns hl hO hS => ?_, fun base _ _ => hF base⟩
    exact ⟨a, ns, rfl, hS, fun _ => rfl⟩
end
