import PyProof.Rows.All
import Wide.All
import OpenK.AllK
import Wide.FinOn
import HandS.ForMost
import HandS.Exc
import HandS.WordsExc
import HandS.Defaults
import HandS.Walk
import HandS.Steps
import HandS.IsInst
import HandS.Conv
import HandS.SetKeys
import HandS.Head0
import HandS.Head1
import HandS.Head2
import HandS.HeadEnd
import HandS.HeadHook1
import HandS.HeadHook2
import HandS.HeadHook3
import HandS.HeadHook4
import HandS.Wide
import KE.KDictList
import HandS.ExcInit
import HandS.FStr
import HandS.ExcSuper
import KE.KExcSuper
import PyProof.Rows.RegStrFacts
import HandS.ExcValue
import HandS.HeadNt
import HandS.Property
import HandS.TryMany
import HandS.ExcField
import HandS.ExcIs
import KE.KExcIs
import PySem.Challenge.RW_depotday_k05_book_parts
import KE.GoesEnum
import HandS.Iter
import HandS.Style
import HandS.TryOnly
import KE.DataFind
import HandS.OwnEq
import KE.KCallOwn
import OpenK.KOps
import HandS.Strs
import HandS.Text
import HandS.Star
import HandS.SortKw
import HandS.Zip
import KE.GoesNew
import HandS.Deep
import HandS.SetFor
import KE.DataMinMax
import HandS.DictComp
import HandS.SortInts
import HandS.TupLe
import KE.KOpsOwn
import PyProof.Conv_bool
import KE.KDictZip
import PyProof.AutoIntOps
import HandS.IterVal
import KE.DataCmp
import KE.SortData
import HandS.List
import HandS.MakeKwOnly
import HandS.Flt
import HandS.TupAny
import HandS.TupMul
import KE.KTupSum
import PyProof.EqAt
set_option Elab.async false
set_option linter.all false
set_option maxRecDepth 100000
set_option maxHeartbeats 4000000
/-! ## Lib -/
namespace Cl
open PySem PySem.Spec PyProof.Rows L2
/-! ## readings, one step each (continuations) -/
section
variable {σ : L2.St} {H : Hp} {Q : VK} {QA : List V → Hp → Prop} {QB : Bool → Hp → Prop} {D : Ends} {t u : TS} {te ta tb tc : TE} {tt tv : TT} {ts tr : TA} {v x y : V} {i : Nat}
theorem g_ret (h : te σ H D.rt) : tRet te D σ H := h
theorem g_if {b : Bool} {A B : Prop} (h1 : b = true → A) (h2 : b = false → B) : if b = true then A else B := by
  cases b with
  | true => exact iteT (h1 rfl)
  | false => exact iteF (h2 rfl)
theorem g_B (h : te σ H fun x H' => ∃ k, x = .bl k ∧ QB k H') : tB te σ H QB := h
theorem g_call {sp : Sp} {E : XK} (h : ts σ H fun vs H1 => sp (vs ++ []) H1 Q E) : tCall sp [] E ts σ H Q := h
end
/-! ## values that leave the heap: Val, tests: Ans -/
section
variable {σ : L2.St} {H : Hp} {i : Nat} {v x y z : V} {ta tb tc te : TE} {b c d : Bool} {K : PySem.W.Frag} {t u : TT} {a p : Addr} {xs : List V} {n m : Int}
theorem v_op {r : R2} (ha : Val ta σ H x) (hb : Val tb σ H y) (hr : ∀ Q : VK, Q z H → r x y H Q) : Val (tOp r ta tb) σ H z := val_op ha hb hr
theorem v_I0 {g : Int → Int → V} (ha : Val ta σ H (.int n)) (hb : Val tb σ H (.int m)) : Val (tOp (rI0 g) ta tb) σ H (g n m) := v_op ha hb fun _ q => ⟨n, m, rfl, rfl, q⟩
theorem v_I {C : Int → Int → Prop} {g : Int → Int → V} (ha : Val ta σ H (.int n)) (hb : Val tb σ H (.int m)) (hc : C n m) : Val (tOp (rI C g) ta tb) σ H (g n m) := v_op ha hb fun _ q => ⟨n, m, rfl, rfl, hc, q⟩
theorem v_U {g : Int → V} (ha : Val ta σ H (.int n)) : Val (tUn (rU g) ta) σ H (g n) := fun _ q => ha _ ⟨n, rfl, q⟩
theorem v_eq (ha : Val ta σ H x) (hb : Val tb σ H y) (hs : scal x y = true) : Val (tOp rEq ta tb) σ H (.bl (decide (x = y))) := v_op ha hb fun _ q => ⟨hs, q⟩
theorem v_ne (ha : Val ta σ H x) (hb : Val tb σ H y) (hs : scal x y = true) : Val (tOp rNe ta tb) σ H (.bl (!decide (x = y))) := v_op ha hb fun _ q => ⟨hs, q⟩
theorem v_ixL (ha : Val ta σ H (.ref p)) (hb : Val tb σ H (.int n)) (h : SqL K H p xs) (e : atI xs n = some v) : Val (tOp (rIxL K) ta tb) σ H v := v_op ha hb fun _ q => ⟨p, xs, n, v, rfl, rfl, h, e, q⟩
theorem v_ixT (ha : Val ta σ H (.ref p)) (hb : Val tb σ H (.int n)) (h : SqT K H p xs) (e : atI xs n = some v) : Val (tOp (rIxT K) ta tb) σ H v := v_op ha hb fun _ q => ⟨p, xs, n, v, rfl, rfl, h, e, q⟩
theorem v_chain {r r' : R2} {b c : Bool} (ha : Val ta σ H x) (hb : Val tb σ H y) (hc : Val tc σ H z) (h1 : ∀ Q : VK, Q (.bl b) H → r x y H Q) (h2 : ∀ Q : VK, Q (.bl c) H → r' y z H Q) : Val (tChain r r' ta tb tc) σ H (.bl (b && c)) := fun Q q => by
  refine ha _ (hb _ (h1 _ ⟨b, rfl, ?_⟩))
  cases b with
  | true => exact iteT (hc _ (h2 _ q))
  | false => exact iteF q
theorem i_B0 {p : Int → Int → Bool} : ∀ Q : VK, Q (.bl (p n m)) H → rI0 (fun i j => .bl (p i j)) (.int n) (.int m) H Q := fun _ q => ⟨n, m, rfl, rfl, q⟩
theorem v_andV (ha : Val ta σ H (.bl b)) (hb : b = true → Val tb σ H (.bl c)) : Val (tAndV ta tb) σ H (.bl (b && c)) := fun Q q => by
  refine ha _ ⟨b, rfl, ?_⟩
  cases b with
  | true => exact iteT (hb rfl _ q)
  | false => exact iteF q
theorem v_orV (ha : Val ta σ H (.bl b)) (hb : b = false → Val tb σ H (.bl c)) : Val (tOrV ta tb) σ H (.bl (b || c)) := fun Q q => by
  refine ha _ ⟨b, rfl, ?_⟩
  cases b with
  | true => exact iteT q
  | false => exact iteF (hb rfl _ q)
theorem v_notV (ha : Val ta σ H (.bl b)) : Val (tNotV ta) σ H (.bl (!b)) := fun Q q => ha _ ⟨b, rfl, q⟩
theorem v_if (h : Ans t σ H b) (h1 : b = true → Val ta σ H x) (h2 : b = false → Val tb σ H y) : Val (tIf t ta tb) σ H (if b = true then x else y) := fun Q q => by
  refine h _ ?_
  cases b with
  | true => exact iteT (h1 rfl _ q)
  | false => exact iteF (h2 rfl _ q)
theorem a_test (h : Val te σ H (.bl b)) : Ans (tTest te) σ H b := fun Q q => h _ ⟨b, rfl, q⟩
theorem a_B (h : Val te σ H (.bl b)) : Ans (tB te) σ H b := fun Q q => h _ ⟨b, rfl, q⟩
theorem a_and (h1 : Ans t σ H b) (h2 : b = true → Ans u σ H c) : Ans (tAnd t u) σ H (b && c) := fun Q q => by
  refine h1 _ ?_
  cases b with
  | true => exact iteT (h2 rfl _ q)
  | false => exact iteF q
theorem a_or (h1 : Ans t σ H b) (h2 : b = false → Ans u σ H c) : Ans (tOr t u) σ H (b || c) := fun Q q => by
  refine h1 _ ?_
  cases b with
  | true => exact iteT q
  | false => exact iteF (h2 rfl _ q)
theorem a_not (h : Ans t σ H b) : Ans (tNot t) σ H (!b) := fun Q q => h _ q
/-- a list of argument values -/
def Args (ts : TA) (σ : L2.St) (H : Hp) (vs : List V) : Prop := ∀ Q : List V → Hp → Prop, Q vs H → ts σ H Q
theorem ar_nil : Args tNil σ H [] := fun _ q => q
theorem ar_cons {ts : TA} {vs : List V} (h : Val te σ H v) (hr : Args ts σ H vs) : Args (tCons te ts) σ H (v :: vs) := fun _ q => h _ (hr _ q)
theorem v_cb {r : List V → Hp → VK → Prop} {ts : TA} {vs : List V} (h : Args ts σ H vs) (hr : ∀ Q : VK, Q z H → r vs H Q) : Val (tCB r ts) σ H z := fun Q q => h _ (hr _ q)
/-- an expression whose value is known, then what follows -/
theorem g_val {Q : VK} (h : Val te σ H v) (q : Q v H) : te σ H Q := h Q q
theorem g_args {Q : List V → Hp → Prop} {ts : TA} {vs : List V} (h : Args ts σ H vs) (q : Q vs H) : ts σ H Q := h Q q
end
/-- a test whose answer is known, two ways -/
theorem g_ifA {c : TT} {t u : TS} {D : Ends} {σ : L2.St} {H : Hp} {b : Bool} (h : Ans c σ H b) (h1 : b = true → t D σ H) (h2 : b = false → u D σ H) : tIfS c t u D σ H := h _ (g_if h1 h2)
end Cl
/-! ## Lib2 -/
namespace Cl
open PySem PySem.Spec PyProof.Rows L2
/-! ## the head's facts -/
structure Fx (fa : List He.Fa) (fn : List He.DefD) (K : PySem.W.Frag) (mg : Str → Option Value) : Prop where
  says : He.SaysD fa fn K
  ns : ∃ h : Heap, K.In h ∧ h.Ns mainGlobals mg
section
variable {fa : List He.Fa} {fn : List He.DefD} {K : PySem.W.Frag} {mg : Str → Option Value}
theorem Fx.glo (c : Fx fa fn K mg) (i : Nat) {x : Str} (h : fa[i]? = some (.glo x) := by rfl) : mg x = some (.ref (He.ga K x)) := let ⟨_, X, G⟩ := c.ns; He.glo_ok X G (c.says.fact i h)
theorem Fx.free (c : Fx fa fn K mg) (i : Nat) {x : Str} (h : fa[i]? = some (.free x) := by rfl) : mg x = none := let ⟨_, X, G⟩ := c.ns; He.free_ok X G (c.says.fact i h)
theorem Fx.int (c : Fx fa fn K mg) (i : Nat) {x : Str} {n : Int} (h : fa[i]? = some (.int x n) := by rfl) : ∃ t, mg x = some (.int n t) := let ⟨_, X, G⟩ := c.ns; He.int_ok X G (c.says.fact i h)
theorem Fx.str (c : Fx fa fn K mg) (i : Nat) {x z : Str} (h : fa[i]? = some (.str x z) := by rfl) : ∃ t, mg x = some (.str z t) := let ⟨_, X, G⟩ := c.ns; He.str_ok X G (c.says.fact i h)
theorem Fx.cls (c : Fx fa fn K mg) (i : Nat) {x : Str} (h : fa[i]? = some (.cls x) := by rfl) : Cls K (He.ga K x) := He.cls_ok (c.says.fact i h)
theorem Fx.noat (c : Fx fa fn K mg) (i : Nat) {x f : Str} (h : fa[i]? = some (.noat x f) := by rfl) : NoAttr K (He.ga K x) f := He.noat_ok (c.says.fact i h)
theorem Fx.meth (c : Fx fa fn K mg) (i : Nat) {x m : Str} (h : fa[i]? = some (.meth x m) := by rfl) : Meth K (He.ga K x) m (He.ma K (He.ga K x) m) := He.meth_ok (c.says.fact i h)
theorem Fx.mkr (c : Fx fa fn K mg) (i : Nat) {x : Str} (h : fa[i]? = some (.mkr x) := by rfl) : Mk K (He.ga K x) (He.ma K (He.ga K x) "__init__") := He.mkr_ok (c.says.fact i h)
end
/-! ## a def that keeps its promise -/
structure FnX (P : Program) (w : World) (K : PySem.W.Frag) (mg : Str → Option Value) (base : Heap) (CX : CXT) (k : Nat) (at_ : Str × Option Str) (ps : List Str) (sp : Sp) : Prop where
  ex : ∃ fd, FnOk P w K mg base CX k (He.fAd K at_) fd ps sp ∧ Binds K fd ps []
  kp : PySem.W.keepIn K (.ref (He.fAd K at_)) = true
section
variable {X : Cx} {CX : CXT} {k : Nat} {ps : List Str} {sp : Sp} {E : XK} {x m : Str} {p pos apos : Pos} {e o : Expr} {es : List Expr} {ta : TE} {t : TA}
theorem pcall (F : FnX X.prog X.w X.K X.mg X.base CX k (x, none) ps sp) (hr : Room k X.A) (hg : Gl X x) (hm : X.mg x = some (.ref (He.ga X.K x))) (hx : Passes CX X E)
    (ha : PA X (e :: es) t) (hdb : (x == ("__debug__" : Str)) = false := by decide) (he : starEach (e :: es) X.env = (false, eval e X.env) :: starEach es X.env := by rfl) (hpl : (backTo pos (starEach es X.env)).any (·.1) = false := by rfl) :
    PE X (.Call (.Name x p) (e :: es) [] pos) (tCall sp [] E t) := by
  obtain ⟨⟨fd, F, b⟩, kp⟩ := F
  exact pe_call F hr hg hm kp b .nil hx ha hdb he hpl
theorem pmeth {pl : Sem Bool} {C : Str} (he : PE X o ta) (c : Cls X.K (He.ga X.K C)) (hm : Meth X.K (He.ga X.K C) m (He.ma X.K (He.ga X.K C) m)) (F : FnX X.prog X.w X.K X.mg X.base CX k (C, some m) ps sp) (hr : Room k X.A) (hx : Passes CX X E) (ha : PA X (e :: es) t)
    (hst : starEach (e :: es) X.env = (false, eval e X.env) :: starEach es X.env := by rfl) (hpl : (backTo pos (starEach es X.env)).any (·.1) = false := by rfl)
    (ht : eval (.Call (.Attribute o m apos) (e :: es) [] pos) X.env = (do
      let ov ← eval o X.env
      standAt apos.atName
      let (f, first) ← holding [ov] (getMethod ov m pl)
      callWith pos f first (backTo pos (starEach (e :: es) X.env)) (backToKw pos (keywordEach [] X.env))) := by rfl) :
    PE X (.Call (.Attribute o m apos) (e :: es) [] pos) (tMeth (He.ga X.K C) m sp [] E ta t) := by
  obtain ⟨⟨fd, F, b⟩, kp⟩ := F
  exact pe_meth he c hm F hr b .nil hx ha hst hpl ht
theorem pgi {n : Int} (hg : Gl X x) (h : ∃ t, X.mg x = some (.int n t)) (hd : (x == ("__debug__" : Str)) = false := by decide) : PE X (.Name x pos) (tC (.int n)) := by
  obtain ⟨t, h⟩ := h
  exact pe_glob hg h ⟨t, rfl⟩ hd
theorem pgs {z : Str} (hg : Gl X x) (h : ∃ t, X.mg x = some (.str z t)) (hd : (x == ("__debug__" : Str)) = false := by decide) : PE X (.Name x pos) (tC (.str z)) := by
  obtain ⟨t, h⟩ := h
  exact pe_glob hg h ⟨t, rfl⟩ hd
end
/-! ## named readings of the kit's rules -/
def rLen (K : PySem.W.Frag) : List V → Hp → VK → Prop := fun xs H Q => ∃ p ys, xs = [.ref p] ∧ (SqL K H p ys ∨ SqT K H p ys) ∧ Q (.int ys.length) H
def rListOf (K : PySem.W.Frag) : List V → Hp → VK → Prop := fun xs H Q => ∃ p ys, xs = [.ref p] ∧ (SqL K H p ys ∨ SqT K H p ys) ∧ ∀ l, H l = none → Q (.ref l) (upd H l (.lst ys))
def rTupOf (K : PySem.W.Frag) : List V → Hp → VK → Prop := fun xs H Q => ∃ p ys, xs = [.ref p] ∧ ((SqL K H p ys ∧ ∀ l, H l = none → Q (.ref l) (upd H l (.tup ys))) ∨ (SqT K H p ys ∧ Q (.ref p) H))
def rAbs : List V → Hp → VK → Prop := fun xs H Q => ∃ i, xs = [.int i] ∧ Q (.int (if i < 0 then -i else i)) H
def rMax2 : List V → Hp → VK → Prop := fun xs H Q => ∃ i j, xs = [.int i, .int j] ∧ Q (.int (if j > i then j else i)) H
def rMin2 : List V → Hp → VK → Prop := fun xs H Q => ∃ i j, xs = [.int i, .int j] ∧ Q (.int (if j < i then j else i)) H
def rInt1 : List V → Hp → VK → Prop := fun xs H Q => (∃ i, xs = [.int i] ∧ Q (.int i) H) ∨ ∃ k, xs = [.bl k] ∧ Q (.int (if k then 1 else 0)) H
abbrev oAdd : R2 := rI0 fun i j => .int (i + j)
abbrev oSub : R2 := rI0 fun i j => .int (i - j)
abbrev oMul : R2 := rI CMul fun i j => .int (i * j)
/-- // by a positive divisor below 2 ^ 62 -/
def CDivB (_ j : Int) : Prop := 0 < j ∧ j < 4611686018427387904
theorem op_fdivB {X : Cx} : OpR X (binaryOp .FloorDiv) (rI CDivB fun i j => .int (i / j)) := by
  intro pins s σ H x y v u Q I rx ry h
  obtain ⟨i, j, ex, ey, hc, q⟩ := h
  have h1 : 0 < j := hc.1
  have h2 : j < 4611686018427387904 := hc.2
  have h3 : j.natAbs < 2 ^ 62 := by
    have e : (2 : Nat) ^ 62 = 4611686018427387904 := by decide
    omega
  exact op_fdivW pins s σ H x y v u Q I rx ry ⟨i, j, ex, ey, wide_div (b := 62) h1 h3 (by decide) (by decide), q⟩
abbrev oDiv : R2 := rI CDivB fun i j => .int (i / j)
abbrev oMod : R2 := rI (fun _ j => 0 < j) fun i j => .int (i % j)
abbrev oPow : R2 := rI CPow fun i j => .int (i ^ j.toNat)
abbrev oLt : R2 := rI0 fun i j => .bl (decide (i < j))
abbrev oLe : R2 := rI0 fun i j => .bl (decide (i ≤ j))
abbrev oGt : R2 := rI0 fun i j => .bl (decide (j < i))
abbrev oGe : R2 := rI0 fun i j => .bl (decide (j ≤ i))
abbrev uNeg : V → Hp → VK → Prop := rU fun i => .int (-i)
section
variable {X : Cx}
theorem cl_len : CallR X (.builtin "len") (rLen X.K) := call_len_seq
theorem cl_list : CallR X (.type "list") (rListOf X.K) := call_list_of
theorem cl_tuple : CallR X (.type "tuple") (rTupOf X.K) := call_tuple_of
theorem cl_abs : CallR X (.builtin "abs") rAbs := call_abs
theorem cl_min2 (hc : X.calm = true) : CallR X (.builtin "min") rMin2 := call_min2 hc
theorem cl_int1 : CallR X (.type "int") rInt1 := call_int1
end
section
variable {σ : L2.St} {H : Hp} {K : PySem.W.Frag} {p : Addr} {xs : List V} {n m : Int} {ts : TA} {b : Bool} {te ta tb : TE} {v w : V}
theorem v_len (h : Args ts σ H [.ref p]) (hl : SqL K H p xs) : Val (tCB (rLen K) ts) σ H (.int xs.length) := v_cb h fun _ q => ⟨p, xs, rfl, .inl hl, q⟩
theorem v_lenT (h : Args ts σ H [.ref p]) (hl : SqT K H p xs) : Val (tCB (rLen K) ts) σ H (.int xs.length) := v_cb h fun _ q => ⟨p, xs, rfl, .inr hl, q⟩
theorem v_abs (h : Args ts σ H [.int n]) : Val (tCB rAbs ts) σ H (.int (if n < 0 then -n else n)) := v_cb h fun _ q => ⟨n, rfl, q⟩
theorem v_max2 (h : Args ts σ H [.int n, .int m]) : Val (tCB rMax2 ts) σ H (.int (if m > n then m else n)) := v_cb h fun _ q => ⟨n, m, rfl, q⟩
theorem v_min2 (h : Args ts σ H [.int n, .int m]) : Val (tCB rMin2 ts) σ H (.int (if m < n then m else n)) := v_cb h fun _ q => ⟨n, m, rfl, q⟩
theorem v_intI (h : Args ts σ H [.int n]) : Val (tCB rInt1 ts) σ H (.int n) := v_cb h fun _ q => .inl ⟨n, rfl, q⟩
theorem v_intB (h : Args ts σ H [.bl b]) : Val (tCB rInt1 ts) σ H (.int (if b then 1 else 0)) := v_cb h fun _ q => .inr ⟨b, rfl, q⟩
end
theorem atI_of {α : Type} {xs : List α} {i : Int} {v : α} (h0 : 0 ≤ i) (h : xs[i.toNat]? = some v) : atI xs i = some v := by
  have e : ((i.toNat : Nat) : Int) = i := Int.toNat_of_nonneg h0
  rw [← e]
  exact atI_nat h
theorem ixN_of {n : Nat} {i : Int} (h0 : 0 ≤ i) (h : i < n) : ixN n i = some i.toNat := by
  unfold ixN
  rw [if_pos h0, if_pos h]
/-! ## a statement, then the rest -/
end Cl
/-! ## Lib3 -/
namespace Cl
open PySem PySem.Spec PyProof.Rows L2
section
variable {X : Cx} {a b c d : Expr} {ta tb tc td : TE} {pos : Pos}
/-- a < b < c < d -/
def tChain3 (r r' r'' : R2) (ta tb tc td : TE) : TE := fun σ H Q => ta σ H fun x H1 => tb σ H1 fun y H2 => r x y H2 fun z H3 => ∃ k, z = .bl k ∧
  (if k = true then tc σ H3 fun w' H4 => r' y w' H4 fun z' H5 => ∃ k', z' = .bl k' ∧ (if k' = true then td σ H5 fun u' H6 => r'' w' u' H6 Q else Q (.bl false) H5) else Q (.bl false) H3)
theorem v_chain3 {σ : L2.St} {H : Hp} {x y z w : V} {r r' r'' : R2} {p q s : Bool} (ha : Val ta σ H x) (hb : Val tb σ H y) (hc : Val tc σ H z) (hd : Val td σ H w) (h1 : ∀ Q : VK, Q (.bl p) H → r x y H Q) (h2 : ∀ Q : VK, Q (.bl q) H → r' y z H Q) (h3 : ∀ Q : VK, Q (.bl s) H → r'' z w H Q) :
    Val (tChain3 r r' r'' ta tb tc td) σ H (.bl (p && (q && s))) := fun Q k => by
  refine ha _ (hb _ (h1 _ ⟨p, rfl, ?_⟩))
  cases p with
  | false => exact iteF k
  | true =>
    refine iteT (hc _ (h2 _ ⟨q, rfl, ?_⟩))
    cases q with
    | false => exact iteF k
    | true => exact iteT (hd _ (h3 _ k))
end
/-! ## loops -/
section
variable {σ : L2.St} {H : Hp} {D : Ends} {tb r : TS} {K : PySem.W.Frag} {j : Nat}
theorem s_forR {ta : TA} {n : Int} (h : Args ta σ H [.int n]) (hn : -1000000000 ≤ n ∧ n < 1000000000) (Pv : Nat → L2.St → Hp → Prop) (h0 : Pv 0 σ H)
    (hs : ∀ (i : Nat) σ' H', (i : Int) < n → Pv i σ' H' → tb { D with nx := Pv (i + 1), ct := Pv (i + 1), bk := D.nx } (σ'.set j (some (.int (i : Int)))) H') (hd : ∀ σ' H', Pv n.toNat σ' H' → D.nx σ' H') : tFor (iRng1 ta) (gName j) tb D σ H :=
  h _ ⟨n, rfl, by omega, by omega, for_range (lo := 0) (n := n.toNat) Pv h0 (fun i σ' H' hi p => by
    have e0 : (0 : Int) + (i : Int) = (i : Int) := Int.zero_add _
    show tb { D with nx := Pv (i + 1), ct := Pv (i + 1), bk := D.nx } (σ'.set j (some (.int ((0 : Int) + (i : Int))))) H'
    rw [e0]
    exact hs i σ' H' (by omega) p) hd⟩
theorem q_forR {ta : TA} {n : Int} (h : Args ta σ H [.int n]) (hn : -1000000000 ≤ n ∧ n < 1000000000) (Pv : Nat → L2.St → Hp → Prop) (h0 : Pv 0 σ H)
    (hs : ∀ (i : Nat) σ' H', (i : Int) < n → Pv i σ' H' → tb { D with nx := Pv (i + 1), ct := Pv (i + 1), bk := r D } (σ'.set j (some (.int (i : Int)))) H') (hd : ∀ σ' H', Pv n.toNat σ' H' → r D σ' H') : tSeq (tFor (iRng1 ta) (gName j) tb) r D σ H :=
  s_forR (D := { D with nx := r D }) h hn Pv h0 hs hd
/-! ## tests that are known -/
variable {tt : TT} {t u : TS} {b : Bool} {te ta : TE} {x : V} {ts : TA}
theorem q_yes (h : Ans tt σ H b) (e : b = true) (q : t { D with nx := r D } σ H) : tSeq (tIfS tt t u) r D σ H := g_ifA h (fun _ => q) (fun z => by rw [e] at z; cases z)
theorem q_no (h : Ans tt σ H b) (e : b = false) (q : r D σ H) : tSeq (tIfS tt t tNext) r D σ H := g_ifA h (fun z => by rw [e] at z; cases z) (fun _ => q)
theorem g_no (h : Ans tt σ H b) (e : b = false) (q : u D σ H) : tIfS tt t u D σ H := g_ifA h (fun z => by rw [e] at z; cases z) (fun _ => q)
theorem v_isN (ha : Val ta σ H x) : Val (tOp rIsN ta (tC .non)) σ H (.bl (decide (x = .non))) := v_op ha val_c fun _ q => ⟨rfl, q⟩
theorem v_notN (ha : Val ta σ H x) : Val (tOp rNotN ta (tC .non)) σ H (.bl (!decide (x = .non))) := v_op ha val_c fun _ q => ⟨rfl, q⟩
theorem v_isi {T A : String} (h : Args ts σ H [x, .ty T]) (ht : TyX K H x (.type A)) (hk : kitB A T = some b) : Val (tCB (rIsi K) ts) σ H (.bl b) := v_cb h fun _ q => ⟨x, .ty T, .type A, .type T, b, rfl, .ty T, ht, kit_ty hk, q⟩
theorem v_isiT {T A : String} (h : Args ts σ H [x, .ty T]) (ht : TyX K H x (.type A)) (hk : kitB A T = some true) : Val (tCB (rIsi K) ts) σ H (.bl true) := v_isi h ht hk
theorem v_isiF {T A : String} (h : Args ts σ H [x, .ty T]) (ht : TyX K H x (.type A)) (hk : kitB A T = some false) : Val (tCB (rIsi K) ts) σ H (.bl false) := v_isi h ht hk
theorem v_ixS {p : Addr} {xs : List V} {tb : TE} {n : Int} {v : V} (ha : Val ta σ H (.ref p)) (hb : Val tb σ H (.int n)) (h : SqL K H p xs ∨ SqT K H p xs) (e : atI xs n = some v) : Val (tOp (rIx K) ta tb) σ H v := v_op ha hb fun _ q => by
  rcases h with h | h
  · exact Or.inl ⟨p, xs, n, v, rfl, rfl, h, e, q⟩
  · exact Or.inr (Or.inl ⟨p, xs, n, v, rfl, rfl, h, e, q⟩)
end
end Cl
/-! ## ComSp -/
namespace Cl
open PySem PySem.Spec PyProof.Rows L2
/-! ## heaps: all but S is kept -/
def Kp (S : List Addr) (H H' : Hp) : Prop := ∀ b o, b ∉ S → H b = some o → H' b = some o
theorem Kp.trans {S : List Addr} {H H1 H2 : Hp} (a : Kp S H H1) (b : Kp S H1 H2) : Kp S H H2 := fun c o n e => b c o n (a c o n e)
theorem Kp.mono {S T : List Addr} {H H1 : Hp} (a : Kp S H H1) (h : ∀ x ∈ S, x ∈ T) : Kp T H H1 := fun c o n e => a c o (fun z => n (h c z)) e
theorem Kp.upd {S : List Addr} {H H1 : Hp} {p : Addr} {o : HO} (a : Kp S H H1) (h : p ∈ S) : Kp S H (upd H1 p o) := fun c u n e => by
  have hne : c ≠ p := fun z => n (by rw [z]; exact h)
  rw [upd_ne hne]
  exact a c u n e
theorem Kp.new {S : List Addr} {H H1 : Hp} {p : Addr} {o : HO} (a : Kp S H H1) (h : H1 p = none) : Kp S H (L2.upd H1 p o) := fun c u n e => by
  have e1 := a c u n e
  rw [upd_ne (ne_of_none e1 h)]
  exact e1
theorem Kp.free {S : List Addr} {H H1 : Hp} {p : Addr} (a : Kp S H H1) (hs : p ∉ S) (h : H1 p = none) : H p = none := by
  cases e : H p with
  | none => rfl
  | some o => rw [a p o hs e] at h; cases h
theorem Kp.of {H H1 : Hp} (S : List Addr) (a : Kp [] H H1) : Kp S H H1 := a.mono fun _ z => nomatch z
/-- a pool: what draws are made of -/
def Pool (H : Hp) (p : Addr) : Prop := ∃ a f c : Int, H p = some (.lst [.int a, .int f, .int c]) ∧ 0 ≤ a ∧ 0 ≤ c
theorem Pool.some {H : Hp} {p : Addr} (h : Pool H p) : ∃ o, H p = some o := let ⟨_, _, _, e, _⟩ := h; ⟨_, e⟩
theorem Pool.ne {H : Hp} {p q : Addr} (h : Pool H p) (hq : H q = none) : q ≠ p := fun z => by
  obtain ⟨_, _, _, e, _⟩ := h
  rw [z, e] at hq; cases hq
theorem Pool.upd {H : Hp} {p q : Addr} {o : HO} (h : Pool H p) (hn : p ≠ q) : Pool (upd H q o) p := by
  obtain ⟨a, f, c, e, z⟩ := h
  exact ⟨a, f, c, by rw [upd_ne hn]; exact e, z⟩
theorem Pool.new {H : Hp} {p q : Addr} {o : HO} (h : Pool H p) (hq : H q = none) : Pool (L2.upd H q o) p := h.upd (h.ne hq).symm
/-! ## data of depth n at most -/
/-! ## promises of the law's common defs -/
theorem atI_ints {ns : List Int} {i : Int} (h0 : 0 ≤ i) (h1 : i < ns.length) : atI (ns.map V.int) i = some (.int (ns.getD i.toNat 0)) := by
  refine atI_of h0 ?_
  rw [List.getElem?_map]
  have h : i.toNat < ns.length := by omega
  simp [List.getElem?_eq_getElem h, List.getD_eq_getElem?_getD]
/-! ## comprehensions: xs.filter g, mapped by f; the elements leave the heap (they are read behind any more of it) -/
section
variable {σ : L2.St} {H : Hp} {K : PySem.W.Frag} {D : Ends} {r : TS} {ta tv to : TE} {a C dx p : Addr} {fs : List (Str × V)} {f : Str} {x y v : V} {ts : TA} {ys : List V} {Q : VK}
theorem v_fld (h : Val ta σ H (.ref a)) (ho : H a = some (.ins C dx fs)) (hc : Cls K C) (hn : NoAttr K C f) (hl : fs.lookup f = some v) : Val (tFld K ta f) σ H v := val_fld h ho hc hn hl
end
/-! ## slices, sums of lists -/
section
variable {σ : L2.St} {H : Hp} {K : PySem.W.Frag} {te : TE} {a : Addr} {xs : List V} {lo hi : Option Int} {tl th : TO} {Q : VK}
theorem sz_lt {n : Nat} (h : n ≤ 1000000) : n < sizeLine := Nat.lt_of_le_of_lt h (by decide)
end
end Cl
/-! ## Exs -/
namespace Cl
open PySem PySem.Spec PyProof.Rows L2
/-! ## an own exception over ValueError whose __init__ says super().__init__(f'..') and stores its arguments -/
namespace Exs
open PySem.W PySem.Calls PySem.HandSPX
section
variable {prog : Program} {w : World} {A : Around} {E : Value → Shared → Prop} {h : Heap} {g : Array GenState} {d : Drawn} {t : Nat} {os : OsState}
variable {nm q : Str} {C N : Addr} {bs bm : List Value} {hdct : Bool} {sn : List Str} {sub : List Value} {ab : Bool} {col : Option Bool} {dd : Option Addr} {k0 k1 k2 k3 k5 : Option Value}
/-- the bound ValueError.__init__ called -/
theorem call_mw {u e t0 : Addr} {rest : List Value} {Q : Value → Shared → Prop}
    (hC : h.get? C = some (excClassObj nm q C N bs bm hdct sn sub ab col dd k0 k1 k2 k3 k5 "ValueError.__new__")) (he : h.get? e = some (excO C t0)) (hu : h.get? u = some (kxs_mw "ValueError.__init__" e)) (hrest : rest.length ≤ sizeLine)
    (hq : ∀ h' t1, (∀ b o, b ≠ e → h.get? b = some o → h'.get? b = some o) → h'.get? e = some (excO C t1) → Q .none ⟨h', g, d, t, os⟩) :
    wpAny (model prog w) A (call (.ref u) rest) Q E ⟨h, g, d, t, os⟩ := by
  refine wpAny_call (codeAny_of_tree ?_)
  show wpAny _ A.in1 (callAny (.ref u) ⟨rest, []⟩) _ _ _
  simp only [callAny]
  refine wpAny_bind (wpAny_load hu ?_)
  simp only [kxs_mw, show (Value.type "method-wrapper" == Value.type "method" || Value.type "method-wrapper" == Value.type "builtin_function_or_method" || Value.type "method-wrapper" == Value.type "method-wrapper") = true by decide, if_true]
  refine W.KFB.if_so (by decide) ?_
  refine wpAny_bind (PySem.ESX.check_bound F.excBase_ValueError hC he rfl ?_)
  refine wpAny_bind (wpAny_pure (wpAny_pure ?_))
  refine ⟨Code.quiet_builtin _ (by decide +kernel), codeAny_builtin F.excBase_ValueError.initEntry ?_⟩
  rw [Around.under_plainId F.excBase_ValueError.init.plain _]
  wp_walk
  refine hq _ h.objs.size (fun b o hb ho => ?_) ?_
  · rw [Heap.get?_update_other _ _ (Ne.symm hb)]
    exact Heap.get?_push_of_some _ ho
  · rw [Heap.get?_update_self _ (Heap.get?_push_of_some _ he) rfl]
    rfl
end
/-- a value that an f-string writes: a short text, an int of some size -/
def FmtV : V → Prop
  | .str y => y.length ≤ 1000
  | .int i => i.natAbs.log2 < 1920
  | _ => False
def Fmt (v : Value) : Prop := (∃ y tk, v = .str y tk ∧ y.length ≤ 1000) ∨ ∃ i tk, v = .int i tk ∧ i.natAbs.log2 < 1920
theorem FmtV.val {v : V} {u : Value} (h : FmtV v) (r : RelV v u) : Fmt u := by
  cases v with
  | str y => obtain ⟨tk, rfl⟩ := r; exact .inl ⟨y, tk, rfl, h⟩
  | int i => obtain ⟨tk, rfl⟩ := r; exact .inr ⟨i, tk, rfl, h⟩
  | _ => exact h.elim
section
variable {prog : Program} {w : World} {A : Around} {E : Value → Shared → Prop} {s : Shared} {env : Env} {m : Str → Option Value}
theorem ldE {x : Str} {pos : Pos} {v : Value} {Q : Value → Shared → Prop} {M : Model} (hn : s.heap.Ns env.locals m) (hv : m x = some v) (hk : env.scope.kind = .function) (hl : env.kindOf x = some .local) (hd : (x == ("__debug__" : Str)) = false) (h : Q v s) : wpAny M A (eval (.Name x pos) env) Q E s := wpAny_Name (wpAny_loadName_local hk hl hn hv h) hd
/-- {x} -/
theorem fmt_name {x : Str} {p1 p2 : Pos} {v : Value} {Q : Value → Shared → Prop} (hn : s.heap.Ns env.locals m) (hv : m x = some v) (hk : env.scope.kind = .function) (hl : env.kindOf x = some .local) (hd : (x == ("__debug__" : Str)) = false) (hf : Fmt v)
    (h : ∀ z tk tk', z.length ≤ 2000 → Q (.str z tk) { s with toks := tk' }) : wpAny (model prog w) A (eval (.FormattedValue (.Name x p1) (-1) none p2) env) Q E s := by
  refine wpAny_FormattedValue_plain (ldE hn hv hk hl hd ?_)
  rcases hf with ⟨y, tk, rfl, hz⟩ | ⟨i, tk, rfl, hz⟩
  · refine wpAny_formatField_str ?_ ?_ (Nat.le_trans hz (by decide))
    · have e := h y tk s.toks (by omega)
      exact e
    · exact h y _ _ (by omega)
  · exact wpAny_formatField_int hz (h _ _ _ (Nat.le_trans (int_text_len_1921 hz) (by decide)))
/-- f'text{x}' -/
theorem fs1 {x z0 : Str} {p0 p1 p2 p3 : Pos} {k0 : Nat} {v : Value} {Q : Value → Shared → Prop} (hn : s.heap.Ns env.locals m) (hv : m x = some v) (hk : env.scope.kind = .function) (hl : env.kindOf x = some .local) (hd : (x == ("__debug__" : Str)) = false) (hf : Fmt v) (hz : z0.length ≤ 1000)
    (h : ∀ z tk tk', Q (.str z tk) { s with toks := tk' }) : wpAny (model prog w) A (eval (.JoinedStr [.Constant (.str z0) k0 p0, .FormattedValue (.Name x p1) (-1) none p2] p3) env) Q E s := by
  refine wpAny_JoinedStr ?_
  have e0 : evalEach [.Constant (.str z0) k0 p0, .FormattedValue (.Name x p1) (-1) none p2] env = [eval (.Constant (.str z0) k0 p0) env, eval (.FormattedValue (.Name x p1) (-1) none p2) env] := by first | rfl | simp [evalEach]
  rw [e0]
  have l0 : (Str.empty ++ z0).length ≤ 1000 := by
    have e1 : (Str.empty ++ z0).length = Str.empty.length + z0.length := Str.length_append _ _
    have e2 : Str.empty.length = 0 := rfl
    omega
  refine Calls.Constant_str ⟨z0, _, rfl, Nat.le_trans l0 (by decide), ?_⟩
  refine fmt_name (s := { s with toks := s.toks + 1 }) hn hv hk hl hd hf fun z tk tk' hz' => ⟨z, tk, rfl, ?_, ?_⟩
  · have e1 : (Str.empty ++ z0 ++ z).length = (Str.empty ++ z0).length + z.length := Str.length_append _ _
    exact Nat.le_trans (show (Str.empty ++ z0 ++ z).length ≤ 3000 by omega) (by decide)
  · have e1 : (Str.empty ++ z0 ++ z).length = (Str.empty ++ z0).length + z.length := Str.length_append _ _
    exact ⟨Nat.le_trans (show (Str.empty ++ z0 ++ z).length ≤ 3000 by omega) (by decide), h _ _ _⟩
/-- f'text{x} {y}' -/
theorem fs2 {x y z0 z1 : Str} {p0 p1 p2 p3 p4 p5 p6 : Pos} {k0 k1 : Nat} {v u : Value} {Q : Value → Shared → Prop} (hn : s.heap.Ns env.locals m) (hv : m x = some v) (hu : m y = some u) (hk : env.scope.kind = .function) (hl : env.kindOf x = some .local) (hl2 : env.kindOf y = some .local) (hd : (x == ("__debug__" : Str)) = false) (hd2 : (y == ("__debug__" : Str)) = false)
    (hf : Fmt v) (hf2 : Fmt u) (hz : z0.length ≤ 1000) (hz1 : z1.length ≤ 1000)
    (h : ∀ z tk tk', Q (.str z tk) { s with toks := tk' }) : wpAny (model prog w) A (eval (.JoinedStr [.Constant (.str z0) k0 p0, .FormattedValue (.Name x p1) (-1) none p2, .Constant (.str z1) k1 p3, .FormattedValue (.Name y p4) (-1) none p5] p6) env) Q E s := by
  refine wpAny_JoinedStr ?_
  have e0 : evalEach [.Constant (.str z0) k0 p0, .FormattedValue (.Name x p1) (-1) none p2, .Constant (.str z1) k1 p3, .FormattedValue (.Name y p4) (-1) none p5] env = [eval (.Constant (.str z0) k0 p0) env, eval (.FormattedValue (.Name x p1) (-1) none p2) env, eval (.Constant (.str z1) k1 p3) env, eval (.FormattedValue (.Name y p4) (-1) none p5) env] := by first | rfl | simp [evalEach]
  rw [e0]
  have l0 : (Str.empty ++ z0).length ≤ 1000 := by
    have e1 : (Str.empty ++ z0).length = Str.empty.length + z0.length := Str.length_append _ _
    have e2 : Str.empty.length = 0 := rfl
    omega
  refine Calls.Constant_str ⟨z0, _, rfl, Nat.le_trans l0 (by decide), ?_⟩
  refine fmt_name (s := { s with toks := s.toks + 1 }) hn hv hk hl hd hf fun z tk tk' hz' => ⟨z, tk, rfl, ?_, ?_⟩
  · have e1 : (Str.empty ++ z0 ++ z).length = (Str.empty ++ z0).length + z.length := Str.length_append _ _
    exact Nat.le_trans (show (Str.empty ++ z0 ++ z).length ≤ 3000 by omega) (by decide)
  · have l1 : (Str.empty ++ z0 ++ z).length ≤ 3000 := by
      have e1 : (Str.empty ++ z0 ++ z).length = (Str.empty ++ z0).length + z.length := Str.length_append _ _
      omega
    have l2 : (Str.empty ++ z0 ++ z ++ z1).length ≤ 4000 := by
      have e1 : (Str.empty ++ z0 ++ z ++ z1).length = (Str.empty ++ z0 ++ z).length + z1.length := Str.length_append _ _
      omega
    refine Calls.Constant_str ⟨z1, _, rfl, Nat.le_trans l2 (by decide), ?_⟩
    refine fmt_name (s := { s with toks := tk' + 1 }) hn hu hk hl2 hd2 hf2 fun z' tk2 tk3 hz'' => ⟨z', tk2, rfl, ?_, ?_⟩
    · have e1 : (Str.empty ++ z0 ++ z ++ z1 ++ z').length = (Str.empty ++ z0 ++ z ++ z1).length + z'.length := Str.length_append _ _
      exact Nat.le_trans (show (Str.empty ++ z0 ++ z ++ z1 ++ z').length ≤ 6000 by omega) (by decide)
    · have e1 : (Str.empty ++ z0 ++ z ++ z1 ++ z').length = (Str.empty ++ z0 ++ z ++ z1).length + z'.length := Str.length_append _ _
      exact ⟨Nat.le_trans (show (Str.empty ++ z0 ++ z ++ z1 ++ z').length ≤ 6000 by omega) (by decide), h _ _ _⟩
end
/-- what the written part says of the class at C, its __init__ at fI (its cell cc holds C), of super -/
structure Tx (prog : Program) (K : Frag) (C fI cc cda : Addr) (qual : Str) (params : Arguments) (body : List Stmt) (scope : Scope) : Prop where
  cls : ∃ nm q N bs bm sn sub ab col dd k0 k1 k2 k3 k5, K.lookup C = some (excClassObj nm q C N bs bm true sn sub ab col dd k0 k1 k2 k3 k5 "ValueError.__new__") ∧ refsVE bm = true
  sa : findIn K (.ref C) "__setattr__" = some (some (.builtin "object.__setattr__"))
  iC : findIn K (.ref C) "__init__" = some (some (.ref fI))
  tC : typeIn K (.ref fI) = some (.type "function")
  kC : keepIn K (.ref C) = true
  exC : subIn K (.ref C) (.type "BaseException") = some true
  vE : subIn K (.ref C) (.type "ValueError") = some true
  tyC : typeIn K (.ref C) = some (.type "type")
  sup : ks_superIn K C C "__init__" = some (some (.builtin "ValueError.__init__"))
  self : mroIn K C (.ref C) = some true
  opq : nsIn K cStatics "thirdparty.any" = some none
  fn : ∃ (oc : Value) (od : Option Addr) (kV doc pm : Value) (an : Option Addr) (ct : Value) (osl : Array (Option Value)),
    K.lookup fI = some ⟨oc, od, .func (ksFn "__init__" qual params body scope .none kV doc pm an (.ref cda) ct cc), osl⟩ ∧ codeIn K (.ref cda) qual = true
  code : ∃ (cl : Value) (dd : Option Addr) (vs : Array Value) (sl : Array (Option Value)) (file : Str) (tf : Tok), K.lookup cda = some ⟨cl, dd, .fields vs, sl⟩ ∧ vs[2]? = some (.str file tf) ∧ ((prog.main.file : Str) == file) = true
  cell : ∃ (cl : Value) (dd : Option Addr) (sl : Array (Option Value)), K.lookup cc = some ⟨cl, dd, .cell (some (.ref C)), sl⟩
/-- what the text says of the scope -/
structure Sc (prog : Program) (params : Arguments) (scope : Scope) : Prop where
  par : ∃ ar : Arg, (params.posonlyargs ++ params.args).head? = some ar ∧ ar.arg = ("self" : Str)
  sup : scope.names.lookup ("super" : Str) = some .globalImplicit
  cls : scope.names.lookup ("__class__" : Str) = some .free
  slf : scope.names.lookup ("self" : Str) = some .local
  kind : scope.kind = .function
  top : (prog.main.scope.names.lookup ("super" : Str)).isSome = false
section
variable {prog : Program} {w : World} {A : Around} {E : Value → Shared → Prop} {K : Frag} {C fI cc cda L x t0 : Addr} {qual : Str} {params : Arguments} {body : List Stmt} {scope : Scope} {m mg mb : Str → Option Value}
theorem lookups_clsIn {nm q : Str} {N : Addr} {bs bm : List Value} {sn : List Str} {sub : List Value} {ab : Bool} {col : Option Bool} {dd : Option Addr} {k0 k1 k2 k3 k5 : Option Value} (hC : K.lookup C = some (excClassObj nm q C N bs bm true sn sub ab col dd k0 k1 k2 k3 k5 "ValueError.__new__")) :
    clsIn K C = some { name := nm, bases := bs, mro := .ref C :: bm, ns := N, qualname := q, hasDict := true, slotNames := sn, subclasses := sub, abstract := ab, collection := col, hasDel := false } := by unfold clsIn; rw [hC] <;> rfl
/-- super().__init__(e) -/
theorem sup_stmt {hp : Heap} {g : Array GenState} {d : Drawn} {t : Nat} {os : OsState} (T : Tx prog K C fI cc cda qual params body scope) (S : Sc prog params scope) (X : K.In hp) (Gg : hp.Ns mainGlobals mg) (Gs : mg "super" = none) (Gb : hp.Ns builtinsNs mb) (Gbs : mb "super" = bootBuiltins "super") (hboot : bootBuiltins "super" = some (.type "super"))
    (hn : hp.Ns L m) (hv : m "self" = some (.ref x)) (hx : hp.get? x = some (excO C t0)) (hxC : x ≠ C) {e : PySem.Expr} {p0 p1 p2 p3 p4 : Pos} {pl : Sem Bool} {Q : Flow → Shared → Prop}
    (he : ∀ (hp' : Heap) (t' : Nat) (Q' : Value → Shared → Prop), (∀ b o, hp.get? b = some o → hp'.get? b = some o) → (∀ z tk tk', Q' (.str z tk) ⟨hp', g, d, tk', os⟩) → wpAny (model prog w) A (eval e (ksEnv qual scope L fI (.ref cda) cc)) Q' E ⟨hp', g, d, t', os⟩)
    (hq : ∀ h' t1 tk', (∀ b o, b ≠ x → hp.get? b = some o → h'.get? b = some o) → h'.get? x = some (excO C t1) → Q .next ⟨h', g, d, tk', os⟩)
    (hst : starEach [e] (ksEnv qual scope L fI (.ref cda) cc) = (false, eval e (ksEnv qual scope L fI (.ref cda) cc)) :: starEach [] (ksEnv qual scope L fI (.ref cda) cc))
    (hsw : swapsWith (.Call (.Attribute (.Call (.Name "super" p0) [] [] p1) "__init__" p2) [e] [] p3) none p4.line (ksEnv qual scope L fI (.ref cda) cc) = pure false)
    (hev : eval (.Call (.Attribute (.Call (.Name "super" p0) [] [] p1) "__init__" p2) [e] [] p3) (ksEnv qual scope L fI (.ref cda) cc) = (do
      let ov ← attributeBase (.Call (.Name "super" p0) [] [] p1) "__init__" (ksEnv qual scope L fI (.ref cda) cc) (eval (.Call (.Name "super" p0) [] [] p1) (ksEnv qual scope L fI (.ref cda) cc))
      standAt p2.atName
      let (f, first) ← holding [ov] (getMethod ov "__init__" pl)
      callWith p3 f first (backTo p3 (starEach [e] (ksEnv qual scope L fI (.ref cda) cc))) [])) :
    PySem.wpAt (model prog w) A (.func body (ksEnv qual scope L fI (.ref cda) cc)) (exec (.Expr (.Call (.Attribute (.Call (.Name "super" p0) [] [] p1) "__init__" p2) [e] [] p3) p4) (ksEnv qual scope L fI (.ref cda) cc)) Q E ⟨hp, g, d, t, os⟩ := by
  obtain ⟨nm, q, N, bs, bm, sn, sub, ab, col, dd, k0, k1, k2, k3, k5, hC, hbm⟩ := T.cls
  obtain ⟨oc, od, kV, doc, pm, an, ct, osl, hf, _⟩ := T.fn
  obtain ⟨ccl, cdd, vs, csl, file, tf, hcode, hvs, hfile⟩ := T.code
  obtain ⟨cl, cld, csl2, hcell⟩ := T.cell
  obtain ⟨ar, har, hself⟩ := S.par
  have hcd := lookups_clsIn hC
  refine ks_wpAt_Expr_any (ks_wpAt_MethodCall (pl := pl) ?_ hev) (by simp [interactive, S.kind]) hsw
  refine ks_wpAt_super_base (env := ksEnv qual scope L fI (.ref cda) cc) S.sup S.cls (by decide +kernel) rfl (X _ _ hf) rfl har rfl (X _ _ hcode) rfl hvs hfile S.top ?_
  refine ks_loadName_global S.kind S.sup (loadGlobal_builtin (env := ksEnv qual scope L fI (.ref cda) cc) Gg Gs Gb (Gbs.trans hboot) ⟨rfl, ?_⟩)
  refine wpAny_loadName_free S.kind S.cls rfl ⟨_, X _ _ hcell, rfl⟩ ?_
  rw [hself]
  refine wpAny_loadName_local S.kind S.slf hn hv ?_
  refine ks_wpAny_isType_cls (X _ _ hC) rfl ⟨rfl, ?_⟩
  refine ks_wpAny_call_super (X _ _ hC) rfl hx rfl (fun c e => nomatch e) (looks_mroIn X T.self) (fun h1 e1 kk1 => ?_)
  have X1 : K.In h1 := X.keeps kk1
  have hx1 := kk1 _ _ hx
  have I1 : InstAt h1 x (excO C t0) C none := ⟨hx1, rfl, rfl, trivial⟩
  have hsm := T.sup
  unfold ks_superIn at hsm
  rw [hcd] at hsm
  refine kxs_getMethod kxs_ValueError e1 (looks_opaque X1 T.opq) (l₀ := .ref C :: bm) ?_ rfl X1 hsm (I1.type.andThen (looks_subIn X1 T.vE)) hxC (by decide +kernel) ?_
  · exact fun A Q E s k q => wpAny_bind ((looks_clsIn X1 hcd) A _ E s k (wpAny_pure q))
  have kk2 : ∀ b o, hp.get? b = some o → (h1.push (kxs_mw "ValueError.__init__" x)).get? b = some o := fun b o z => Heap.get?_push_of_some _ (kk1 b o z)
  have hu : (h1.push (kxs_mw "ValueError.__init__" x)).get? h1.objs.size = some (kxs_mw "ValueError.__init__" x) := Heap.get?_push_size _ rfl
  rw [hst]
  refine kxs_callWith (i := "ValueError.__init__") (x := x) (by show (false || (backTo p3 (starEach [] _)).any (·.1)) = false; rfl) (evalArgs_plain (spliced_cons ?_))
  refine he _ _ _ kk2 fun z tk tk' => ?_
  refine spliced_nil ⟨hu, ?_⟩
  refine call_mw (X1.keeps (fun b o z => Heap.get?_push_of_some _ z) _ _ hC) (kk2 _ _ hx) hu (by show 1 ≤ sizeLine; decide) fun h' t1 kk3 e3 => ?_
  exact hq h' t1 _ (fun b o hb z => kk3 b o hb (kk2 b o z)) e3
end
/-! ### the stores; what __init__ leaves -/
def mapV (fs : List (Str × Value)) : Str → Option Value
  | y => match fs with
    | [] => none
    | p :: r => if y = p.1 then some p.2 else mapV r y
theorem kept_but {K : Frag} {h h' : Heap} {x : Addr} (X : K.In h) (hx : K.lookup x = none) (k : ∀ b o, b ≠ x → h.get? b = some o → h'.get? b = some o) : K.In h' := fun a o e =>
  k a o (fun z => by rw [z, hx] at e; cases e) (X a o e)
structure End (h h' : Heap) (x C : Addr) (fs : List (Str × Value)) : Prop where
  keep : ∀ b o, b ≠ x → h.get? b = some o → h'.get? b = some o
  ex : ∃ t1 dx, h'.get? x = some { cls := .ref C, dict := some dx, data := .fields #[.ref t1, .none, .none, .none, .bool false, .none] } ∧ h.objs.size ≤ dx ∧ dx ≠ x ∧ h'.Ns1 dx (mapV fs)
section
variable {prog : Program} {w : World} {A : Around} {E : Value → Shared → Prop} {R : Result → Shared → Prop} {K : Frag} {C fI cc cda x t0 : Addr} {qual : Str} {params : Arguments} {body : List Stmt} {scope : Scope} {m mg mb : Str → Option Value} {hp : Heap} {g : Array GenState} {d : Drawn} {t : Nat} {os : OsState} {env : Env}
/-- self.f = f, the first -/
theorem store1 (T : Tx prog K C fI cc cda qual params body scope) (X : K.In hp) {L : Addr} (eL : env.locals = L) (hn : hp.Ns L m) {f : Str} {v : Value} (hv : m f = some v) (hs : m "self" = some (.ref x)) (hx : hp.get? x = some (excO C t0)) (hk : env.scope.kind = .function) (kf : env.kindOf f = some .local) (ks : env.kindOf "self" = some .local) (hd : (f == ("__debug__" : Str)) = false) (no : findIn K (.ref C) f = some none)
    {q1 q2 q3 q4 : Pos} {Q : Flow → Shared → Prop} (hsw : swapsWith (.Name f q3) (some (.Attribute (.Name "self" q1) f q2)) q4.line env = pure false)
    (hq : ∀ h' tk' dx, (∀ b o, b ≠ x → hp.get? b = some o → h'.get? b = some o) → hp.objs.size ≤ dx → dx ≠ x → h'.get? x = some { cls := .ref C, dict := some dx, data := .fields #[.ref t0, .none, .none, .none, .bool false, .none] } → h'.Ns1 dx (mapV [(f, v)]) → Q .next ⟨h', g, d, tk', os⟩) :
    wpAny (model prog w) A (exec (.Assign [.Attribute (.Name "self" q1) f q2] (.Name f q3) q4) env) Q E ⟨hp, g, d, t, os⟩ := by
  obtain ⟨nm, q, N, bs, bm, sn, sub, ab, col, dd, k0, k1, k2, k3, k5, hC, hbm⟩ := T.cls
  have hcl := lookups_clsIn hC
  subst eL
  refine plainObj_wpAny_Assign_Attribute ?_ hsw
  refine ldE (s := ⟨hp, g, d, t, os⟩) hn hv hk kf hd (ldE (s := ⟨hp, g, d, t, os⟩) hn hs hk ks (by decide +kernel) ?_)
  refine set_plain X (ox := excO C t0) (od := none) ⟨hx, rfl, rfl, trivial⟩ T.sa ?_
  refine exc_osa X hx hcl (show refsVE (.ref C :: bm) = true from hbm) rfl no (fun h' tk' dx k dn dne hx' hn' => ?_)
  exact hq h' tk' dx k dn dne hx' (by
    have e : (fun y => if y = f then some v else none) = mapV [(f, v)] := by funext y; rfl
    rw [← e]; exact hn')
/-- .. a further one -/
theorem store2 (T : Tx prog K C fI cc cda qual params body scope) (X : K.In hp) {L : Addr} (eL : env.locals = L) (hn : hp.Ns L m) {f f1 : Str} {v v1 : Value} {dx : Addr} (hv : m f = some v) (hs : m "self" = some (.ref x)) (hx : hp.get? x = some { cls := .ref C, dict := some dx, data := .fields #[.ref t0, .none, .none, .none, .bool false, .none] }) (hns : hp.Ns1 dx (mapV [(f1, v1)])) (hk : env.scope.kind = .function) (kf : env.kindOf f = some .local) (ks : env.kindOf "self" = some .local) (hd : (f == ("__debug__" : Str)) = false) (no : findIn K (.ref C) f = some none)
    {q1 q2 q3 q4 : Pos} {Q : Flow → Shared → Prop} (hsw : swapsWith (.Name f q3) (some (.Attribute (.Name "self" q1) f q2)) q4.line env = pure false)
    (hq : ∀ h' tk', (∀ b o, b ≠ dx → hp.get? b = some o → h'.get? b = some o) → h'.Ns1 dx (mapV [(f, v), (f1, v1)]) → Q .next ⟨h', g, d, tk', os⟩) :
    wpAny (model prog w) A (exec (.Assign [.Attribute (.Name "self" q1) f q2] (.Name f q3) q4) env) Q E ⟨hp, g, d, t, os⟩ := by
  obtain ⟨nm, q, N, bs, bm, sn, sub, ab, col, dd, k0, k1, k2, k3, k5, hC, hbm⟩ := T.cls
  have hcl := lookups_clsIn hC
  subst eL
  have hw : Within (mapV [(f1, v1)]) [f1] := fun y hy => by
    by_cases e : y = f1
    · simp [e]
    · exact absurd (show mapV [(f1, v1)] y = none by show (if y = f1 then _ else none) = none; rw [if_neg e]) hy
  obtain ⟨oD, _, _, hoD, _, _⟩ := hns.count hw
  refine plainObj_wpAny_Assign_Attribute ?_ hsw
  refine ldE (s := ⟨hp, g, d, t, os⟩) hn hv hk kf hd (ldE (s := ⟨hp, g, d, t, os⟩) hn hs hk ks (by decide +kernel) ?_)
  refine set_plain X (ox := { cls := .ref C, dict := some dx, data := .fields #[.ref t0, .none, .none, .none, .bool false, .none] }) (od := some oD) ⟨hx, rfl, rfl, hoD⟩ T.sa ?_
  refine PySem.OEX.osa_old X hx hns hw (by simp) hcl (show refsVE (.ref C :: bm) = true from hbm) rfl no (fun h' tk' k hn' => ?_)
  exact hq h' tk' k (by
    have e : (fun y => if y = f then some v else mapV [(f1, v1)] y) = mapV [(f, v), (f1, v1)] := by funext y; rfl
    rw [← e]; exact hn')
end
/-! ### the bodies -/
def body1 (f z0 : Str) (k0 : Nat) (p0 p1 p2 p3 p4 p5 p6 p7 p8 q1 q2 q3 q4 : Pos) : List Stmt :=
  [.Expr (.Call (.Attribute (.Call (.Name "super" p0) [] [] p1) "__init__" p2) [.JoinedStr [.Constant (.str z0) k0 p5, .FormattedValue (.Name f p6) (-1) none p7] p8] [] p3) p4,
   .Assign [.Attribute (.Name "self" q1) f q2] (.Name f q3) q4]
def body2 (f1 f2 z0 z1 : Str) (k0 k1 : Nat) (p0 p1 p2 p3 p4 p5 p6 p7 p8 p9 p10 p11 q1 q2 q3 q4 r1 r2 r3 r4 : Pos) : List Stmt :=
  [.Expr (.Call (.Attribute (.Call (.Name "super" p0) [] [] p1) "__init__" p2) [.JoinedStr [.Constant (.str z0) k0 p5, .FormattedValue (.Name f1 p6) (-1) none p7, .Constant (.str z1) k1 p9, .FormattedValue (.Name f2 p10) (-1) none p11] p8] [] p3) p4,
   .Assign [.Attribute (.Name "self" q1) f1 q2] (.Name f1 q3) q4, .Assign [.Attribute (.Name "self" r1) f2 r2] (.Name f2 r3) r4]
section
variable {prog : Program} {w : World} {A : Around} {R : Result → Shared → Prop} {K : Frag} {C fI cc cda x t0 : Addr} {qual : Str} {params : Arguments} {scope : Scope} {mg mb : Str → Option Value} {hp : Heap} {g : Array GenState} {d : Drawn} {t : Nat} {os : OsState}
/-- the state around: the module's names, the built-ins -/
structure Ar (hp : Heap) (mg mb : Str → Option Value) : Prop where
  glob : hp.Ns mainGlobals mg
  sup : mg "super" = none
  blt : hp.Ns builtinsNs mb
  bsup : mb "super" = bootBuiltins "super"
  lim : hp.NoLimit
theorem boot_super : bootBuiltins "super" = some (.type "super") := by decide +kernel
theorem init1 {f z0 : Str} {k0 : Nat} {p0 p1 p2 p3 p4 p5 p6 p7 p8 q1 q2 q3 q4 : Pos} {v : Value} (T : Tx prog K C fI cc cda qual params (body1 f z0 k0 p0 p1 p2 p3 p4 p5 p6 p7 p8 q1 q2 q3 q4) scope) (S : Sc prog params scope) (no : findIn K (.ref C) f = some none) (kf : scope.names.lookup f = some .local) (nf : ¬ (("self" : Str) = f)) (hd : (f == ("__debug__" : Str)) = false) (hz : z0.length ≤ 1000)
    (hcell : ∀ y ∈ scope.names, y.2 ≠ .cell) (hco : scope.isCoroutine = false) (hgen : scope.isGenerator = false)
    (hbind : ∀ (kV doc pm : Value) (an : Option Addr) (ct : Value), bindArgs (ksFn "__init__" qual params (body1 f z0 k0 p0 p1 p2 p3 p4 p5 p6 p7 p8 q1 q2 q3 q4) scope .none kV doc pm an (.ref cda) ct cc) ⟨[.ref x, v], []⟩ = pure [(("self" : Str), .ref x), (f, v)])
    (hst : ∀ env : Env, starEach [.JoinedStr [.Constant (.str z0) k0 p5, .FormattedValue (.Name f p6) (-1) none p7] p8] env = (false, eval (.JoinedStr [.Constant (.str z0) k0 p5, .FormattedValue (.Name f p6) (-1) none p7] p8) env) :: starEach [] env)
    (hsw : ∀ L, swapsWith (.Call (.Attribute (.Call (.Name "super" p0) [] [] p1) "__init__" p2) [.JoinedStr [.Constant (.str z0) k0 p5, .FormattedValue (.Name f p6) (-1) none p7] p8] [] p3) none p4.line (ksEnv qual scope L fI (.ref cda) cc) = pure false)
    (hsw2 : ∀ L, swapsWith (.Name f q3) (some (.Attribute (.Name "self" q1) f q2)) q4.line (ksEnv qual scope L fI (.ref cda) cc) = pure false)
    {pl : Sem Bool} (hev : ∀ L, eval (.Call (.Attribute (.Call (.Name "super" p0) [] [] p1) "__init__" p2) [.JoinedStr [.Constant (.str z0) k0 p5, .FormattedValue (.Name f p6) (-1) none p7] p8] [] p3) (ksEnv qual scope L fI (.ref cda) cc) = (do
      let ov ← attributeBase (.Call (.Name "super" p0) [] [] p1) "__init__" (ksEnv qual scope L fI (.ref cda) cc) (eval (.Call (.Name "super" p0) [] [] p1) (ksEnv qual scope L fI (.ref cda) cc))
      standAt p2.atName
      let (fm, first) ← holding [ov] (getMethod ov "__init__" pl)
      callWith p3 fm first (backTo p3 (starEach [.JoinedStr [.Constant (.str z0) k0 p5, .FormattedValue (.Name f p6) (-1) none p7] p8] (ksEnv qual scope L fI (.ref cda) cc))) []))
    (hf : Fmt v) (X : K.In hp) (G : Ar hp mg mb) (hx : hp.get? x = some (excO C t0)) (hnx : K.lookup x = none) (hxC : x ≠ C) (hroom : A.depth < recursionLimit)
    (hq : ∀ h' tk', End hp h' x C [(f, v)] → R (.ok (.ret .none)) ⟨h', g, d, tk', os⟩) :
    codeAny (model prog w) A (.call (.ref fI) ⟨[.ref x, v], []⟩) R ⟨hp, g, d, t, os⟩ := by
  obtain ⟨oc, od, kV, doc, pm, an, ct, osl, hfn, hcd⟩ := T.fn
  refine ks_codeAny_call_defAt (s := ⟨hp, g, d, t, os⟩) (fd := ksFn "__init__" qual params (body1 f z0 k0 p0 p1 p2 p3 p4 p5 p6 p7 p8 q1 q2 q3 q4) scope .none kV doc pm an (.ref cda) ct cc) (body := body1 f z0 k0 p0 p1 p2 p3 p4 p5 p6 p7 p8 q1 q2 q3 q4) (binds := [(("self" : Str), .ref x), (f, v)]) hroom (X _ _ hfn) rfl G.lim (codeRec_of X hcd) rfl (BindsTo.of_eq (hbind kV doc pm an ct)) hcell (fun y hy => ?_) (fun h0 hns hk0 => ?_) hco hgen S.kind
  · rcases List.mem_cons.mp hy with rfl | hy
    · exact S.slf
    · rcases List.mem_cons.mp hy with rfl | hy
      · exact kf
      · cases hy
  have ms : (List.lookup ("self" : Str) ([(("self" : Str), Value.ref x), (f, v)].reverse)) = some (.ref x) := by
    show List.lookup ("self" : Str) [(f, v), (("self" : Str), Value.ref x)] = _
    have e : (("self" : Str) == f) = false := by simpa using nf
    simp [List.lookup, e]
  have mf : (List.lookup f ([(("self" : Str), Value.ref x), (f, v)].reverse)) = some v := by
    show List.lookup f [(f, v), (("self" : Str), Value.ref x)] = _
    simp [List.lookup]
  have lt : hp.objs.size ≠ x := Nat.ne_of_gt (Heap.lt_size hx)
  refine ks_wpAt_execs_cons ?_
  refine sup_stmt (m := fun y => List.lookup y ([(("self" : Str), Value.ref x), (f, v)].reverse)) T S (X.keeps hk0) (G.glob.keeps hk0) G.sup (G.blt.keeps hk0) G.bsup boot_super hns ms (hk0 _ _ hx) hxC (pl := pl) (fun hp' t' Q' kk hz' => ?_) (fun h1 t1 tk1 kk1 hx1 => ?_) (hst _) (hsw _) (hev _)
  · obtain ⟨oL, es, ep, hoL, r⟩ := hns
    exact fs1 (m := fun y => List.lookup y ([(("self" : Str), Value.ref x), (f, v)].reverse)) ⟨oL, es, ep, kk _ _ hoL, r⟩ mf S.kind kf hd hf hz hz'
  · have X1 : K.In h1 := kept_but (X.keeps hk0) hnx kk1
    have hn1 : h1.Ns hp.objs.size (fun y => List.lookup y ([(("self" : Str), Value.ref x), (f, v)].reverse)) := by
      obtain ⟨oL, es, ep, hoL, r⟩ := hns
      exact ⟨oL, es, ep, kk1 _ _ lt hoL, r⟩
    show PySem.wpAt _ _ _ (execs _ _) _ _ _
    refine wpAt_of_wpAny (wpAny_execs_cons ?_)
    refine store1 (env := ksEnv qual scope hp.objs.size fI (.ref cda) cc) (m := fun y => List.lookup y ([(("self" : Str), Value.ref x), (f, v)].reverse)) T X1 rfl hn1 mf ms hx1 S.kind kf S.slf hd no (hsw2 _) fun h2 tk2 dx kk2 dn dne hx2 hn2 => ?_
    refine wpAny_execs_nil ?_
    have z : hp.objs.size < h0.objs.size := hns.lt
    have z1 : hp.objs.size < h1.objs.size := hn1.lt
    exact hq h2 tk2 ⟨fun b o hb e => kk2 b o hb (kk1 b o hb (hk0 b o e)), t1, dx, hx2, Nat.le_trans (Nat.le_of_lt z1) dn, dne, hn2⟩
theorem init2 {f f2 z0 z1 : Str} {k0 k1 : Nat} {p0 p1 p2 p3 p4 p5 p6 p7 p8 p9 p10 p11 q1 q2 q3 q4 r1 r2 r3 r4 : Pos} {v v2 : Value} (T : Tx prog K C fI cc cda qual params (body2 f f2 z0 z1 k0 k1 p0 p1 p2 p3 p4 p5 p6 p7 p8 p9 p10 p11 q1 q2 q3 q4 r1 r2 r3 r4) scope) (S : Sc prog params scope) (no : findIn K (.ref C) f = some none) (no2 : findIn K (.ref C) f2 = some none) (kf : scope.names.lookup f = some .local) (kf2 : scope.names.lookup f2 = some .local) (nf : ¬ (("self" : Str) = f)) (nf2 : ¬ (("self" : Str) = f2)) (nff : ¬ (f = f2)) (hd : (f == ("__debug__" : Str)) = false) (hd2 : (f2 == ("__debug__" : Str)) = false) (hz : z0.length ≤ 1000) (hz1 : z1.length ≤ 1000)
    (hcell : ∀ y ∈ scope.names, y.2 ≠ .cell) (hco : scope.isCoroutine = false) (hgen : scope.isGenerator = false)
    (hbind : ∀ (kV doc pm : Value) (an : Option Addr) (ct : Value), bindArgs (ksFn "__init__" qual params (body2 f f2 z0 z1 k0 k1 p0 p1 p2 p3 p4 p5 p6 p7 p8 p9 p10 p11 q1 q2 q3 q4 r1 r2 r3 r4) scope .none kV doc pm an (.ref cda) ct cc) ⟨[.ref x, v, v2], []⟩ = pure [(("self" : Str), .ref x), (f, v), (f2, v2)])
    (hst : ∀ env : Env, starEach [.JoinedStr [.Constant (.str z0) k0 p5, .FormattedValue (.Name f p6) (-1) none p7, .Constant (.str z1) k1 p9, .FormattedValue (.Name f2 p10) (-1) none p11] p8] env = (false, eval (.JoinedStr [.Constant (.str z0) k0 p5, .FormattedValue (.Name f p6) (-1) none p7, .Constant (.str z1) k1 p9, .FormattedValue (.Name f2 p10) (-1) none p11] p8) env) :: starEach [] env)
    (hsw : ∀ L, swapsWith (.Call (.Attribute (.Call (.Name "super" p0) [] [] p1) "__init__" p2) [.JoinedStr [.Constant (.str z0) k0 p5, .FormattedValue (.Name f p6) (-1) none p7, .Constant (.str z1) k1 p9, .FormattedValue (.Name f2 p10) (-1) none p11] p8] [] p3) none p4.line (ksEnv qual scope L fI (.ref cda) cc) = pure false)
    (hsw2 : ∀ L, swapsWith (.Name f q3) (some (.Attribute (.Name "self" q1) f q2)) q4.line (ksEnv qual scope L fI (.ref cda) cc) = pure false)
    (hsw3 : ∀ L, swapsWith (.Name f2 r3) (some (.Attribute (.Name "self" r1) f2 r2)) r4.line (ksEnv qual scope L fI (.ref cda) cc) = pure false)
    {pl : Sem Bool} (hev : ∀ L, eval (.Call (.Attribute (.Call (.Name "super" p0) [] [] p1) "__init__" p2) [.JoinedStr [.Constant (.str z0) k0 p5, .FormattedValue (.Name f p6) (-1) none p7, .Constant (.str z1) k1 p9, .FormattedValue (.Name f2 p10) (-1) none p11] p8] [] p3) (ksEnv qual scope L fI (.ref cda) cc) = (do
      let ov ← attributeBase (.Call (.Name "super" p0) [] [] p1) "__init__" (ksEnv qual scope L fI (.ref cda) cc) (eval (.Call (.Name "super" p0) [] [] p1) (ksEnv qual scope L fI (.ref cda) cc))
      standAt p2.atName
      let (fm, first) ← holding [ov] (getMethod ov "__init__" pl)
      callWith p3 fm first (backTo p3 (starEach [.JoinedStr [.Constant (.str z0) k0 p5, .FormattedValue (.Name f p6) (-1) none p7, .Constant (.str z1) k1 p9, .FormattedValue (.Name f2 p10) (-1) none p11] p8] (ksEnv qual scope L fI (.ref cda) cc))) []))
    (hf : Fmt v) (hf2 : Fmt v2) (X : K.In hp) (G : Ar hp mg mb) (hx : hp.get? x = some (excO C t0)) (hnx : K.lookup x = none) (hxC : x ≠ C) (hroom : A.depth < recursionLimit)
    (hq : ∀ h' tk', End hp h' x C [(f2, v2), (f, v)] → R (.ok (.ret .none)) ⟨h', g, d, tk', os⟩) :
    codeAny (model prog w) A (.call (.ref fI) ⟨[.ref x, v, v2], []⟩) R ⟨hp, g, d, t, os⟩ := by
  obtain ⟨oc, od, kV, doc, pm, an, ct, osl, hfn, hcd⟩ := T.fn
  refine ks_codeAny_call_defAt (s := ⟨hp, g, d, t, os⟩) (fd := ksFn "__init__" qual params (body2 f f2 z0 z1 k0 k1 p0 p1 p2 p3 p4 p5 p6 p7 p8 p9 p10 p11 q1 q2 q3 q4 r1 r2 r3 r4) scope .none kV doc pm an (.ref cda) ct cc) (body := body2 f f2 z0 z1 k0 k1 p0 p1 p2 p3 p4 p5 p6 p7 p8 p9 p10 p11 q1 q2 q3 q4 r1 r2 r3 r4) (binds := [(("self" : Str), .ref x), (f, v), (f2, v2)]) hroom (X _ _ hfn) rfl G.lim (codeRec_of X hcd) rfl (BindsTo.of_eq (hbind kV doc pm an ct)) hcell (fun y hy => ?_) (fun h0 hns hk0 => ?_) hco hgen S.kind
  · rcases List.mem_cons.mp hy with rfl | hy
    · exact S.slf
    · rcases List.mem_cons.mp hy with rfl | hy
      · exact kf
      · rcases List.mem_cons.mp hy with rfl | hy
        · exact kf2
        · cases hy
  have ms : (List.lookup ("self" : Str) ([(("self" : Str), Value.ref x), (f, v), (f2, v2)].reverse)) = some (.ref x) := by
    show List.lookup ("self" : Str) [(f2, v2), (f, v), (("self" : Str), Value.ref x)] = _
    have e : (("self" : Str) == f) = false := by simpa using nf
    have e2 : (("self" : Str) == f2) = false := by simpa using nf2
    simp [List.lookup, e, e2]
  have mf : (List.lookup f ([(("self" : Str), Value.ref x), (f, v), (f2, v2)].reverse)) = some v := by
    show List.lookup f [(f2, v2), (f, v), (("self" : Str), Value.ref x)] = _
    have e : (f == f2) = false := by simpa using nff
    simp [List.lookup, e]
  have mf2 : (List.lookup f2 ([(("self" : Str), Value.ref x), (f, v), (f2, v2)].reverse)) = some v2 := by
    show List.lookup f2 [(f2, v2), (f, v), (("self" : Str), Value.ref x)] = _
    simp [List.lookup]
  have lt : hp.objs.size ≠ x := Nat.ne_of_gt (Heap.lt_size hx)
  refine ks_wpAt_execs_cons ?_
  refine sup_stmt (m := fun y => List.lookup y ([(("self" : Str), Value.ref x), (f, v), (f2, v2)].reverse)) T S (X.keeps hk0) (G.glob.keeps hk0) G.sup (G.blt.keeps hk0) G.bsup boot_super hns ms (hk0 _ _ hx) hxC (pl := pl) (fun hp' t' Q' kk hz' => ?_) (fun h1 t1 tk1 kk1 hx1 => ?_) (hst _) (hsw _) (hev _)
  · obtain ⟨oL, es, ep, hoL, r⟩ := hns
    exact fs2 (m := fun y => List.lookup y ([(("self" : Str), Value.ref x), (f, v), (f2, v2)].reverse)) ⟨oL, es, ep, kk _ _ hoL, r⟩ mf mf2 S.kind kf kf2 hd hd2 hf hf2 hz hz1 hz'
  · have X1 : K.In h1 := kept_but (X.keeps hk0) hnx kk1
    have hn1 : h1.Ns hp.objs.size (fun y => List.lookup y ([(("self" : Str), Value.ref x), (f, v), (f2, v2)].reverse)) := by
      obtain ⟨oL, es, ep, hoL, r⟩ := hns
      exact ⟨oL, es, ep, kk1 _ _ lt hoL, r⟩
    show PySem.wpAt _ _ _ (execs _ _) _ _ _
    refine wpAt_of_wpAny (wpAny_execs_cons ?_)
    refine store1 (env := ksEnv qual scope hp.objs.size fI (.ref cda) cc) (m := fun y => List.lookup y ([(("self" : Str), Value.ref x), (f, v), (f2, v2)].reverse)) T X1 rfl hn1 mf ms hx1 S.kind kf S.slf hd no (hsw2 _) fun h2 tk2 dx kk2 dn dne hx2 hn2 => ?_
    have z1 : hp.objs.size < h1.objs.size := hn1.lt
    have X2 : K.In h2 := kept_but X1 hnx kk2
    have nLd : hp.objs.size ≠ dx := Nat.ne_of_lt (Nat.lt_of_lt_of_le z1 dn)
    have hn2' : h2.Ns hp.objs.size (fun y => List.lookup y ([(("self" : Str), Value.ref x), (f, v), (f2, v2)].reverse)) := by
      obtain ⟨oL, es, ep, hoL, r⟩ := hn1
      exact ⟨oL, es, ep, kk2 _ _ lt hoL, r⟩
    show wpAny _ _ (execs _ _) _ _ _
    refine wpAny_execs_cons ?_
    refine store2 (env := ksEnv qual scope hp.objs.size fI (.ref cda) cc) (m := fun y => List.lookup y ([(("self" : Str), Value.ref x), (f, v), (f2, v2)].reverse)) T X2 rfl hn2' mf2 ms hx2 hn2 S.kind kf2 S.slf hd2 no2 (hsw3 _) fun h3 tk3 kk3 hn3 => ?_
    refine wpAny_execs_nil ?_
    have dbig : hp.objs.size ≤ dx := Nat.le_trans (Nat.le_of_lt z1) dn
    have nb : ∀ b o, hp.get? b = some o → b ≠ dx := fun b o e => Nat.ne_of_lt (Nat.lt_of_lt_of_le (Heap.lt_size e) dbig)
    exact hq h3 tk3 ⟨fun b o hb e => kk3 b o (nb b o e) (kk2 b o hb (kk1 b o hb (hk0 b o e))), t1, dx, kk3 _ _ (Ne.symm dne) hx2, dbig, dne, hn3⟩
end
/-! ### C(v, ..) -/
def InitOk (prog : Program) (w : World) (K : Frag) (C fI : Addr) (vs : List Value) (fs : List (Str × Value)) : Prop :=
  ∀ (A : Around) (R : Result → Shared → Prop) (hp : Heap) (g : Array GenState) (d : Drawn) (t : Nat) (os : OsState) (mg mb : Str → Option Value) (x t0 : Addr), K.In hp → Ar hp mg mb → hp.get? x = some (excO C t0) → K.lookup x = none → x ≠ C → A.depth < recursionLimit →
    (∀ h' tk', End hp h' x C fs → R (.ok (.ret .none)) ⟨h', g, d, tk', os⟩) → codeAny (model prog w) A (.call (.ref fI) ⟨.ref x :: vs, []⟩) R ⟨hp, g, d, t, os⟩
/-- a made exception -/
structure Made (h h' : Heap) (e C d : Addr) (fs : List (Str × Value)) : Prop where
  keep : ∀ b o, h.get? b = some o → h'.get? b = some o
  new : h.objs.size ≤ e
  obj : ∃ oe vs, h'.get? e = some oe ∧ oe.cls = .ref C ∧ oe.dict = some d ∧ oe.data = .fields vs ∧ vs[1]? = some .none
  dbig : h.objs.size ≤ d
  dne : d ≠ e
  ns : h'.Ns1 d (mapV fs)
/-- the class's facts that making and raising ask -/
structure Cl0 (K : Frag) (C fI : Addr) : Prop where
  cls : ∃ nm q N bs bm sn sub ab col dd k0 k1 k2 k3 k5, K.lookup C = some (excClassObj nm q C N bs bm true sn sub ab col dd k0 k1 k2 k3 k5 "ValueError.__new__") ∧ refsVE bm = true
  iC : findIn K (.ref C) "__init__" = some (some (.ref fI))
  tC : typeIn K (.ref fI) = some (.type "function")
  kC : keepIn K (.ref C) = true
  exC : subIn K (.ref C) (.type "BaseException") = some true
  tyC : typeIn K (.ref C) = some (.type "type")
theorem made {prog : Program} {w : World} {A : Around} {R : Result → Shared → Prop} {s : Shared} {K : Frag} {C fI : Addr} {vs : List Value} {fs : List (Str × Value)} {mg mb : Str → Option Value} (T : Cl0 K C fI) (I : InitOk prog w K C fI vs fs) (X : K.In s.heap) (G : Ar s.heap mg mb) (hv : vs.length ≤ sizeLine) (hroom : A.depth + 1 < recursionLimit)
    (hq : ∀ h' tk e d, Made s.heap h' e C d fs → R (.ok (.ret (.ref e))) { s with heap := h', toks := tk }) :
    codeAny (model prog w) A (.call (.ref C) ⟨vs, []⟩) R s := by
  obtain ⟨nm, q, N, bs, bm, sn, sub, ab, col, dd, k0, k1, k2, k3, k5, hC, hbm⟩ := T.cls
  obtain ⟨hp, g, dr, tk, os⟩ := s
  have k : ∀ b o, hp.get? b = some o → ((hp.push (kdv_tup vs)).push (excO C hp.objs.size)).get? b = some o := fun b o e => Heap.get?_push_of_some _ (Heap.get?_push_of_some _ e)
  have hget : ((hp.push (kdv_tup vs)).push (excO C hp.objs.size)).get? (hp.objs.size + 1) = some (excO C hp.objs.size) := by heap_get
  have hnx : K.lookup (hp.objs.size + 1) = none := by
    cases e : K.lookup (hp.objs.size + 1) with
    | none => rfl
    | some o =>
      have z : hp.get? (hp.objs.size + 1) = some o := X _ _ e
      exact absurd (Nat.lt_of_succ_lt (Heap.lt_size z)) (Nat.lt_irrefl _)
  have hxC : hp.objs.size + 1 ≠ C := fun z => by rw [z, hC] at hnx; cases hnx
  refine call_own F.excBase_ValueError (fun X => refsVE_contains X bm hbm) (X _ _ hC) (looks_findIn X T.iC) (fun self => bind_fn X self T.tC) hv ?_
  refine I _ _ _ g dr tk os mg mb _ _ (X.keeps k) ⟨G.glob.keeps k, G.sup, G.blt.keeps k, G.bsup, G.lim.keeps k⟩ hget hnx hxC ?_ fun h' tk' ⟨k', t1, dx, hx, dn, dne, hns⟩ => ?_
  · show A.depth + 1 < recursionLimit
    exact hroom
  · have old : ∀ b o, hp.get? b = some o → h'.get? b = some o := fun b o e => k' b o (Nat.ne_of_lt (Nat.lt_succ_of_lt (Heap.lt_size e))) (k b o e)
    have z : hp.objs.size + 1 + 1 ≤ dx := by
      first
        | (simpa only [Heap.size_push] using dn)
        | exact dn
        | (have q := dn; rw [Heap.size_push, Heap.size_push] at q; exact q)
    exact ⟨rfl, hq h' tk' (hp.objs.size + 1) dx ⟨old, Nat.le_succ _, ⟨_, _, hx, rfl, rfl, rfl, rfl⟩, Nat.le_trans (Nat.le_trans (Nat.le_succ _) (Nat.le_succ _)) z, dne, hns⟩⟩
end Exs
/-! ## the rule -/
/-- an own exception class named x, whose __init__ stores ns -/
structure ExcK (prog : Program) (w : World) (K : PySem.W.Frag) (mg : Str → Option Value) (x : Str) (ns : List Str) : Prop where
  gC : mg x = some (.ref (He.ga K x))
  sup : mg "super" = none
  cl : Exs.Cl0 K (He.ga K x) (He.ma K (He.ga K x) "__init__")
  ini : ∀ us : List Value, us.length = ns.length → (∀ u ∈ us, Exs.Fmt u) → Exs.InitOk prog w K (He.ga K x) (He.ma K (He.ga K x) "__init__") us (ns.zip us).reverse
def tMkE (C : Addr) (ns : List Str) (ta : TA) : L2.St → Hp → XK → Prop := fun σ H Q => ta σ H fun vs H1 => vs.length = ns.length ∧ vs.length ≤ 1000 ∧ (∀ v ∈ vs, Exs.FmtV v) ∧ ∀ d, H1 d = none → Q (.ref C) (some d) (upd H1 d (.xd (ns.zip vs).reverse))
theorem relO_map : ∀ {fs : List (Str × V)} {us : List (Str × Value)}, Paired (fun (p : Str × V) (q : Str × Value) => p.1 = q.1 ∧ RelV p.2 q.2) fs us → ∀ f, RelO (fs.lookup f) (Exs.mapV us f)
  | _, _, .nil, f => True.intro
  | (a, v) :: fs, (b, u) :: us, .cons r t, f => by
    obtain ⟨e, r⟩ := r
    have e : a = b := e
    subst e
    rw [lookup_put]
    show RelO _ (if f = a then some u else Exs.mapV us f)
    by_cases h : f = a
    · rw [if_pos h, if_pos h]; exact r
    · rw [if_neg h, if_neg h]; exact relO_map t f
theorem paired_snoc {α β : Type} {F : α → β → Prop} : ∀ {as : List α} {bs : List β} {a : α} {b : β}, Paired F as bs → F a b → Paired F (as ++ [a]) (bs ++ [b])
  | _, _, _, _, .nil, h => .cons h .nil
  | _, _, _, _, .cons r t, h => .cons r (paired_snoc t h)
theorem paired_rev {α β : Type} {F : α → β → Prop} : ∀ {as : List α} {bs : List β}, Paired F as bs → Paired F as.reverse bs.reverse
  | _, _, .nil => .nil
  | _, _, .cons r t => by
    rw [List.reverse_cons, List.reverse_cons]
    exact paired_snoc (paired_rev t) r
theorem paired_zip : ∀ {ns : List Str} {vs : List V} {us : List Value}, Vals vs us → Paired (fun (p : Str × V) (q : Str × Value) => p.1 = q.1 ∧ RelV p.2 q.2) (ns.zip vs) (ns.zip us)
  | [], _, _, _ => .nil
  | n :: ns, _, _, .nil => .nil
  | n :: ns, _, _, .cons r t => .cons ⟨rfl, r⟩ (paired_zip t)
theorem vals_fmt : ∀ {vs : List V} {us : List Value}, Vals vs us → (∀ v ∈ vs, Exs.FmtV v) → ∀ u ∈ us, Exs.Fmt u
  | _, _, .nil, _, u, hu => nomatch hu
  | v :: vs, u :: us, .cons r t, h, u', hu => by
    rcases List.mem_cons.mp hu with rfl | hu
    · exact (h v List.mem_cons_self).val r
    · exact vals_fmt t (fun v hv => h v (List.mem_cons_of_mem _ hv)) u' hu
theorem pmk_exs {X : Cx} {x : Str} {ns : List Str} {e : Expr} {es : List Expr} {ta : TA} {p pos : Pos} {k : Nat} (T : ExcK X.prog X.w X.K X.mg x ns) (hr : Room k X.A) (hg : Gl X x) (ha : PA X (e :: es) ta) (hdb : (x == ("__debug__" : Str)) = false := by decide)
    (he : starEach (e :: es) X.env = (false, eval e X.env) :: starEach es X.env := by rfl) (hpl : (backTo pos (starEach es X.env)).any (·.1) = false := by rfl) : PMk X (.Call (.Name x p) (e :: es) [] pos) (tMkE (He.ga X.K x) ns ta) := by
  intro pins s σ H Q I h
  refine wpAny_Call_Name_kw (ld_glob I hg T.gC ?_ hdb)
  refine PySem.W.callWith_K (h₀ := X.base) I.ok.mod.kin T.cl.kC (thn (ha.run pos pins s σ H _ I h) fun us s1 hh => ?_) he hpl
  obtain ⟨vs, H1, I1, r1, hl, hz, hf, q1⟩ := hh
  refine ⟨I1.kIn, ?_⟩
  show wpAny _ _ (call (.ref (He.ga X.K x)) us) _ _ _
  have hlim := I1.nolimit
  obtain ⟨mb, hb1, hb2⟩ := I1.mod.blt
  have G : Exs.Ar s1.heap X.mg mb := ⟨I1.mod.glob.keeps I1.bk, T.sup, hb1.keeps I1.bk, hb2 "super" (by decide), hlim⟩
  have hlu : us.length = vs.length := r1.length.symm
  have J0 := I1.kIn
  obtain ⟨hp, g, dr, tk, os⟩ := s1
  refine wpAny_call (Exs.made T.cl (T.ini us (by omega) (vals_fmt r1 hf)) J0 G (by rw [sizeLine_eq]; omega) (by have := hr.dp; omega) fun h' tk' e d M => ?_)
  show MkP X pins σ Q (.ref e) ⟨h', g, dr, tk', os⟩
  obtain ⟨oe, fv, hoe, hc, hd, hdat, h1⟩ := M.obj
  have hns := M.ns
  obtain ⟨G', g1, g2⟩ := restrict h' fun b => decide (b ≠ e)
  have gk : ∀ b, b ≠ e → G'.get? b = h'.get? b := fun b hb => g1 b (decide_eq_true hb)
  have ge : G'.get? e = none := g2 e (by simp)
  have old : ∀ b o, hp.get? b = some o → G'.get? b = some o := fun b o q => (gk b (Nat.ne_of_lt (Nat.lt_of_lt_of_le (Heap.lt_size q) M.new))).trans (M.keep b o q)
  have rel := relO_map (paired_rev (paired_zip (ns := ns) r1))
  have ob : ObjOk X.prog X.w (upd H1 d (.xd (ns.zip vs).reverse)) G' d (.xd (ns.zip vs).reverse) := ⟨_, hns.at (fun o q => (gk d M.dne).trans q), rel⟩
  have J : Inv X pins σ (upd H1 d (.xd (ns.zip vs).reverse)) ⟨G', g, dr, tk', os⟩ := I1.laid (t' := tk') old M.dbig ob
  refine ⟨e, oe, fv, ⟨G', g, dr, tk', os⟩, _, .ref _, some d, rfl, J, fun b o q => ?_, ge, hoe, ⟨hc, hd⟩, hdat, h1, ?_, rfl, I1.bare, raises_own T.cl.exC T.cl.tyC, q1 d (I1.hok.fresh M.dbig)⟩
  · by_cases hb : b = e
    · have q' : G'.get? b = some o := q
      rw [hb, ge] at q'; cases q'
    · exact (gk b hb).symm.trans q
  · rw [upd_ne (Ne.symm M.dne)]
    exact I1.hok.fresh M.new
end Cl
/-! ## ExR -/
/-! ## Hk -/
namespace Cl
open PySem PySem.Spec PyProof.Rows L2
/-! ## the head's Hook, with own exceptions -/
namespace Hz
open PySem.W He
def refsZ (o : Obj) : List Addr := refsD o ++ (match o.data with
  | .func fd => fd.closure.map (·.2)
  | _ => [])
def visZ (m : Nat) (new : List Addr) : List Addr → Nat × List Addr
  | [] => (m, new)
  | a :: as => match Nat.beq (Nat.land (Nat.shiftRight m a) 1) 0 with
    | true => visZ (Nat.lor m (Nat.shiftLeft 1 a)) (a :: new) as
    | false => visZ m new as
/-- a function's text -/
abbrev FnB : Type := Option (Str × Str × Arguments × FuncBody × Scope × Addr × Addr × Value)
/-- a staticmethod, a classmethod, a property -/
inductive Wk where
  | st | cl | pr
def Wk.T : Wk → String
  | .st => "staticmethod"
  | .cl => "classmethod"
  | .pr => "property"
/-- an exception class of one's own: its name, its fields, its __init__'s statement; or a def m of a class that is wrapped -/
structure ExD where
  x : Str
  ns : List Str
  qual : Str
  st : Stmt
  m : Str := "__init__"
  wr : Option Wk := none
def ExD.ad (K : Frag) (e : ExD) : Addr := match e.wr with
  | none => ma K (ga K e.x) "__init__"
  | some k => He5.wf K (ga K e.x) k.T e.m
def fnB (K : Frag) (e : ExD) : FnB := match K.lookup (e.ad K) with
  | some ⟨_, _, .func fd, _⟩ => some (fd.name, fd.qualname, fd.params, fd.body, fd.scope, fd.globals, fd.builtins, fd.defaults)
  | _ => none
def ExD.val (e : ExD) : FnB := some (e.m, e.qual, defArgs e.st, .stmts (defBody e.st), defScope e.st, mainGlobals, builtinsNs, .none)
def shapeB (K : Frag) (C : Addr) : Bool := match K.lookup C with
  | some ⟨.type "type", _, .cls cd, sl⟩ => (match cd.mro, sl.toList with
    | .ref C' :: bm, [_, _, _, _, some (.builtin n), _] => C' == C && n == "ValueError.__new__" && !cd.hasDel && cd.hasDict && PySem.HandSPX.refsVE bm
    | _, _ => false)
  | _ => false
def cellB (K : Frag) (C cc : Addr) : Bool := match K.lookup cc with
  | some ⟨_, _, .cell (some (.ref D)), _⟩ => D == C
  | _ => false
def fileB (K : Frag) (file : Str) (cda : Addr) : Bool := match K.lookup cda with
  | some ⟨_, _, .fields vs, _⟩ => (match (vs[2]? : Option Value) with
    | some (Value.str f _) => file == f
    | _ => false)
  | _ => false
def closB (K : Frag) (file : Str) (C : Addr) (q : Str) : Bool := match K.lookup (ma K C "__init__") with
  | some ⟨_, _, .func fd, _⟩ => (match fd.closure, fd.code with
    | [(n, cc)], .ref cda => n == ("__class__" : Str) && (cellB K C cc && (fileB K file cda && codeIn K (.ref cda) q))
    | _, _ => false)
  | _ => false
def exB0 (file : Str) (K : Frag) (e : ExD) : Bool :=
  shapeB K (ga K e.x) && (eqO (findIn K (.ref (ga K e.x)) "__setattr__") (some (some (.builtin "object.__setattr__"))) && (eqO (findIn K (.ref (ga K e.x)) "__init__") (some (some (.ref (ma K (ga K e.x) "__init__")))) &&
  (decide (typeIn K (.ref (ma K (ga K e.x) "__init__")) = some (.type "function")) && (keepIn K (.ref (ga K e.x)) && (decide (subIn K (.ref (ga K e.x)) (.type "BaseException") = some true) && (decide (subIn K (.ref (ga K e.x)) (.type "ValueError") = some true) &&
  (decide (typeIn K (.ref (ga K e.x)) = some (.type "type")) && (eqO (ks_superIn K (ga K e.x) (ga K e.x) "__init__") (some (some (.builtin "ValueError.__init__"))) && (decide (mroIn K (ga K e.x) (.ref (ga K e.x)) = some true) && (eqO (nsIn K cStatics "thirdparty.any") (some none) &&
  (closB K file (ga K e.x) e.qual && (e.ns.all (fun f => eqO (findIn K (.ref (ga K e.x)) f) (some none)) && (eqO (nsIn K mainGlobals e.x) (some (some (.ref (ga K e.x)))) && (eqO (nsIn K mainGlobals "super") (some none) &&
  (eqO (findIn K (.ref (ga K e.x)) "__getattribute__") (some (some (.builtin "BaseException.__getattribute__"))) && (eqO (findIn K (.ref (ga K e.x)) "__getattr__") (some none) && hasDictIn K (ga K e.x)))))))))))))))))
/-- a wrapped def and what holds it -/
def wrF (K : Frag) (e : ExD) : Bool := keepIn K (.ref (e.ad K)) && (match K.lookup (e.ad K) with
  | some ⟨_, _, .func fd, _⟩ => codeIn K fd.code e.qual && (He.dflB K fd.defaults [] && (He.kwdB K fd.kwdefaults [] && fd.closure.isEmpty))
  | _ => false)
def wrB (K : Frag) (e : ExD) : Wk → Bool
  | .st => He5.wrapB K (ga K e.x) "staticmethod" "staticmethod.__get__" e.m && (readsIn K (ga K e.x) (.type "type") && eqO (specialIn K (.ref (ga K e.x)) "__getattribute__") (some (some (.builtin "type.__getattribute__"))))
  | .cl => He5.wrapB K (ga K e.x) "classmethod" "classmethod.__get__" e.m && (readsIn K (ga K e.x) (.type "type") && (eqO (specialIn K (.ref (ga K e.x)) "__getattribute__") (some (some (.builtin "type.__getattribute__"))) && fnIn K (e.ad K)))
  | .pr => eqO (findIn K (.ref (ga K e.x)) e.m) (some (some (.ref (ma K (ga K e.x) e.m)))) && (eqO (specialIn K (.ref (ma K (ga K e.x) e.m)) "__get__") (some (some (.builtin "property.__get__"))) && (decide (takesIn K (.ref (ma K (ga K e.x) e.m)) = some true) && (match recIn K (ma K (ga K e.x) e.m) "property" with
    | some (.ref _ :: _) => true
    | _ => false)))
def exB (file : Str) (K : Frag) (e : ExD) : Bool := match e.wr with
  | none => exB0 file K e
  | some k => wrF K e && wrB K e k
abbrev AlZ : Type := AlD × List FnB × Bool
def obsZ (file : Str) (fa : List Fa) (fn : List DefD) (fe : List ExD) (ex : Frag → Bool) (K : Frag) : AlZ := (obsD fa fn K, fe.map (fun e => fnB K e), (fe.all fun e => exB file K e) && ex K)
def valZ (fn : List DefD) (fe : List ExD) : AlZ := (valD fn, fe.map ExD.val, true)
def Says (file : Str) (fa : List Fa) (fn : List DefD) (fe : List ExD) (ex : Frag → Bool) (K : Frag) : Prop := obsZ file fa fn fe ex K = valZ fn fe
section
variable {file : Str} {fa : List Fa} {fn : List DefD} {fe : List ExD} {ex : Frag → Bool} {K : Frag}
theorem Says.d (c : Says file fa fn fe ex K) : SaysD fa fn K := congrArg (fun z : AlZ => z.1) c
theorem Says.more (c : Says file fa fn fe ex K) : ex K = true := (ba (show ((fe.all fun e => exB file K e) && ex K) = true from congrArg (fun z : AlZ => z.2.2) c)).2
theorem Says.e (c : Says file fa fn fe ex K) (i : Nat) {e : ExD} (h : fe[i]? = some e := by rfl) : fnB K e = e.val ∧ exB file K e = true := by
  have c1 : fe.map (fun e => fnB K e) = fe.map ExD.val := congrArg (fun z : AlZ => z.2.1) c
  have c2 := (ba (show ((fe.all fun e => exB file K e) && ex K) = true from congrArg (fun z : AlZ => z.2.2) c)).1
  have e2 : (fe.map fun e => fnB K e)[i]? = (fe.map ExD.val)[i]? := by rw [c1]
  rw [List.getElem?_map, List.getElem?_map, h] at e2
  exact ⟨Option.some.inj e2, List.all_eq_true.mp c2 e (List.mem_of_getElem? h)⟩
theorem shape_of {C : Addr} (q : shapeB K C = true) : ∃ nm qn N bs bm sn sub ab col dd k0 k1 k2 k3 k5, K.lookup C = some (excClassObj nm qn C N bs bm true sn sub ab col dd k0 k1 k2 k3 k5 "ValueError.__new__") ∧ PySem.HandSPX.refsVE bm = true := by
  unfold shapeB at q
  split at q
  · rename_i dd cd sl ho
    split at q
    · rename_i C' bm k0 k1 k2 k3 n k5 hm hs
      simp only [Bool.and_eq_true, beq_iff_eq, Bool.not_eq_true'] at q
      obtain ⟨⟨⟨⟨rfl, rfl⟩, hdel⟩, hdi⟩, ht⟩ := q
      obtain ⟨nm, bs, mro, ns, qn, hd, sn, sub, ab, col, del⟩ := cd
      dsimp only at hm hdel hdi
      subst hm hdel hdi
      have hsl : sl = #[k0, k1, k2, k3, some (.builtin "ValueError.__new__"), k5] := by
        obtain ⟨l⟩ := sl
        simp only at hs
        rw [hs]
      subst hsl
      exact ⟨nm, qn, ns, bs, bm, sn, sub, ab, col, dd, k0, k1, k2, k3, k5, ho, ht⟩
    · cases q
  · cases q
theorem cell_of {C cc : Addr} (q : cellB K C cc = true) : ∃ (cl : Value) (dd : Option Addr) (sl : Array (Option Value)), K.lookup cc = some ⟨cl, dd, .cell (some (.ref C)), sl⟩ := by
  unfold cellB at q
  split at q
  · rename_i cl dd D sl ho
    have e : D = C := beq_iff_eq.mp q
    subst e
    exact ⟨_, _, _, ho⟩
  · cases q
theorem file_of {cda : Addr} {prog : Program} (q : fileB K (prog.main.file : Str) cda = true) : ∃ (cl : Value) (dd : Option Addr) (vs : Array Value) (sl : Array (Option Value)) (file : Str) (tf : Tok), K.lookup cda = some ⟨cl, dd, .fields vs, sl⟩ ∧ vs[2]? = some (.str file tf) ∧ ((prog.main.file : Str) == file) = true := by
  unfold fileB at q
  split at q
  · rename_i cl dd vs sl ho
    split at q
    · rename_i f tf hv
      exact ⟨_, _, _, _, f, tf, ho, hv, q⟩
    · cases q
  · cases q
/-- the facts of an exception's class -/
theorem tx_of {prog : Program} {e : ExD} (hw : e.wr = none := by rfl) (hm : e.m = "__init__" := by rfl) (h1 : fnB K e = e.val) (h2 : exB (prog.main.file : Str) K e = true) : ∃ cc cda, Exs.Tx prog K (ga K e.x) (ma K (ga K e.x) "__init__") cc cda e.qual (defArgs e.st) (defBody e.st) (defScope e.st) ∧ Exs.Cl0 K (ga K e.x) (ma K (ga K e.x) "__init__") ∧ (∀ f ∈ e.ns, findIn K (.ref (ga K e.x)) f = some none) ∧
    nsIn K mainGlobals e.x = some (some (.ref (ga K e.x))) ∧ nsIn K mainGlobals "super" = some none := by
  obtain ⟨ex, ens, eq_, est, em, ew⟩ := e
  dsimp only at hw hm
  subst hw hm
  change exB0 (prog.main.file : Str) K _ = true at h2
  unfold exB0 at h2
  dsimp only at h2 ⊢
  obtain ⟨a1, h2⟩ := ba h2; obtain ⟨a2, h2⟩ := ba h2; obtain ⟨a3, h2⟩ := ba h2; obtain ⟨a4, h2⟩ := ba h2; obtain ⟨a5, h2⟩ := ba h2; obtain ⟨a6, h2⟩ := ba h2; obtain ⟨a7, h2⟩ := ba h2; obtain ⟨a8, h2⟩ := ba h2
  obtain ⟨a9, h2⟩ := ba h2; obtain ⟨a10, h2⟩ := ba h2; obtain ⟨a11, h2⟩ := ba h2; obtain ⟨a12, h2⟩ := ba h2; obtain ⟨a13, h2⟩ := ba h2; obtain ⟨a14, h2⟩ := ba h2; obtain ⟨a15, h2⟩ := ba h2
  have hns : ∀ f ∈ ens, findIn K (.ref (ga K ex)) f = some none := fun f hf => eqO_ok (List.all_eq_true.mp a13 f hf)
  unfold closB at a12
  split at a12
  · rename_i oc od fd osl ho
    split at a12
    · rename_i n cc cda hcl hcode
      obtain ⟨b1, q1⟩ := ba a12; obtain ⟨b2, q2⟩ := ba q1; obtain ⟨b3, b4⟩ := ba q2
      have en : n = ("__class__" : Str) := beq_iff_eq.mp b1
      subst en
      have hfn : some (fd.name, fd.qualname, fd.params, fd.body, fd.scope, fd.globals, fd.builtins, fd.defaults) = ExD.val ⟨ex, ens, eq_, est, "__init__", none⟩ := by
        rw [← h1]
        unfold fnB
        show _ = (match K.lookup (ma K (ga K ex) "__init__") with
          | some ⟨_, _, .func fd, _⟩ => some (fd.name, fd.qualname, fd.params, fd.body, fd.scope, fd.globals, fd.builtins, fd.defaults)
          | _ => none)
        rw [ho]
      obtain ⟨name, qn, params, body, scope, globals, closure, dV, kV, doc, pm, an, code, ct, blt⟩ := fd
      dsimp only at hcl hcode hfn
      subst hcl hcode
      have hfn := Option.some.inj hfn
      injection hfn with i1 hfn
      injection hfn with i2 hfn
      injection hfn with i3 hfn
      injection hfn with i4 hfn
      injection hfn with i5 hfn
      injection hfn with i6 hfn
      injection hfn with i7 i8
      subst i1 i2 i3 i4 i5 i6 i7 i8
      have cls := shape_of a1
      refine ⟨cc, cda, ⟨cls, eqO_ok a2, eqO_ok a3, of_decide_eq_true a4, a5, of_decide_eq_true a6, of_decide_eq_true a7, of_decide_eq_true a8, eqO_ok a9, of_decide_eq_true a10, eqO_ok a11, ⟨_, _, _, _, _, _, _, _, ho, b4⟩, file_of b3, cell_of b2⟩,
        ⟨cls, eqO_ok a3, of_decide_eq_true a4, a5, of_decide_eq_true a6, of_decide_eq_true a8⟩, hns, eqO_ok a14, eqO_ok a15⟩
    · cases a12
  · cases a12
end
end Hz
end Cl
/-! ## Exc2 -/
namespace Cl
open PySem PySem.Spec PyProof.Rows L2
/-! ## several clauses, each 'except x as n' -/
abbrev Hc : Type := Value × Nat × (Addr → Value → Option Addr → TS)
def endN (D : Ends) (i : Nat) : Ends := { nx := fun σ' H' => D.nx (σ'.set i none) H', rt := D.rt, bk := fun σ' H' => D.bk (σ'.set i none) H', ct := fun σ' H' => D.ct (σ'.set i none) H' }
def wMA (K : PySem.W.Frag) (Wout : WX) (D : Ends) : List Hc → WX
  | [] => Wout
  | (c, i, ts) :: r => fun cls d σ H => ∃ b, PySem.W.exmOne K cls c = some b ∧ (b = true → ∀ a, H a = none → ts a cls d (endN D i) (σ.set i (some (.ref a))) H) ∧ (b = false → wMA K Wout D r cls d σ H)
inductive HdsA (X : Cx) : List ExceptHandler → List Hc → Prop
  | nil : HdsA X [] []
  | cons {x n : Str} {c : Value} {i : Nat} {ts : Addr → Value → Option Addr → TS} {b₀ : Stmt} {suite : List Stmt} {np pos' : Pos} {hds : List ExceptHandler} {l : List Hc} (hi : X.N[i]? = some n) (hln : X.env.kindOf n = some .local) (hc : Names X x c)
      (hsu : ∀ (a : Addr) (oe : Obj) (cls : Value) (d : Option Addr) (pn : List (Addr × Obj)), Zc cls d oe → (∃ vs, oe.data = .fields vs) → PSs (X.suite a ((a, oe) :: pn)) (b₀ :: suite) (ts a cls d)) (r : HdsA X hds l) :
      HdsA X (.ExceptHandler (some (.Name x np)) (some n) (b₀ :: suite) pos' :: hds) ((c, i, ts) :: l)
def tTryA (K : PySem.W.Frag) (tb : WX → TS) (Wout : WX) (l : List Hc) : TS := fun D σ H => tb (wMA K Wout D l) D σ H
section
variable {X : Cx} {body : List Stmt} {h₀ : ExceptHandler} {hds : List ExceptHandler} {l : List Hc} {pos : Pos} {tb : WX → TS} {Wout : WX}
/-- an exception a of the body, caught: it lies on the ground, and the state is one of ours -/
structure Air (X : Cx) (pins : List (Addr × Obj)) (σ : L2.St) (H : Hp) (a : Addr) (cls : Value) (d : Option Addr) (B : Heap) (sI s : Shared) : Prop where
  J : Inv X pins σ H sI
  nb : ∀ b o, sI.heap.get? b = some o → b ∉ frs X.stack → B.get? b = some o
  fl : HandSPX.FlyingZ B (X.env :: X.outer) a (Zc cls d) s.heap
  up : sI.heap.UpToSlots s.heap
  na : H a = none
  os : s.os = sI.os
  ag : AllBare s.gens
section
variable {pins : List (Addr × Obj)} {σ : L2.St} {H : Hp} {a : Addr} {cls : Value} {d : Option Addr} {B : Heap} {sI s : Shared} {D : Ends}
theorem Air.inv (h : Air X pins σ H a cls d B sI s) : Inv X pins σ H s := by
  have J := h.J.landed (s' := s) h.nb h.fl.1 h.up h.os h.ag
  exact J
theorem Air.obj (h : Air X pins σ H a cls d B sI s) (hf : X.env.frame = some X.env.locals) : ∃ oe vs, s.heap.get? a = some oe ∧ Zc cls d oe ∧ oe.data = .fields vs ∧ Inv (X.suite a ((a, oe) :: (X.pn ++ pins))) [] σ H s := by
  obtain ⟨oe, vs, ha, hz, hd⟩ := h.fl.there
  have out : a ∉ frs (X.env :: X.outer) := fun hm => by
    obtain ⟨_, o', e', q⟩ := h.fl.2.2.1.mem hm
    have e2 := ha.symm.trans e'
    cases e2
    exact q _ hd
  refine ⟨oe, vs, ha, hz, hd, h.inv.suite ha hd h.na (fun z => ?_) (fun hm => ?_)⟩
  · exact out (List.mem_filterMap.mpr ⟨X.env, List.mem_cons_self, by rw [hf, z]⟩)
  · obtain ⟨e, he, q⟩ := List.mem_filterMap.mp hm
    exact out (List.mem_filterMap.mpr ⟨e, List.mem_cons_of_mem _ he, q⟩)
/-- no clause is left -/
theorem Air.past (h : Air X pins σ H a cls d B sI s) (hs : X.stack = X.env :: X.outer) (hf : X.env.frame = some X.env.locals) (tk : Takes X Wout) (w : Wout cls d σ H) : wpAny (model X.prog X.w) X.A (handleBy (.ref a) X.env []) (SP X pins D) X.xe s := by
  refine wpAny_handleBy_nil ?_
  have fin : wpAny (model X.prog X.w) X.A (setFlight (.ref a) X.env.frame) (fun _ s4 => wpAny (model X.prog X.w) X.A (throw (.ref a) : Sem Flow) (SP X pins D) X.xe s4) X.xe s := by
    rw [hf]
    exact HandSPX.setFlight_upZ h.fl fun h4 held up4 => wpAny_throw (tk _ _ ⟨a, B, sI, pins, σ, H, cls, d, rfl, h.J, h.nb, h.up.trans up4, .inr (.inr (by rw [hs]; exact held)), h.na, h.os, h.ag, w⟩)
  obtain ⟨_, _, _, oe, vs, T, oT, ts', he, _, hd, h1, _⟩ := id h.fl
  unfold PySem.passOn
  refine wpAny_bind (wpAny_field he hd h1 ?_)
  rw [if_neg (show ¬ ((Value.ref T == Value.none) = true) from by simp)]
  first
    | exact wpAny_bind (wpAny_pure (wpAny_bind fin))
    | exact wpAny_bind fin
/-- one clause -/
theorem Air.clause {x n : Str} {c : Value} {i : Nat} {ts : Addr → Value → Option Addr → TS} {b₀ : Stmt} {suite : List Stmt} {np pos' : Pos} {b : Bool} (h : Air X pins σ H a cls d B sI s) (hf : X.env.frame = some X.env.locals) (hN : X.N.Nodup) (hi : X.N[i]? = some n) (hln : X.env.kindOf n = some .local) (hc : Names X x c)
    (hsu : ∀ (a : Addr) (oe : Obj) (cls : Value) (d : Option Addr) (pn : List (Addr × Obj)), Zc cls d oe → (∃ vs, oe.data = .fields vs) → PSs (X.suite a ((a, oe) :: pn)) (b₀ :: suite) (ts a cls d))
    (hb : PySem.W.exmOne X.K cls c = some b) (yes : b = true → ts a cls d (endN D i) (σ.set i (some (.ref a))) H) (no : b = false → wpAny (model X.prog X.w) X.A (handleBy (.ref a) X.env hds) (SP X pins D) X.xe s) :
    wpAny (model X.prog X.w) X.A (handleBy (.ref a) X.env (.ExceptHandler (some (.Name x np)) (some n) (b₀ :: suite) pos' :: hds)) (SP X pins D) X.xe s := by
  obtain ⟨oe, vs, ha, hz, hd, S⟩ := h.obj hf
  refine wpAny_handleBy_cons (codeAny_handlers_test ?_) (by intro q; cases q)
  have LT : PySem.W.Looks (model X.prog X.w) s.heap (typeOf (.ref a)) cls := fun A Q E s k q => wpAny_typeOf_ref (k _ _ ha) (by rw [hz.1]; exact q)
  have LM := PySem.W.exm_one (M := model X.prog X.w) h.inv.kIn LT hb
  have look : ∀ {Q : Value → Shared → Prop} {E : Value → Shared → Prop}, Q c s → wpAny (model X.prog X.w) (X.A.mark (some (.ref a))) (eval (.Name x np) X.env) Q E s := fun {Q E} q => by
    obtain ⟨hg, hdbg, hm | ⟨hm, hv, hnn⟩⟩ := hc
    · exact ld_glob (X := X.suite a ((a, oe) :: (X.pn ++ pins))) S hg hm q hdbg
    · exact ld_blt (X := X.suite a ((a, oe) :: (X.pn ++ pins))) S hg hm hv q hnn hdbg
  obtain ⟨hp, gs, dr, tk, os⟩ := s
  refine look (LM.here ?_)
  cases b with
  | false => exact no rfl
  | true =>
    refine codeAny_handlers_suite_as (HandSPX.lands_againZ h.fl fun h4 fl4 up4 => ?_)
    have h' : Air X pins σ H a cls d B sI ⟨h4, gs, dr, tk, os⟩ := ⟨h.J, h.nb, fl4, h.up.trans up4, h.na, h.os, h.ag⟩
    obtain ⟨oe4, vs4, he4, hz4, hd4, S4⟩ := h'.obj hf
    refine store_ok (X := X.suite a ((a, oe4) :: (X.pn ++ pins))) (v := .ref a) S4 hN hi (.inl hln) rfl (fun s5 S5 => ?_) (.inr hln)
    refine wpAny_mono ((hsu a oe4 cls d (X.pn ++ pins) hz4 ⟨_, hd4⟩).run [] s5 _ H _ S5 (yes rfl)) (fun f s6 hsp => ?_) (fun _ _ z => False.elim z)
    have out : ∀ {σ6 : L2.St} {H6 : Hp} {Q : Shared → Prop}, Inv (X.suite a ((a, oe4) :: (X.pn ++ pins))) [] σ6 H6 s6 → (∀ s7, Inv X pins (σ6.set i none) H6 s7 → Q s7) →
        wpAny (model X.prog X.w) X.A (do bindName X.env n .none; unbindBehindTheSuite X.env n pos') (fun _ s7 => Q s7) X.xe s6 := fun {σ6 H6 Q} S6 hq => gone_ok (S6.unsuite h.J.ok) hN hi hln hq
    cases f with
    | ret u => obtain ⟨v6, σ6, H6, S6, r6, q6⟩ := hsp; exact out S6 fun s7 J7 => ⟨_, _, _, J7, r6, q6⟩
    | next => obtain ⟨σ6, H6, S6, q6⟩ := hsp; exact out S6 fun s7 J7 => ⟨_, _, J7, q6⟩
    | brk => obtain ⟨σ6, H6, S6, q6⟩ := hsp; exact out S6 fun s7 J7 => ⟨_, _, J7, q6⟩
    | cont => obtain ⟨σ6, H6, S6, q6⟩ := hsp; exact out S6 fun s7 J7 => ⟨_, _, J7, q6⟩
theorem Air.all (h : Air X pins σ H a cls d B sI s) (hs : X.stack = X.env :: X.outer) (hf : X.env.frame = some X.env.locals) (hN : X.N.Nodup) (tk : Takes X Wout) {hds' : List ExceptHandler} {l' : List Hc} (hk : HdsA X hds' l') : wMA X.K Wout D l' cls d σ H →
    wpAny (model X.prog X.w) X.A (handleBy (.ref a) X.env hds') (SP X pins D) X.xe s := by
  induction hk with
  | nil => exact fun w => h.past hs hf tk w
  | cons hi hln hc hsu r ih =>
    intro ⟨b, hb, yes, no⟩
    exact h.clause hf hN hi hln hc hsu hb (fun e => yes e a h.na) (fun e => ih (no e))
end
theorem ps_try_ma (hs : X.stack = X.env :: X.outer) (hf : X.env.frame = some X.env.locals) (hN : X.N.Nodup) (tk : Takes X Wout)
    (hb : ∀ (W : WX) (pn : List (Addr × Obj)) (xe : Value → Shared → Prop), Takes (X.tr pn xe) W → PassesOwn (model X.prog X.w) X.A X.env xe → PSs (X.tr pn xe) body (tb W))
    (hh : HdsA X (h₀ :: hds) l) : PS X (.Try body (h₀ :: hds) [] [] pos) (tTryA X.K tb Wout l) := by
  refine ⟨fun pins s σ H D I h => wpAny_Try_except ?_⟩
  have ok := I.ok
  refine wpAny_mono ((hb (wMA X.K Wout D l) (X.pn ++ pins) (fun e s₁ => wpAny (model X.prog X.w) X.A (noteFrame e X.env) (fun _ s₂ => wpAny (model X.prog X.w) X.A (setFlight e none) (fun _ s₃ =>
    wpAny (model X.prog X.w) X.A (handleBy e X.env (h₀ :: hds)) (SP X pins D) X.xe s₃) X.xe s₂) X.xe s₁) (fun u s' xx => ?_) PassesOwn.looking).run [] s σ H D (I.toTry _) h) (fun f s1 hsp => ?_) (fun e s1 he => he)
  · obtain ⟨a, B, sI, pins', σ', H', cls, d, rfl, J', nb, up, sky, na, os, ag, w⟩ := xx
    have sky' : Sky B (X.env :: X.outer) a (Zc cls d) X.env.locals s'.heap := by rw [← hs]; exact sky
    show wpAny (model X.prog X.w) X.A (noteFrame (.ref a) X.env) _ _ _
    refine Sky.land Zc.steady (by rw [ok.frames, hs]) hf sky' fun h3 fl3 up3 => ?_
    exact Air.all (sI := sI) (B := B) (s := { s' with heap := h3 }) ⟨J'.ofTry ok, nb, fl3, up.trans up3, na, os, ag⟩ hs hf hN tk hh w
  · cases f with
    | ret u => obtain ⟨v, σ', H', J', r, q⟩ := hsp; exact ⟨v, σ', H', J'.ofTry ok, r, q⟩
    | next => obtain ⟨σ', H', J', q⟩ := hsp; exact wpAny_execs_nil ⟨σ', H', J'.ofTry ok, q⟩
    | brk => obtain ⟨σ', H', J', q⟩ := hsp; exact ⟨σ', H', J'.ofTry ok, q⟩
    | cont => obtain ⟨σ', H', J', q⟩ := hsp; exact ⟨σ', H', J'.ofTry ok, q⟩
end
/-- isinstance(e, c) in an except suite: e's class is D, with its fields -/
def rIsX (K : PySem.W.Frag) (D a : Addr) (cls : Value) (d : Option Addr) : List V → Hp → VK → Prop := fun xs H Q => ∃ (c : V) (cv : Value) (b : Bool) (dd : Addr) (fs : List (Str × V)), xs = [.ref a, c] ∧ cls = .ref D ∧ d = some dd ∧ H dd = some (.xd fs) ∧ (∀ u, RelV c u → u = cv) ∧ PySem.W.kitOne K (.ref D) cv = some b ∧ Q (.bl b) H
theorem call_isX {X : Cx} {a D : Addr} {oe : Obj} {cls : Value} {d : Option Addr} {pn : List (Addr × Obj)} (C : ExcC X.K D) (hz : Zc cls d oe) (hf : ∃ vs, oe.data = .fields vs) : CallR (X.suite a ((a, oe) :: pn)) (.builtin "isinstance") (rIsX X.K D a cls d) := by
  intro pins s σ H xs us Q I r h
  obtain ⟨c, cv, b, dd, fs, rfl, ecl, edd, hH, hcv, e, q⟩ := h
  subst ecl edd
  cases r with
  | cons rx rr =>
    cases rr with
    | cons rt rr =>
      cases rr
      cases rx
      have ec := hcv _ rt
      subst ec
      obtain ⟨hget, _⟩ := I.pin (a, oe) (List.mem_append.mpr (.inl List.mem_cons_self))
      obtain ⟨vs, hv⟩ := hf
      have hx : ObjOk X.prog X.w H s.heap dd (.xd fs) := I.hok dd _ hH
      obtain ⟨mA, hns, hr⟩ := hx
      obtain ⟨od, ho, hl⟩ := lookIn_ns hns
      have J : PySem.W.InstAt s.heap a oe D (some od) := ⟨hget, hz.1, by unfold PySem.W.notCls; rw [hv] <;> rfl, by rw [hz.2]; exact ho⟩
      exact PySem.W.kia_one (PySem.W.kitx_exc (by obtain ⟨cd, hc, _⟩ := PySem.W.any_some C.hd; rw [hc]; rfl) C.hg C.hk C.hs C.ha C.hn C.ht C.hm) I.kIn J e (fun z => nomatch z) fun tk => ⟨.bl b, H, I.kept (t' := tk) fun _ _ z => z, rfl, q⟩
/-- a global class as a value -/
theorem pgc {X : Cx} {x : Str} {pos : Pos} (hg : Gl X x) (h : X.mg x = some (.ref (He.ga X.K x))) (hd : (x == ("__debug__" : Str)) = false := by decide) : PE X (.Name x pos) (tC (.ref (He.ga X.K x))) := pe_glob hg h rfl hd
/-! ## facts of the head about exceptions -/
inductive Xf where
  | xc (x : Str)
  | kit (x y : Str) (b : Bool)
  | kitT (x : Str) (T : String) (b : Bool)
  | exm (x y : Str) (b : Bool)
  | noat (x f : Str)
  | isc (x : Str)
  | tupS (x : Str) (zs : List Str)
  | cvS (x f : Str) (zs : List Str)
  | dflE (p : Str × Option Str) (i : Nat)
  | exP (x : Str)
  | ops (x : Str)
  | opI (x : Str) (nm : String)
  | fnI (x m : Str)
def strV : Value → Option Str
  | .str z _ => some z
  | _ => none
def GTb (K : PySem.W.Frag) (x : Str) (zs : List Str) : Bool := match K.lookup (He.ga K x) with
  | some o => decide (o.cls = .type "tuple") && (o.dict.isNone && (match o.data with
    | .seq its n => decide (its.size ≤ sizeLine) && decide (its.toList.map strV = zs.map some)
    | _ => false))
  | none => false
def ATb (K : PySem.W.Frag) (a : Addr) (zs : List Str) : Bool := match K.lookup a with
  | some o => decide (o.cls = .type "tuple") && (o.dict.isNone && (match o.data with
    | .seq its n => decide (its.size ≤ sizeLine) && decide (its.toList.map strV = zs.map some)
    | _ => false))
  | none => false
def CVb (K : PySem.W.Frag) (x f : Str) (zs : List Str) : Bool := PySem.W.readsIn K (He.ga K x) (.type "type") && (He.eqO (PySem.W.specialIn K (.ref (He.ga K x)) "__getattribute__") (some (some (.builtin "type.__getattribute__"))) && (match PySem.W.findCls K (.ref (He.ga K x)) (.type "type") f with
  | some (.val (.ref a)) => ATb K a zs
  | _ => false))
def ETb (K : PySem.W.Frag) (a : Addr) : Bool := match K.lookup a with
  | some o => decide (o.cls = .type "tuple") && (match o.data with
    | .seq its n => its.isEmpty
    | _ => false)
  | none => false
def eqB (a b : Option Bool) : Bool := decide (a = b)
def refN : Option (Option Value) → Bool
  | some none => true
  | some (some (.ref _)) => true
  | _ => false
def Xf.ok (K : PySem.W.Frag) : Xf → Bool
  | .xc x => He.eqO (PySem.W.findIn K (.ref (He.ga K x)) "__getattribute__") (some (some (.builtin "BaseException.__getattribute__"))) && (He.eqO (PySem.W.findIn K (.ref (He.ga K x)) "__getattr__") (some none) && (eqB (PySem.W.subIn K (.ref (He.ga K x)) (.type "BaseException")) (some true) && (PySem.W.hasDictIn K (He.ga K x) &&
      (He.eqO (PySem.W.findIn K (.ref (He.ga K x)) "__class__") (some (some (.builtin "object.__class__"))) && (He.eqO (PySem.W.specialIn K (.builtin "object.__class__") "__get__") (some (some (.builtin "getset_descriptor.__get__"))) && (eqB (PySem.W.takesIn K (.builtin "object.__class__")) (some true) && eqB (PySem.W.mroIn K (He.ga K x) (.type "object")) (some true)))))))
  | .kit x y b => eqB (PySem.W.kitOne K (.ref (He.ga K x)) (.ref (He.ga K y))) (some b)
  | .kitT x T b => eqB (PySem.W.kitOne K (.ref (He.ga K x)) (.type T)) (some b)
  | .exm x y b => eqB (PySem.W.exmOne K (.ref (He.ga K x)) (.ref (He.ga K y))) (some b)
  | .noat x f => He.eqO (PySem.W.findIn K (.ref (He.ga K x)) f) (some none)
  | .isc x => He.eqO (PySem.W.findIn K (.ref (He.ga K x)) "__class__") (some (some (.builtin "object.__class__"))) && (He.eqO (PySem.W.specialIn K (.builtin "object.__class__") "__get__") (some (some (.builtin "getset_descriptor.__get__"))) && (eqB (PySem.W.takesIn K (.builtin "object.__class__")) (some true) && eqB (PySem.W.mroIn K (He.ga K x) (.type "object")) (some true)))
  | .tupS x zs => GTb K x zs
  | .cvS x f zs => CVb K x f zs
  | .dflE p i => ETb K (He.dflAt p i K)
  | .exP x => PySem.W.excIn K (He.ga K x) He.veBase "ValueError.__new__" && (PySem.W.keepIn K (.ref (He.ga K x)) && (eqB (PySem.W.subIn K (.ref (He.ga K x)) (.type "BaseException")) (some true) && decide (PySem.W.typeIn K (.ref (He.ga K x)) = some (.type "type"))))
  | .ops x => PySem.W.selfFirst K (He.ga K x) && PySem.W.noSeq K (He.ga K x)
  | .opI x nm => refN (PySem.W.findIn K (.ref (He.ga K x)) (dunderR nm)) && ((PySem.W.findIn K (.type "int") (PySem.dunder nm)).isSome && ((PySem.W.findIn K (.type "int") (dunderR nm)).isSome && (eqB (PySem.W.subIn K (.type "int") (.ref (He.ga K x))) (some false) && eqB (PySem.W.subIn K (.ref (He.ga K x)) (.type "int")) (some false))))
  | .fnI x m => PySem.W.fnIn K (He.ma K (He.ga K x) m)
def exOf (xf : List Xf) (K : PySem.W.Frag) : Bool := xf.all fun x => x.ok K
structure Fz (file : Str) (fe : List Hz.ExD) (xf : List Xf) (fa : List He.Fa) (fn : List He.DefD) (K : PySem.W.Frag) (mg : Str → Option Value) : Prop extends Fx fa fn K mg where
  more : Hz.Says file fa fn fe (exOf xf) K
theorem Fz.mk' {file : Str} {fe : List Hz.ExD} {xf : List Xf} {fa : List He.Fa} {fn : List He.DefD} {K : PySem.W.Frag} {h : Heap} {mg : Str → Option Value} (X : K.In h) (G : h.Ns mainGlobals mg) (c : Hz.Says file fa fn fe (exOf xf) K) : Fz file fe xf fa fn K mg := ⟨⟨c.d, h, X, G⟩, c⟩
section
variable {file : Str} {fe : List Hz.ExD} {xf : List Xf} {fa : List He.Fa} {fn : List He.DefD} {K : PySem.W.Frag} {mg : Str → Option Value}
theorem Fz.xf_ (c : Fz file fe xf fa fn K mg) {x : Xf} (i : Nat) (h : xf[i]? = some x) : x.ok K = true := List.all_eq_true.mp c.more.more x (List.mem_of_getElem? h)
theorem Fz.xc (c : Fz file fe xf fa fn K mg) (i : Nat) {x : Str} (h : xf[i]? = some (.xc x) := by rfl) : ExcC K (He.ga K x) := by
  have q := c.xf_ i h
  unfold Xf.ok at q
  obtain ⟨a1, q⟩ := Bool.and_eq_true_iff.mp q; obtain ⟨a2, q⟩ := Bool.and_eq_true_iff.mp q; obtain ⟨a3, q⟩ := Bool.and_eq_true_iff.mp q; obtain ⟨a4, q⟩ := Bool.and_eq_true_iff.mp q
  obtain ⟨a5, q⟩ := Bool.and_eq_true_iff.mp q; obtain ⟨a6, q⟩ := Bool.and_eq_true_iff.mp q; obtain ⟨a7, a8⟩ := Bool.and_eq_true_iff.mp q
  exact ⟨He.eqO_ok a1, He.eqO_ok a2, of_decide_eq_true a3, a4, He.eqO_ok a5, He.eqO_ok a6, of_decide_eq_true a7, of_decide_eq_true a8⟩
theorem Fz.xfc (c : Fz file fe xf fa fn K mg) (i : Nat) {x : Str} (h : xf[i]? = some (.xc x) := by rfl) : XfC K (He.ga K x) := let q := c.xc i h; ⟨q.hg, q.hk, q.hs, q.hd⟩
theorem Fz.kit (c : Fz file fe xf fa fn K mg) (i : Nat) {x y : Str} {b : Bool} (h : xf[i]? = some (.kit x y b) := by rfl) : PySem.W.kitOne K (.ref (He.ga K x)) (.ref (He.ga K y)) = some b := of_decide_eq_true (c.xf_ i h)
theorem Fz.kitT (c : Fz file fe xf fa fn K mg) (i : Nat) {x : Str} {T : String} {b : Bool} (h : xf[i]? = some (.kitT x T b) := by rfl) : PySem.W.kitOne K (.ref (He.ga K x)) (.type T) = some b := of_decide_eq_true (c.xf_ i h)
theorem Fz.exm (c : Fz file fe xf fa fn K mg) (i : Nat) {x y : Str} {b : Bool} (h : xf[i]? = some (.exm x y b) := by rfl) : PySem.W.exmOne K (.ref (He.ga K x)) (.ref (He.ga K y)) = some b := of_decide_eq_true (c.xf_ i h)
/-- an instance's class, as isinstance finds it -/
structure IsC (K : PySem.W.Frag) (C : Addr) : Prop where
  ha : PySem.W.findIn K (.ref C) "__class__" = some (some (.builtin "object.__class__"))
  hn : PySem.W.specialIn K (.builtin "object.__class__") "__get__" = some (some (.builtin "getset_descriptor.__get__"))
  ht : PySem.W.takesIn K (.builtin "object.__class__") = some true
  hm : PySem.W.mroIn K C (.type "object") = some true
theorem Fz.isc (c : Fz file fe xf fa fn K mg) (i : Nat) {x : Str} (h : xf[i]? = some (.isc x) := by rfl) : IsC K (He.ga K x) := by
  have q := c.xf_ i h
  unfold Xf.ok at q
  obtain ⟨a5, q⟩ := Bool.and_eq_true_iff.mp q; obtain ⟨a6, q⟩ := Bool.and_eq_true_iff.mp q; obtain ⟨a7, a8⟩ := Bool.and_eq_true_iff.mp q
  exact ⟨He.eqO_ok a5, He.eqO_ok a6, of_decide_eq_true a7, of_decide_eq_true a8⟩
def GTok (K : PySem.W.Frag) (x : Str) (zs : List Str) : Prop := ∃ (o : Obj) (its : Array Value) (n : Nat), K.lookup (He.ga K x) = some o ∧ o.cls = .type "tuple" ∧ o.dict = none ∧ o.data = .seq its n ∧ its.size ≤ sizeLine ∧ Vals (zs.map V.str) its.toList
theorem vals_str : ∀ {zs : List Str} {its : List Value}, its.map strV = zs.map some → Vals (zs.map V.str) its
  | [], [], _ => .nil
  | z :: zs, v :: its, h => by
    simp only [List.map_cons, List.cons.injEq] at h
    obtain ⟨h1, h2⟩ := h
    refine .cons ?_ (vals_str h2)
    cases v with
    | str y t => simp only [strV, Option.some.injEq] at h1; subst h1; exact ⟨t, rfl⟩
    | _ => simp [strV] at h1
  | [], _ :: _, h => by simp at h
  | _ :: _, [], h => by simp at h
theorem Fz.tupS (c : Fz file fe xf fa fn K mg) (i : Nat) {x : Str} {zs : List Str} (h : xf[i]? = some (.tupS x zs) := by rfl) : GTok K x zs := by
  have q := c.xf_ i h
  have q : GTb K x zs = true := q
  unfold GTb at q
  split at q
  · rename_i o e
    obtain ⟨a1, q⟩ := Bool.and_eq_true_iff.mp q
    obtain ⟨a2, q⟩ := Bool.and_eq_true_iff.mp q
    split at q
    · rename_i its n e2
      obtain ⟨a3, a4⟩ := Bool.and_eq_true_iff.mp q
      exact ⟨o, its, n, e, of_decide_eq_true a1, by simpa using a2, e2, of_decide_eq_true a3, vals_str (of_decide_eq_true a4)⟩
    · cases q
  · cases q
theorem Fz.cvS (c : Fz file fe xf fa fn K mg) (i : Nat) {x f : Str} {zs : List Str} (h : xf[i]? = some (.cvS x f zs) := by rfl) : CVb K x f zs = true := c.xf_ i h
theorem Fz.dflE (c : Fz file fe xf fa fn K mg) (i : Nat) {p : Str × Option Str} {j : Nat} (h : xf[i]? = some (.dflE p j) := by rfl) : ETb K (He.dflAt p j K) = true := c.xf_ i h
theorem Fz.exP (c : Fz file fe xf fa fn K mg) (i : Nat) {x : Str} (h : xf[i]? = some (.exP x) := by rfl) : PySem.W.excIn K (He.ga K x) He.veBase "ValueError.__new__" = true ∧ PySem.W.keepIn K (.ref (He.ga K x)) = true ∧ PySem.W.subIn K (.ref (He.ga K x)) (.type "BaseException") = some true ∧ PySem.W.typeIn K (.ref (He.ga K x)) = some (.type "type") := by
  have q := c.xf_ i h
  unfold Xf.ok at q
  obtain ⟨a1, q⟩ := Bool.and_eq_true_iff.mp q; obtain ⟨a2, q⟩ := Bool.and_eq_true_iff.mp q; obtain ⟨a3, a4⟩ := Bool.and_eq_true_iff.mp q
  exact ⟨a1, a2, of_decide_eq_true a3, of_decide_eq_true a4⟩
theorem Fz.ops (c : Fz file fe xf fa fn K mg) (i : Nat) {x : Str} (h : xf[i]? = some (.ops x) := by rfl) : PySem.W.selfFirst K (He.ga K x) = true ∧ PySem.W.noSeq K (He.ga K x) = true := by
  have q := c.xf_ i h
  unfold Xf.ok at q
  exact Bool.and_eq_true_iff.mp q
/-- facts for o op i, i an int -/
structure OpI (K : PySem.W.Frag) (C : Addr) (nm : String) : Prop where
  rc : ∃ rc, PySem.W.findIn K (.ref C) (dunderR nm) = some rc ∧ (rc = none ∨ ∃ g : Addr, rc = some (.ref g))
  fo : ∃ fo, PySem.W.findIn K (.type "int") (PySem.dunder nm) = some fo
  ro : ∃ ro, PySem.W.findIn K (.type "int") (dunderR nm) = some ro
  sub : PySem.W.subIn K (.type "int") (.ref C) = some false
  sub2 : PySem.W.subIn K (.ref C) (.type "int") = some false
theorem refN_of {x : Option (Option Value)} (h : refN x = true) : ∃ rc, x = some rc ∧ (rc = none ∨ ∃ g : Addr, rc = some (.ref g)) := by
  unfold refN at h
  split at h
  · exact ⟨_, rfl, .inl rfl⟩
  · exact ⟨_, rfl, .inr ⟨_, rfl⟩⟩
  · cases h
theorem Fz.opI (c : Fz file fe xf fa fn K mg) (i : Nat) {x : Str} {nm : String} (h : xf[i]? = some (.opI x nm) := by rfl) : OpI K (He.ga K x) nm := by
  have q := c.xf_ i h
  unfold Xf.ok at q
  obtain ⟨a1, q⟩ := Bool.and_eq_true_iff.mp q; obtain ⟨a2, q⟩ := Bool.and_eq_true_iff.mp q; obtain ⟨a3, q⟩ := Bool.and_eq_true_iff.mp q; obtain ⟨a4, a5⟩ := Bool.and_eq_true_iff.mp q
  exact ⟨refN_of a1, Option.isSome_iff_exists.mp a2, Option.isSome_iff_exists.mp a3, of_decide_eq_true a4, of_decide_eq_true a5⟩
theorem Fz.fnI (c : Fz file fe xf fa fn K mg) (i : Nat) {x m : Str} (h : xf[i]? = some (.fnI x m) := by rfl) : PySem.W.fnIn K (He.ma K (He.ga K x) m) = true := c.xf_ i h
theorem Fz.xnoat (c : Fz file fe xf fa fn K mg) (i : Nat) {x f : Str} (h : xf[i]? = some (.noat x f) := by rfl) : PySem.W.findIn K (.ref (He.ga K x)) f = some none := He.eqO_ok (c.xf_ i h)
end
/-- a call that may raise, at the wish W -/
theorem pcallS {X : Cx} {k : Nat} {ps : List Str} {sp : Sp} {W : WX} {x : Str} {p pos : Pos} {e : Expr} {es : List Expr} {t : TA} (F : FnX X.prog X.w X.K X.mg X.base (L2.CX X.prog X.w) k (x, none) ps sp) (hr : Room k X.A) (hg : Gl X x) (hm : X.mg x = some (.ref (He.ga X.K x))) (tk : Takes X W)
    (ha : PA X (e :: es) t) (hdb : (x == ("__debug__" : Str)) = false := by decide) (he : starEach (e :: es) X.env = (false, eval e X.env) :: starEach es X.env := by rfl) (hpl : (backTo pos (starEach es X.env)).any (·.1) = false := by rfl) :
    PE X (.Call (.Name x p) (e :: es) [] pos) (tCallS sp (WE W) t) := by
  obtain ⟨⟨fd, F, b⟩, kp⟩ := F
  exact pe_callS F hr hg hm kp b (fun σ => passAt tk σ) ha hdb he hpl
abbrev WF : WX := fun _ _ _ _ => False
abbrev W0 (E : XK) : WX := fun cls d _ H => E cls d H
def tRaise (t : L2.St → Hp → XK → Prop) (W : WX) : TS := fun _ σ H => t σ H fun cls d H' => W cls d σ H'
theorem praise {X : Cx} {W : WX} {e : Expr} {t : L2.St → Hp → XK → Prop} {pos : Pos} (hc : X.calm = true) (tk : Takes X W) (he : PMk X e t) : PS X (.Raise (some e) none pos) (tRaise t W) := ps_raise hc tk he
end Cl
/-! ## HeadC -/
namespace Cl
open PySem PySem.Spec PyProof.Rows L2
/-! ## the head's run in parts: a state amid the run, given in full -/
namespace Hc
open PySem.W HandSHeadRun
section
variable (st : SharedT → Thread → Option (SharedT × Thread)) (n0 : Nat) (ann : Option Value)
def goK : Nat → SharedT → Thread → Option (SharedT × Thread)
  | 0, s, t => some (s, t)
  | m + 1, s, t => match through t with
    | true => none
    | false => match stepOk n0 ann t with
      | false => none
      | true => match st s t with
        | some (s', t') => frS s' fun s' => goK m s' t'
        | none => none
end
theorem goK_go {st : SharedT → Thread → Option (SharedT × Thread)} {n0 : Nat} {ann : Option Value} : ∀ {k m : Nat} {s s' : SharedT} {t t' : Thread}, goK st n0 ann k s t = some (s', t') → goF st n0 ann (k + m) s t = goF st n0 ann m s' t'
  | 0, m, s, s', t, t', h => by
    cases h
    rw [Nat.zero_add]
  | k + 1, m, s, s', t, t', h => by
    rw [show k + 1 + m = (k + m) + 1 by omega]
    have h1 : (match through t with
      | true => none
      | false => match stepOk n0 ann t with
        | false => none
        | true => match st s t with
          | some (s', t') => frS s' fun s' => goK st n0 ann k s' t'
          | none => none) = some (s', t') := h
    show (match through t with
      | true => some s
      | false => match stepOk n0 ann t with
        | false => none
        | true => match st s t with
          | some (s', t') => frS s' fun s' => goF st n0 ann (k + m) s' t'
          | none => none) = _
    cases ht : through t with
    | true => rw [ht] at h1; cases h1
    | false =>
      rw [ht] at h1
      cases hk : stepOk n0 ann t with
      | false => rw [hk] at h1; cases h1
      | true =>
        rw [hk] at h1
        cases hs : st s t with
        | none => rw [hs] at h1; cases h1
        | some r =>
          obtain ⟨s2, t2⟩ := r
          rw [hs] at h1
          have h3 : (frS s2 fun s' => goK st n0 ann k s' t2) = some (s', t') := h1
          rw [frS_eq] at h3
          show (frS s2 fun s' => goF st n0 ann (k + m) s' t2) = _
          rw [frS_eq]
          exact goK_go h3
/-- a tree, node by node -/
def frT {α : Type} : BT → (BT → α) → α
  | .nil, k => k .nil
  | .node o l r, k => frT l fun l' => frT r fun r' => k (.node o l' r')
theorem frT_eq {α : Type} : ∀ (t : BT) (k : BT → α), frT t k = k t
  | .nil, k => rfl
  | .node o l r, k => by
    show (frT l fun l' => frT r fun r' => k (.node o l' r')) = _
    rw [frT_eq l, frT_eq r]
def fin1 : Option (SharedT × Thread) → Option (SharedT × Thread)
  | some (⟨T, n, life, gens, drawn, toks, os⟩, th) => frT T fun T => some (⟨T, n, life, gens, drawn, toks, os⟩, th)
  | none => none
theorem fin1_eq (x : Option (SharedT × Thread)) : fin1 x = x := by
  match x with
  | none => rfl
  | some (⟨T, n, life, gens, drawn, toks, os⟩, th) => exact frT_eq T _
/-- objects put at their addresses; objects put behind -/
def setT : BT → List (Nat × Obj) → BT
  | t, [] => t
  | t, (a, o) :: r => setT (t.set a fun _ => o) r
def addT : BT → Nat → List Obj → BT
  | t, _, [] => t
  | t, n, o :: r => addT (t.ins n o) (n + 1) r
/-- the boot's tree -/
noncomputable def bootB (w : World) : BT := match putAll (boot_heap w.params).objs.toList .nil 0 with
  | some (t, _) => t
  | none => .nil
noncomputable def bootOk (w : World) (N : Nat) : Option Nat := match putAll (boot_heap w.params).objs.toList .nil 0 with
  | some (_, n) => match Nat.beq n N with
    | true => some N
    | false => none
  | none => none
theorem end_boot {st : SharedT → Thread → Option (SharedT × Thread)} {M N : Nat} {p : Program} {w : World} {os : OsState} (h : bootOk w N = some N) : endF st M p w os = goF st N (bootAnn w) M (bootT w os (bootB w, N)) (topStub p) := by
  unfold endF bootB
  unfold bootOk at h
  cases e : putAll (boot_heap w.params).objs.toList .nil 0 with
  | none => rw [e] at h; cases h
  | some r =>
    obtain ⟨t, n⟩ := r
    rw [e] at h
    have h2 : (match Nat.beq n N with
      | true => some N
      | false => none) = some N := h
    cases q : Nat.beq n N with
    | false => rw [q] at h2; cases h2
    | true =>
      have en : n = N := Nat.eq_of_beq_eq_true q
      subst en
      show (frNat n fun n0 => goF st n0 (bootAnn w) M (bootT w os (t, n0)) (topStub p)) = _
      rw [frNat_eq]
/-- the code of the text from a statement on -/
noncomputable def restCur (rest : List Stmt) (env : Env) : Sem Fin :=
  PySem.W.R.bindR (PySem.W.R.onRaiseR (PySem.W.Fast.tw12563942051412417395 rest env) (PySem.W.Fast.tw9442747609961115081 env)) fun f => Sem.pure (Fin.done f)
noncomputable def cutTh (p : Program) (i : Nat) (code : Addr) (frame : Addr) (pos : Pos) : Thread :=
  ⟨restCur ((behindTheImports p).drop i) { scope := p.main.scope, locals := mainNs, globals := mainNs, cells := [], code := .ref code, frame := some frame },
   .body (behindTheImports p) { scope := p.main.scope, locals := mainNs, globals := mainNs, cells := [], code := .ref code, frame := some frame }, pos, [topFrame ⟨0, 0, 0, 0⟩]⟩
theorem cut_boot {st : SharedT → Thread → Option (SharedT × Thread)} {k m N : Nat} {p : Program} {w : World} {os : OsState} {s : SharedT} {t : Thread} (h : bootOk w N = some N)
    (e : fin1 (goK st N (bootAnn w) k (bootT w os (bootB w, N)) (topStub p)) = fin1 (some (s, t))) : endF st (k + m) p w os = goF st N (bootAnn w) m s t := by
  rw [end_boot h]
  rw [fin1_eq, fin1_eq] at e
  exact goK_go e
theorem cut_next {st : SharedT → Thread → Option (SharedT × Thread)} {k m N : Nat} {ann : Option Value} {s s' : SharedT} {t t' : Thread}
    (e : fin1 (goK st N ann k s t) = fin1 (some (s', t'))) : goF st N ann (k + m) s t = goF st N ann m s' t' := by
  rw [fin1_eq, fin1_eq] at e
  exact goK_go e
/-- the object of a def -/
def fD (s : Stmt) (nm q : Str) (g : Addr) (clo : List (Str × Addr)) (dfl kwd mod : Value) (ann : Option Addr) (code ct : Value) (b : Addr) : Data :=
  .func ⟨nm, q, defArgs s, .stmts (defBody s), defScope s, g, clo, dfl, kwd, .none, mod, ann, code, ct, b⟩
end Hc
end Cl
/-! ## HeadT -/
namespace Cl.HeadT
open PySem PySem.Spec PyProof.Rows L2 PySem.W HandSHeadRun Hc
abbrev R : PySem.W.OpenRow := PySem.W.OpenLaw.row PySem.Challenge.rw_depotday_k05_book_parts
def top (i : Nat) : Stmt := PySem.Challenge.pw_depotday_k05_book_parts.main.body.getD i (.Pass ⟨0, 0, 0, 0⟩)
def ent (P : Params) (x : Str) (t : Nat) (v : Value) : DictEntry := ⟨PyData.keyHash P x, .str x t, v⟩
def h1 : Obj := ⟨.type "tuple", none, .seq #[] 0, #[]⟩
def h3 (a : Nat) (x0 : Str) (x1 : Nat) (x2 : Int) (x3 : Int): Obj := ⟨.type "code", none, .fields #[.str x0 x1, .str x0 (x1 + 1), .str "/claim/cut.py" (x1 + 2), .int (x2) 0, .int (0) 0, .int (0) 0, .int (0) 0, .int (0) 0, .ref (a - 2), .bool false, .int (181) 0, .ref (a - 1), .none, .none, .none, .none, .int (x3) 0, .int (x2) 0, .str "/claim/cut.py" (x1 + 4)], #[]⟩
def h4 (a : Nat) (x0 : Nat) (x1 : Str) (x2 : Nat): Obj := ⟨.type "frame", none, .plain, #[some (.ref (a - 1)), some (.ref 3), some (.ref x0), none, some (.str x1 x2), none, some (.ref 0)]⟩
def h5 : Obj := ⟨.none, none, .fields #[], #[]⟩
def h6 (x0 : Str) (x1 : Nat): Obj := ⟨.type "tuple", none, .seq #[.str x0 x1] 0, #[]⟩
def h7 (x0 : Stmt) (x1 : Str) (x2 : Str): Obj := ⟨.none, none, fD x0 x1 x2 0 [] (.none) (.none) (.none) (none) (.none) (.none) 0, #[]⟩
def h8 (a : Nat) (x0 : Str) (x1 : Nat) (x2 : Str) (x3 : Int) (x4 : Int) (x5 : Int) (x6 : Nat): Obj := ⟨.type "code", none, .fields #[.str x0 x1, .str x2 (x1 + 1), .str "/claim/cut.py" (x1 + 2), .int (x3) 0, .int (x4) 0, .int (0) 0, .int (0) 0, .int (3) 0, .ref (a - 5), .bool true, .int (181) 0, .ref (a - 4), .none, .ref (a - 3), .ref (a - 2), .ref (a - 1), .int (x5) 0, .int (x3) 0, .str "/claim/cut.py" x6], #[]⟩
def h9 (a : Nat) (x0 : Stmt) (x1 : Str) (x2 : Str) (x3 : Str) (x4 : Nat): Obj := ⟨.type "function", none, fD x0 x1 x2 3 [] (.none) (.none) (.str x3 x4) (none) (.ref (a - 1)) (.none) 0, #[]⟩
def h11 : Obj := ⟨.type "builtin_function_or_method", none, .fields #[.builtin "type.__prepare__", .type "type"], #[]⟩
def h13 (P : Params) (x0 : Nat) (x1 : Int) (x2 : Str) (x3 : Nat) (x4 : Nat) (x5 : Str) (x6 : Nat) (x7 : Nat) (x8 : Nat): Obj := ⟨.type "dict", none, .dict #[ent P "__module__" x0 (.str "depotday.errors" 194), ent P "__firstlineno__" (x0 + 4) (.int (x1) (x0 + 3)), ent P x2 x3 (.ref x4), ent P x5 x6 (.ref x7), ent P "__doc__" x8 (.none)] 3, #[]⟩
def h15 (x0 : Nat) (x1 : Nat): Obj := ⟨.type "getset_descriptor", none, .fields #[.str "__weakref__" x0, .ref x1, .builtin "ExceptionGroup.__weakref__", .none], #[]⟩
def h16 (x0 : Nat): Obj := ⟨.type "super", none, .fields #[.ref x0, .ref x0, .ref x0], #[]⟩
def h17 (x0 : Nat): Obj := ⟨.type "builtin_function_or_method", none, .fields #[.builtin "object.__init_subclass__", .ref x0], #[]⟩
def h18 (x0 : Nat): Obj := ⟨.type "tuple", none, .seq #[.ref x0] 0, #[]⟩
def h19 (P : Params) (a : Nat) (x0 : Nat) (x1 : Str) (x2 : Int) (x3 : Nat) (x4 : Nat): Obj := ⟨.type "dict", none, .dict #[ent P "__module__" x0 (.str "depotday.errors" 194), ent P "__qualname__" (x0 + 2) (.str x1 (x0 + 1)), ent P "__firstlineno__" (x0 + 4) (.int (x2) (x0 + 3)), ent P "__init__" x3 (.ref (a + 13)), ent P "__static_attributes__" x4 (.ref (a + 14)), ent P "__classcell__" (x4 + 1) (.ref (a + 1))] 6, #[]⟩
def h20 (a : Nat) : Obj := ⟨.type "cell", none, .cell (some (.ref (a + 15))), #[]⟩
def h21 (a : Nat) (x0 : Int): Obj := ⟨.none, none, .fields #[.int (x0) 0, .int (4) 0, .ref (a + 9)], #[]⟩
def h23 (a : Nat) (x0 : Stmt) (x1 : Str): Obj := ⟨.type "function", none, fD x0 "__init__" x1 3 [("__class__", (a - 12))] (.none) (.none) (.str "depotday.errors" 194) (none) (.ref (a - 1)) (.ref (a - 7)) 0, #[]⟩
def h24 (x0 : Str) (x1 : Nat) (x2 : Str): Obj := ⟨.type "tuple", none, .seq #[.str x0 x1, .str x2 (x1 + 1)] 0, #[]⟩
def h25 (a : Nat) (x0 : Str) (x1 : Nat): Obj := ⟨.type "type", none, .cls ⟨x0, [.ref 31], [.ref a, .ref 31, .type "ValueError", .type "Exception", .type "BaseException", .type "object"], (a - 1), x0, true, [], [], false, none, false⟩, #[some (.ref (a - 18)), none, some (.str x0 x1), some (.str x0 (x1 + 8)), some (.builtin "ValueError.__new__"), some (.bool true)]⟩
def h28 (a : Nat) (x0 : Str) (x1 : Nat) (x2 : Str) (x3 : Int) (x4 : Int) (x5 : Int): Obj := ⟨.type "code", none, .fields #[.str x0 x1, .str x2 (x1 + 1), .str "/claim/cut.py" (x1 + 2), .int (x3) 0, .int (x4) 0, .int (0) 0, .int (0) 0, .int (3) 0, .ref (a - 3), .bool true, .int (181) 0, .ref (a - 2), .none, .none, .none, .ref (a - 1), .int (x5) 0, .int (x3) 0, .str "/claim/cut.py" (x1 + 4)], #[]⟩
def m0 (P : Params) : List (Nat × Obj) := [(3, ⟨.type "dict", none, .dict #[ent P "__name__" 165 (.str "depotday.errors" 194), ent P "__doc__" 166 (.none), ent P "__package__" 167 (.none), ent P "__loader__" 168 (.builtin "__main__.__loader__#opaque"), ent P "__spec__" 169 (.none), ent P "__annotations__" 170 (.ref 6), ent P "__builtins__" 171 (.ref 4), ent P "__file__" 173 (.str "/claim/cut.py" 172), ent P "__cached__" 174 (.none), ent P "_wall" 193 (.ref 21), ent P "DepotError" 213 (.ref 31), ent P "BadBook" 242 (.ref 53), ent P "UnknownName" 269 (.ref 74), ent P "UnknownPage" 296 (.ref 95)] 14, #[]⟩)]
def l0_0 (P : Params) : List Obj := [h1, ⟨.none, none, .fields #[.int (1) 0, .int (0) 0, .ref 20, .int (5) 0, .int (0) 0, .ref 27, .int (7) 0, .int (0) 0, .ref 41, .int (13) 0, .int (0) 0, .ref 62, .int (18) 0, .int (0) 0, .ref 83], #[]⟩, h3 13 "<module>" 182 1 185, h4 14 3 "__main__" 164, h1, h5, h6 "k" 190, h1, h7 (top 0) "_wall" "_wall", h8 20 "_wall" 187 "_wall" 1 1 191 192, h9 21 (top 0) "_wall" "_wall" "__main__" 164, ⟨.type "tuple", none, .seq #[.type "ValueError"] 0, #[]⟩, h11, ⟨.type "dict", none, .dict #[ent P "__module__" 203 (.str "depotday.errors" 194), ent P "__qualname__" 205 (.str "DepotError" 204), ent P "__firstlineno__" 207 (.int (5) 206), ent P "__static_attributes__" 208 (.ref 29)] 4, #[]⟩, h1, h5, h3 27 "DepotError" 198 5 201, h4 28 24 "depotday.errors" 194, h1, h13 P 203 5 "__static_attributes__" 208 29 "__weakref__" 210 32 211, ⟨.type "type", none, .cls ⟨"DepotError", [.type "ValueError"], [.ref 31, .type "ValueError", .type "Exception", .type "BaseException", .type "object"], 30, "DepotError", true, [], [.ref 53, .ref 74, .ref 95], false, none, false⟩, #[some (.ref 22), none, some (.str "DepotError" 196), some (.str "DepotError" 204), some (.builtin "ValueError.__new__"), some (.bool true)]⟩, h15 209 31, h16 31, h17 31, h18 31, h11, h19 P 37 221 "BadBook" 7 235 238, h20 38, h1, h21 40 9, h3 41 "BadBook" 216 7 219, h4 42 37 "depotday.errors" 194, h18 38, h6 "__class__" 229, h5, ⟨.type "tuple", none, .seq #[.str "self" 230, .str "part" 231, .str "place" 232] 0, #[]⟩, h1, h7 (inClass (top 3) 0) "__init__" "BadBook.__init__", h8 49 "__init__" 226 "BadBook.__init__" 9 3 233 234, h23 50 (inClass (top 3) 0) "BadBook.__init__", h24 "part" 236 "place", h13 P 221 7 "__init__" 235 50 "__static_attributes__" 238 51 240, h25 53 "BadBook" 214, h16 53, h17 53, h18 31, h11, h19 P 58 250 "UnknownName" 13 263 265, h20 59, h1]
def l0_1 (P : Params) : List Obj := [h21 61 15, h3 62 "UnknownName" 245 13 248, h4 63 58 "depotday.errors" 194, h18 59, h6 "__class__" 258, h5, h24 "self" 259 "name", h1, h7 (inClass (top 4) 0) "__init__" "UnknownName.__init__", h8 70 "__init__" 255 "UnknownName.__init__" 15 2 261 262, h23 71 (inClass (top 4) 0) "UnknownName.__init__", h6 "name" 264, h13 P 250 13 "__init__" 263 71 "__static_attributes__" 265 72 267, h25 74 "UnknownName" 243, h16 74, h17 74, h18 31, h11, h19 P 79 277 "UnknownPage" 18 290 292, h20 80, h1, h21 82 20, h3 83 "UnknownPage" 272 18 275, h4 84 79 "depotday.errors" 194, h18 80, h6 "__class__" 285, h5, h24 "self" 286 "number", h1, h7 (inClass (top 5) 0) "__init__" "UnknownPage.__init__", h8 91 "__init__" 282 "UnknownPage.__init__" 20 2 288 289, h23 92 (inClass (top 5) 0) "UnknownPage.__init__", h6 "number" 291, h13 P 277 18 "__init__" 290 92 "__static_attributes__" 292 93 294, h25 95 "UnknownPage" 270, h16 95, h17 95]
def l0 (P : Params) : List Obj := l0_0 P ++ (l0_1 P)
noncomputable def T0 (w : World) : BT := addT (setT (bootB w) (m0 w.params)) 11 (l0 w.params)
noncomputable def S0 (w : World) (os : OsState) : SharedT := ⟨T0 w, 98, {}, #[], {}, 297, os⟩
noncomputable def th0 : Thread := cutTh R.prog 6 13 14 ⟨18, 0, 22, 28⟩
def m1 (P : Params) : List (Nat × Obj) := [(3, ⟨.type "dict", none, .dict #[ent P "__name__" 165 (.str "depotday.books" 322), ent P "__doc__" 166 (.none), ent P "__package__" 167 (.none), ent P "__loader__" 168 (.builtin "__main__.__loader__#opaque"), ent P "__spec__" 169 (.none), ent P "__annotations__" 170 (.ref 6), ent P "__builtins__" 171 (.ref 4), ent P "__file__" 173 (.str "/claim/cut.py" 172), ent P "__cached__" 174 (.none), ent P "_wall" 193 (.ref 21), ent P "DepotError" 213 (.ref 31), ent P "BadBook" 242 (.ref 53), ent P "UnknownName" 269 (.ref 74), ent P "UnknownPage" 296 (.ref 95), ent P "LETTERS" 300 (.str "abcdefghijklmnopqrstuvwxyz" 299), ent P "MOST_LETTERS" 302 (.int (8) 301), ent P "is_name" 308 (.ref 102), ent P "all_different" 315 (.ref 109), ent P "are_names" 321 (.ref 114), ent P "MOST_PAGES" 325 (.int (4) 324), ent P "MOST_LINES" 327 (.int (8) 326), ent P "are_some_of" 333 (.ref 119), ent P "Book" 456 (.ref 216)] 23, #[]⟩), (12, ⟨.none, none, .fields #[.int (1) 0, .int (0) 0, .ref 20, .int (5) 0, .int (0) 0, .ref 27, .int (7) 0, .int (0) 0, .ref 41, .int (13) 0, .int (0) 0, .ref 62, .int (18) 0, .int (0) 0, .ref 83, .int (26) 0, .int (0) 0, .ref 101, .int (28) 0, .int (0) 0, .ref 108, .int (30) 0, .int (0) 0, .ref 113, .int (35) 0, .int (0) 0, .ref 118, .int (37) 0, .int (0) 0, .ref 125], #[]⟩)]
def l1_0 (P : Params) : List Obj := [h1, h5, h7 (top 9) "is_name" "is_name", h28 101 "is_name" 303 "is_name" 26 1 306, h9 102 (top 9) "is_name" "is_name" "depotday.names" 297, h1, h5, h6 "things" 312, h1, h7 (top 10) "all_different" "all_different", h8 108 "all_different" 309 "all_different" 28 1 313 314, h9 109 (top 10) "all_different" "all_different" "depotday.names" 297, h1, h5, h7 (top 11) "are_names" "are_names", h28 113 "are_names" 316 "are_names" 30 1 319, h9 114 (top 11) "are_names" "are_names" "depotday.names" 297, h1, h5, h7 (top 15) "are_some_of" "are_some_of", h28 118 "are_some_of" 328 "are_some_of" 35 2 331, h9 119 (top 15) "are_some_of" "are_some_of" "depotday.books" 322, h1, h11, ⟨.type "dict", none, .dict #[ent P "__module__" 341 (.str "depotday.books" 322), ent P "__qualname__" 343 (.str "Book" 342), ent P "__firstlineno__" 345 (.int (37) 344), ent P "__init__" 351 (.ref 131), ent P "indexes_of" 357 (.ref 136), ent P "__len__" 364 (.ref 143), ent P "__eq__" 372 (.ref 150), ent P "check_page" 380 (.ref 157), ent P "lines_of" 388 (.ref 164), ent P "followers_of" 396 (.ref 171), ent P "index" 404 (.ref 178), ent P "is_walk" 412 (.ref 185), ent P "allowed_after" 420 (.ref 192), ent P "walks" 428 (.ref 199), ent P "count_walks" 436 (.ref 206), ent P "reachable" 443 (.ref 213), ent P "__static_attributes__" 448 (.ref 214)] 17, #[]⟩, h1, ⟨.none, none, .fields #[.int (39) 0, .int (4) 0, .ref 130, .int (58) 0, .int (4) 0, .ref 135, .int (61) 0, .int (4) 0, .ref 142, .int (64) 0, .int (4) 0, .ref 149, .int (67) 0, .int (4) 0, .ref 156, .int (71) 0, .int (4) 0, .ref 163, .int (75) 0, .int (4) 0, .ref 170, .int (79) 0, .int (4) 0, .ref 177, .int (84) 0, .int (4) 0, .ref 184, .int (87) 0, .int (4) 0, .ref 191, .int (90) 0, .int (4) 0, .ref 198, .int (93) 0, .int (4) 0, .ref 205, .int (96) 0, .int (4) 0, .ref 212], #[]⟩, h3 125 "Book" 336 37 339, h4 126 122 "depotday.books" 322, h1, h5, h7 (inClass (top 16) 0) "__init__" "Book.__init__", h28 130 "__init__" 346 "Book.__init__" 39 3 349, h9 131 (inClass (top 16) 0) "__init__" "Book.__init__" "depotday.books" 322, h1, h5, h7 (inClass (top 16) 1) "indexes_of" "Book.indexes_of", h28 135 "indexes_of" 352 "Book.indexes_of" 58 2 355, h9 136 (inClass (top 16) 1) "indexes_of" "Book.indexes_of" "depotday.books" 322, h1, h5, h6 "self" 361, h1, h7 (inClass (top 16) 2) "__len__" "Book.__len__", h8 142 "__len__" 358 "Book.__len__" 61 1 362 363, h9 143 (inClass (top 16) 2) "__len__" "Book.__len__" "depotday.books" 322, h1, h5, h24 "self" 368 "other", h1]
def l1_1 (P : Params) : List Obj := [h7 (inClass (top 16) 3) "__eq__" "Book.__eq__", h8 149 "__eq__" 365 "Book.__eq__" 64 2 370 371, h9 150 (inClass (top 16) 3) "__eq__" "Book.__eq__" "depotday.books" 322, h1, h5, h24 "self" 376 "index", h1, h7 (inClass (top 16) 4) "check_page" "Book.check_page", h8 156 "check_page" 373 "Book.check_page" 67 2 378 379, h9 157 (inClass (top 16) 4) "check_page" "Book.check_page" "depotday.books" 322, h1, h5, h24 "self" 384 "index", h1, h7 (inClass (top 16) 5) "lines_of" "Book.lines_of", h8 163 "lines_of" 381 "Book.lines_of" 71 2 386 387, h9 164 (inClass (top 16) 5) "lines_of" "Book.lines_of" "depotday.books" 322, h1, h5, h24 "self" 392 "index", h1, h7 (inClass (top 16) 6) "followers_of" "Book.followers_of", h8 170 "followers_of" 389 "Book.followers_of" 75 2 394 395, h9 171 (inClass (top 16) 6) "followers_of" "Book.followers_of" "depotday.books" 322, h1, h5, h24 "self" 400 "name", h1, h7 (inClass (top 16) 7) "index" "Book.index", h8 177 "index" 397 "Book.index" 79 2 402 403, h9 178 (inClass (top 16) 7) "index" "Book.index" "depotday.books" 322, h1, h5, h24 "self" 408 "names", h1, h7 (inClass (top 16) 8) "is_walk" "Book.is_walk", h8 184 "is_walk" 405 "Book.is_walk" 84 2 410 411, h9 185 (inClass (top 16) 8) "is_walk" "Book.is_walk" "depotday.books" 322, h1, h5, h24 "self" 416 "indexes", h1, h7 (inClass (top 16) 9) "allowed_after" "Book.allowed_after", h8 191 "allowed_after" 413 "Book.allowed_after" 87 2 418 419, h9 192 (inClass (top 16) 9) "allowed_after" "Book.allowed_after" "depotday.books" 322, h1, h5, h24 "self" 424 "rounds", h1, h7 (inClass (top 16) 10) "walks" "Book.walks"]
def l1_2 (P : Params) : List Obj := [h8 198 "walks" 421 "Book.walks" 90 2 426 427, h9 199 (inClass (top 16) 10) "walks" "Book.walks" "depotday.books" 322, h1, h5, h24 "self" 432 "rounds", h1, h7 (inClass (top 16) 11) "count_walks" "Book.count_walks", h8 205 "count_walks" 429 "Book.count_walks" 93 2 434 435, h9 206 (inClass (top 16) 11) "count_walks" "Book.count_walks" "depotday.books" 322, h1, h5, h6 "self" 440, h1, h7 (inClass (top 16) 12) "reachable" "Book.reachable", h8 212 "reachable" 437 "Book.reachable" 96 1 441 442, h9 213 (inClass (top 16) 12) "reachable" "Book.reachable" "depotday.books" 322, ⟨.type "tuple", none, .seq #[.str "names" 444, .str "page_followers" 445, .str "page_lines" 446, .str "starts" 447] 0, #[]⟩, ⟨.type "dict", none, .dict #[ent P "__module__" 341 (.str "depotday.books" 322), ent P "__firstlineno__" 345 (.int (37) 344), ent P "__init__" 351 (.ref 131), ent P "indexes_of" 357 (.ref 136), ent P "__len__" 364 (.ref 143), ent P "__eq__" 372 (.ref 150), ent P "check_page" 380 (.ref 157), ent P "lines_of" 388 (.ref 164), ent P "followers_of" 396 (.ref 171), ent P "index" 404 (.ref 178), ent P "is_walk" 412 (.ref 185), ent P "allowed_after" 420 (.ref 192), ent P "walks" 428 (.ref 199), ent P "count_walks" 436 (.ref 206), ent P "reachable" 443 (.ref 213), ent P "__static_attributes__" 448 (.ref 214), ent P "__dict__" 450 (.ref 217), ent P "__weakref__" 452 (.ref 218), ent P "__doc__" 453 (.none), ent P "__hash__" 454 (.none)] 5, #[]⟩, ⟨.type "type", none, .cls ⟨"Book", [.type "object"], [.ref 216, .type "object"], 215, "Book", true, [], [], false, none, false⟩, #[none, none, some (.str "Book" 334), some (.str "Book" 342), some (.builtin "object.__new__"), some (.bool true)]⟩, ⟨.type "getset_descriptor", none, .fields #[.str "__dict__" 449, .ref 216, .builtin "function.__dict__", .builtin "function.__dict__#set"], #[]⟩, h15 451 216, h16 216, h17 216]
def l1 (P : Params) : List Obj := l1_0 P ++ (l1_1 P ++ (l1_2 P))
noncomputable def T1 (w : World) : BT := addT (setT (T0 w) (m1 w.params)) 98 (l1 w.params)
noncomputable def S1 (w : World) (os : OsState) : SharedT := ⟨T1 w, 221, {}, #[], {}, 457, os⟩
noncomputable def th1 : Thread := cutTh R.prog 17 13 14 ⟨37, 0, 97, 16⟩
theorem bok (w : World) : bootOk w 11 = some 11 := by kernel_rfl
theorem c0 (w : World) (os : OsState) : fin1 (goK (stepQ (denQ tabQ) R.prog w) 11 (bootAnn w) 1021 (bootT w os (bootB w, 11)) (topStub R.prog)) = fin1 (some (S0 w os, th0)) := by kernel_rfl
theorem c1 (w : World) (os : OsState) : frT (T0 w) (fun T => fin1 (goK (stepQ (denQ tabQ) R.prog w) 11 (bootAnn w) 766 ⟨T, 98, {}, #[], {}, 297, os⟩ th0)) = fin1 (some (S1 w os, th1)) := by kernel_rfl
/-- the end of the run, from the last state given -/
noncomputable def endT (w : World) (os : OsState) : Option SharedT := frT (T1 w) fun T => goF (stepQ (denQ tabQ) R.prog w) 11 (bootAnn w) 58213 ⟨T, 221, {}, #[], {}, 457, os⟩ th1
theorem end_eq (w : World) (os : OsState) : endF (stepQ (denQ tabQ) R.prog w) 60000 R.prog w os = endT w os := by
  unfold endT
  rw [frT_eq]
  refine (cut_boot (k := 1021) (m := 58979) (bok w) (c0 w os)).trans ?_
  refine (cut_next (k := 766) (m := 58213) (show fin1 (goK (stepQ (denQ tabQ) R.prog w) 11 (bootAnn w) 766 (S0 w os) th0) = fin1 (some (S1 w os, th1)) from (by have z := c1 w os; rw [frT_eq] at z; exact z))).trans ?_
  rfl
end Cl.HeadT
/-! ## HkY -/
namespace Cl
open PySem PySem.Spec PyProof.Rows L2
/-! ## the head's Hook over the objects that the named globals reach (fewer than Hk's: less memory) -/
namespace Hz
open PySem.W He
def isCodeY : Value → Bool
  | .type n => n == "code"
  | _ => false
def refsY (o : Obj) : List Addr := match isCodeY o.cls with
  | true => []
  | false => refsZ o
def kidY (g : Addr → Option Obj) (a : Addr) : List Addr := match g a with
  | some o => refsY o
  | none => []
def bfsY (g : Addr → Option Obj) : Nat → Nat → List Addr → List Addr
  | 0, _, fr => fr
  | n + 1, m, fr => fr ++ (match visZ m [] (fr.flatMap (kidY g)) with
    | (m', new) => bfsY g n m' new)
def asY (nms : List Str) (g : Addr → Option Obj) (n : Nat) : List Addr := match visZ 0 [] [mainGlobals, cStatics] with
  | (m, new) => new ++ (match visZ m [] (nms.map (ga (frG g [mainGlobals]))) with
    | (m', fr) => bfsY g n m' fr)
def obsY (nms : List Str) (file : Str) (n : Nat) (fa : List Fa) (fn : List DefD) (fe : List ExD) (ex : Frag → Bool) (g : Addr → Option Obj) : AlZ := obsZ file fa fn fe ex (frG g (asY nms g n))
def hookY (nms : List Str) (file : Str) (n : Nat) (fa : List Fa) (fn : List DefD) (fe : List ExD) (ex : Frag → Bool) : Hook where
  α := AlZ
  obs := fun s => obsY nms file n fa fn fe ex s.heap.get?
  val := fun _ => valZ fn fe
  says := fun _ h => ∃ K : Frag, K.In h ∧ Says file fa fn fe ex K
  of := fun _ _ e => ⟨_, frG_in, e⟩
  keeps := fun _ _ _ ⟨K, hK, c⟩ k => ⟨K, Frag.In.keeps hK k, c⟩
theorem obsY_eq {nms : List Str} {file : Str} {n : Nat} {fa : List Fa} {fn : List DefD} {fe : List ExD} {ex : Frag → Bool} {g : Addr → Option Obj} {s : Shared} (h : ∀ a, g a = s.heap.get? a) : obsY nms file n fa fn fe ex g = (hookY nms file n fa fn fe ex).obs s := by
  have e : g = s.heap.get? := funext h
  rw [e] <;> rfl
end Hz
end Cl
/-! ## HeadE -/
namespace Cl.HeadE
open PySem PySem.Spec PyProof.Rows L2
def top (i : Nat) : Stmt := PySem.Challenge.pw_depotday_k05_book_parts.main.body.getD i (.Pass ⟨0, 0, 0, 0⟩)
abbrev s_l_cell : Stmt := top 18
def d_l_cell : He.DefD := ⟨("_law_cell", none), "_law_cell", "_law_cell", defArgs s_l_cell, defBody s_l_cell, defScope s_l_cell, [], []⟩
abbrev s_l_pool : Stmt := top 19
def d_l_pool : He.DefD := ⟨("_law_pool", none), "_law_pool", "_law_pool", defArgs s_l_pool, defBody s_l_pool, defScope s_l_pool, [], []⟩
abbrev s_l_take : Stmt := top 20
def d_l_take : He.DefD := ⟨("_law_take", none), "_law_take", "_law_take", defArgs s_l_take, defBody s_l_take, defScope s_l_take, [], []⟩
abbrev s_l_word : Stmt := top 22
def d_l_word : He.DefD := ⟨("_law_word", none), "_law_word", "_law_word", defArgs s_l_word, defBody s_l_word, defScope s_l_word, [], []⟩
abbrev s_l_words : Stmt := top 23
def d_l_words : He.DefD := ⟨("_law_words", none), "_law_words", "_law_words", defArgs s_l_words, defBody s_l_words, defScope s_l_words, [], []⟩
abbrev s_l_some : Stmt := top 24
def d_l_some : He.DefD := ⟨("_law_some", none), "_law_some", "_law_some", defArgs s_l_some, defBody s_l_some, defScope s_l_some, [], []⟩
abbrev s_l_sheets : Stmt := top 25
def d_l_sheets : He.DefD := ⟨("_law_sheets", none), "_law_sheets", "_law_sheets", defArgs s_l_sheets, defBody s_l_sheets, defScope s_l_sheets, [], []⟩
abbrev s_l_handed : Stmt := top 27
def d_l_handed : He.DefD := ⟨("_law_handed", none), "_law_handed", "_law_handed", defArgs s_l_handed, defBody s_l_handed, defScope s_l_handed, [], []⟩
abbrev s_is_name : Stmt := top 9
def d_is_name : He.DefD := ⟨("is_name", none), "is_name", "is_name", defArgs s_is_name, defBody s_is_name, defScope s_is_name, [], []⟩
abbrev s_all_different : Stmt := top 10
def d_all_different : He.DefD := ⟨("all_different", none), "all_different", "all_different", defArgs s_all_different, defBody s_all_different, defScope s_all_different, [], []⟩
abbrev s_are_names : Stmt := top 11
def d_are_names : He.DefD := ⟨("are_names", none), "are_names", "are_names", defArgs s_are_names, defBody s_are_names, defScope s_are_names, [], []⟩
abbrev s_are_some_of : Stmt := top 15
def d_are_some_of : He.DefD := ⟨("are_some_of", none), "are_some_of", "are_some_of", defArgs s_are_some_of, defBody s_are_some_of, defScope s_are_some_of, [], []⟩
abbrev s_Book_indexes_of : Stmt := inClass (top 16) 1
def d_Book_indexes_of : He.DefD := ⟨("Book", some "indexes_of"), "indexes_of", "Book.indexes_of", defArgs s_Book_indexes_of, defBody s_Book_indexes_of, defScope s_Book_indexes_of, [], []⟩
abbrev s_Book___init__ : Stmt := inClass (top 16) 0
def d_Book___init__ : He.DefD := ⟨("Book", some "__init__"), "__init__", "Book.__init__", defArgs s_Book___init__, defBody s_Book___init__, defScope s_Book___init__, [], []⟩
abbrev s_l_same : Stmt := top 21
def d_l_same : He.DefD := ⟨("_law_same", none), "_law_same", "_law_same", defArgs s_l_same, defBody s_l_same, defScope s_l_same, [], []⟩
abbrev s_l_places : Stmt := top 26
def d_l_places : He.DefD := ⟨("_law_places", none), "_law_places", "_law_places", defArgs s_l_places, defBody s_l_places, defScope s_l_places, [], []⟩
abbrev s_Book___len__ : Stmt := inClass (top 16) 2
def d_Book___len__ : He.DefD := ⟨("Book", some "__len__"), "__len__", "Book.__len__", defArgs s_Book___len__, defBody s_Book___len__, defScope s_Book___len__, [], []⟩
abbrev s_Book_check_page : Stmt := inClass (top 16) 4
def d_Book_check_page : He.DefD := ⟨("Book", some "check_page"), "check_page", "Book.check_page", defArgs s_Book_check_page, defBody s_Book_check_page, defScope s_Book_check_page, [], []⟩
abbrev s_Book_lines_of : Stmt := inClass (top 16) 5
def d_Book_lines_of : He.DefD := ⟨("Book", some "lines_of"), "lines_of", "Book.lines_of", defArgs s_Book_lines_of, defBody s_Book_lines_of, defScope s_Book_lines_of, [], []⟩
abbrev s_Book_followers_of : Stmt := inClass (top 16) 6
def d_Book_followers_of : He.DefD := ⟨("Book", some "followers_of"), "followers_of", "Book.followers_of", defArgs s_Book_followers_of, defBody s_Book_followers_of, defScope s_Book_followers_of, [], []⟩
abbrev s_Book_index : Stmt := inClass (top 16) 7
def d_Book_index : He.DefD := ⟨("Book", some "index"), "index", "Book.index", defArgs s_Book_index, defBody s_Book_index, defScope s_Book_index, [], []⟩
abbrev s_l_shows : Stmt := top 28
def d_l_shows : He.DefD := ⟨("_law_shows", none), "_law_shows", "_law_shows", defArgs s_l_shows, defBody s_l_shows, defScope s_l_shows, [], []⟩
abbrev s_l_asked : Stmt := top 29
def d_l_asked : He.DefD := ⟨("_law_asked", none), "_law_asked", "_law_asked", defArgs s_l_asked, defBody s_l_asked, defScope s_l_asked, [], []⟩
abbrev s_l_refuses_page : Stmt := top 30
def d_l_refuses_page : He.DefD := ⟨("_law_refuses_page", none), "_law_refuses_page", "_law_refuses_page", defArgs s_l_refuses_page, defBody s_l_refuses_page, defScope s_l_refuses_page, [], []⟩
abbrev s_l_refuses_name : Stmt := top 31
def d_l_refuses_name : He.DefD := ⟨("_law_refuses_name", none), "_law_refuses_name", "_law_refuses_name", defArgs s_l_refuses_name, defBody s_l_refuses_name, defScope s_l_refuses_name, [], []⟩
abbrev s_Book___eq__ : Stmt := inClass (top 16) 3
def d_Book___eq__ : He.DefD := ⟨("Book", some "__eq__"), "__eq__", "Book.__eq__", defArgs s_Book___eq__, defBody s_Book___eq__, defScope s_Book___eq__, [], []⟩
abbrev s_l_other_some : Stmt := top 32
def d_l_other_some : He.DefD := ⟨("_law_other_some", none), "_law_other_some", "_law_other_some", defArgs s_l_other_some, defBody s_l_other_some, defScope s_l_other_some, [], []⟩
abbrev s_l_renamed : Stmt := top 33
def d_l_renamed : He.DefD := ⟨("_law_renamed", none), "_law_renamed", "_law_renamed", defArgs s_l_renamed, defBody s_l_renamed, defScope s_l_renamed, [], []⟩
abbrev s_l_near : Stmt := top 34
def d_l_near : He.DefD := ⟨("_law_near", none), "_law_near", "_law_near", defArgs s_l_near, defBody s_l_near, defScope s_l_near, [], []⟩
abbrev s_l_unlike : Stmt := top 35
def d_l_unlike : He.DefD := ⟨("_law_unlike", none), "_law_unlike", "_law_unlike", defArgs s_l_unlike, defBody s_l_unlike, defScope s_l_unlike, [], []⟩
abbrev s_law : Stmt := top 36
def d_law : He.DefD := ⟨("law", none), "law", "law", defArgs s_law, defBody s_law, defScope s_law, [], []⟩
def fn_0 : List He.DefD := [d_l_cell, d_l_pool, d_l_take, d_l_word, d_l_words, d_l_some, d_l_sheets, d_l_handed, d_is_name, d_all_different, d_are_names, d_are_some_of, d_Book_indexes_of, d_Book___init__, d_l_same, d_l_places, d_Book___len__, d_Book_check_page, d_Book_lines_of, d_Book_followers_of, d_Book_index, d_l_shows, d_l_asked, d_l_refuses_page, d_l_refuses_name, d_Book___eq__, d_l_other_some, d_l_renamed, d_l_near, d_l_unlike]
def fn_1 : List He.DefD := [d_law]
def fn : List He.DefD := fn_0 ++ fn_1
def fa_0 : List He.Fa := [.free "len", .free "abs", .glo "_law_cell", .free "int", .glo "_law_take", .free "range", .glo "_law_word", .free "list", .glo "_law_words", .free "min", .glo "_law_some", .int "MOST_LETTERS" 8, .free "all", .str "LETTERS" "abcdefghijklmnopqrstuvwxyz", .free "set", .glo "is_name", .glo "all_different", .free "tuple", .free "enumerate", .cls "Book", .noat "Book" "names", .int "MOST_PAGES" 4, .glo "BadBook", .free "super", .int "MOST_LINES" 8, .glo "are_names", .glo "are_some_of", .meth "Book" "indexes_of", .noat "Book" "starts", .noat "Book" "page_lines"]
def fa_1 : List He.Fa := [.noat "Book" "page_followers", .free "isinstance", .free "bool", .free "str", .glo "_law_same", .glo "UnknownPage", .meth "Book" "check_page", .glo "UnknownName", .glo "_law_places", .meth "Book" "__len__", .meth "Book" "lines_of", .meth "Book" "followers_of", .meth "Book" "index", .glo "_law_asked", .glo "DepotError", .free "ValueError", .glo "Book", .glo "_law_other_some", .glo "_law_renamed", .glo "_law_near", .glo "_law_handed", .mkr "Book", .glo "_law_shows", .meth "Book" "__eq__", .glo "_law_pool", .glo "_law_sheets", .glo "_law_refuses_page", .glo "_law_refuses_name", .glo "_law_unlike", .glo "law"]
def fa : List He.Fa := fa_0 ++ fa_1
def e_BadBook : Hz.ExD := { x := "BadBook", ns := ["part", "place"], qual := "BadBook.__init__", st := inClass (top 3) 0 }
def e_UnknownPage : Hz.ExD := { x := "UnknownPage", ns := ["number"], qual := "UnknownPage.__init__", st := inClass (top 5) 0 }
def e_UnknownName : Hz.ExD := { x := "UnknownName", ns := ["name"], qual := "UnknownName.__init__", st := inClass (top 4) 0 }
def fe_0 : List Hz.ExD := [e_BadBook, e_UnknownPage, e_UnknownName]
def fe : List Hz.ExD := fe_0
def xf_0 : List Xf := [.xc "UnknownPage", .noat "UnknownPage" "number", .kit "UnknownPage" "DepotError" true, .kitT "UnknownPage" "ValueError" true, .kit "UnknownPage" "UnknownName" false, .xc "UnknownName", .noat "UnknownName" "name", .kit "UnknownName" "DepotError" true, .kitT "UnknownName" "ValueError" true, .kit "UnknownName" "UnknownPage" false, .isc "Book", .kit "Book" "Book" true, .exm "BadBook" "UnknownName" false, .exm "BadBook" "UnknownPage" false, .exm "UnknownPage" "UnknownName" false, .exm "UnknownPage" "UnknownPage" true, .exm "UnknownName" "UnknownName" true, .exm "UnknownName" "UnknownPage" false]
def xf : List Xf := xf_0
abbrev PP : Program := PySem.Challenge.pw_depotday_k05_book_parts
def names_0 : List Str := ["_wall", "__name__", "DepotError", "BadBook", "UnknownName", "UnknownPage", "LETTERS", "MOST_LETTERS", "is_name", "all_different", "are_names", "MOST_PAGES", "MOST_LINES", "are_some_of", "Book", "_law_cell", "_law_pool", "_law_take", "_law_same", "_law_word", "_law_words", "_law_some", "_law_sheets", "_law_places", "_law_handed", "_law_shows", "_law_asked", "_law_refuses_page", "_law_refuses_name", "_law_other_some"]
def names_1 : List Str := ["_law_renamed", "_law_near", "_law_unlike"]
def names : List Str := names_0 ++ names_1
def nms_0 : List Str := ["_law_cell", "_law_take", "_law_word", "_law_words", "_law_some", "MOST_LETTERS", "LETTERS", "is_name", "all_different", "Book", "MOST_PAGES", "BadBook", "MOST_LINES", "are_names", "are_some_of", "_law_same", "UnknownPage", "UnknownName", "_law_places", "_law_asked", "DepotError", "_law_other_some", "_law_renamed", "_law_near", "_law_handed", "_law_shows", "_law_pool", "_law_sheets", "_law_refuses_page", "_law_refuses_name"]
def nms_1 : List Str := ["_law_unlike", "law"]
def nms : List Str := nms_0 ++ nms_1
abbrev R : PySem.W.OpenRow := PySem.W.OpenLaw.row PySem.Challenge.rw_depotday_k05_book_parts
abbrev hk : PySem.W.Hook := Hz.hookY nms (PP.main.file : Str) 4 fa fn fe (exOf xf)
def ob (s : PySem.W.SharedT) : Hz.AlZ := Hz.obsY nms (PP.main.file : Str) 4 fa fn fe (exOf xf) (HandSHeadRun.getT s)
theorem ob_eq (s : PySem.W.SharedT) : ob s = hk.obs s.abs := Hz.obsY_eq (HandSHeadRun.getT_eq s)
theorem pair_half {α β γ : Type} {E : Option α} {l : List β} {q : α → β → Bool} {p : α → β → γ} {v : β → γ} (k : Nat) (h1 : E.map (fun s => ((l.take k).all (q s), (l.take k).map (p s))) = some (true, (l.take k).map v)) (h2 : E.map (fun s => ((l.drop k).all (q s), (l.drop k).map (p s))) = some (true, (l.drop k).map v)) : E.map (fun s => (l.all (q s), l.map (p s))) = some (true, l.map v) := by
  cases E with
  | none => cases h1
  | some s =>
    simp only [Option.map_some, Option.some.injEq, Prod.mk.injEq] at h1 h2 ⊢
    rw [← List.take_append_drop k l, List.all_append, List.map_append, h1.1, h2.1, h1.2, h2.2, ← List.map_append]
    exact ⟨rfl, rfl⟩
theorem run_comb {α A B C F : Type} {E : Option α} {f1 : α → A × B} {f2 : α → Bool} {f3 : α → C × Bool} {f4 : α → Bool × F} {g : α → A × B × ((Bool × F) × (C × Bool))} {a : A × B} {c : C} {d : F} (hg : ∀ s, g s = ((f1 s).1, (f1 s).2, ((f2 s && (f4 s).1, (f4 s).2), ((f3 s).1, (f3 s).2)))) (h1 : E.map f1 = some a) (h2 : E.map f2 = some true) (h3 : E.map f3 = some (c, true)) (h4 : E.map f4 = some (true, d)) : E.map g = some (a.1, a.2, ((true, d), (c, true))) := by
  cases E with
  | none => cases h1
  | some s =>
    simp only [Option.map_some, Option.some.injEq] at h1 h2 h3 h4 ⊢
    rw [hg, h1, h2, h3, h4]
    rfl
open PySem.W HandSHeadRun He in
theorem run1_t (w : World) (os : OsState) : (HeadT.endT w os).map (fun s => (looksF R.prog (boot_heap w.params) s.abs, seenQ (PySem.W.view R.prog [36]) names (importedModules R.prog.main.body) (fun s => xlAt (PySem.W.view R.prog [36]) [] s && recOk R.toRowW.records s) s.abs)) = some (true, openGood (PySem.W.view R.prog [36]) names) := by kernel_rfl
open PySem.W HandSHeadRun He in
theorem run1 (w : World) (os : OsState) : (HandSHeadRun.endF (HandSHeadRun.stepQ (HandSHeadRun.denQ HandSHeadRun.tabQ) R.prog w) 60000 R.prog w os).map (fun s => (looksF R.prog (boot_heap w.params) s.abs, seenQ (PySem.W.view R.prog [36]) names (importedModules R.prog.main.body) (fun s => xlAt (PySem.W.view R.prog [36]) [] s && recOk R.toRowW.records s) s.abs)) = some (true, openGood (PySem.W.view R.prog [36]) names) := by
  rw [HeadT.end_eq]
  exact run1_t w os
open PySem.W HandSHeadRun He in
theorem run2_t (w : World) (os : OsState) : (HeadT.endT w os).map (fun s => fa.all fun f => f.ok (frG (getT s) (Hz.asY nms (getT s) 4))) = some true := by kernel_rfl
open PySem.W HandSHeadRun He in
theorem run2 (w : World) (os : OsState) : (HandSHeadRun.endF (HandSHeadRun.stepQ (HandSHeadRun.denQ HandSHeadRun.tabQ) R.prog w) 60000 R.prog w os).map (fun s => fa.all fun f => f.ok (frG (getT s) (Hz.asY nms (getT s) 4))) = some true := by
  rw [HeadT.end_eq]
  exact run2_t w os
open PySem.W HandSHeadRun He in
theorem run3_t (w : World) (os : OsState) : (HeadT.endT w os).map (fun s => (fe.map (fun e => Hz.fnB (frG (getT s) (Hz.asY nms (getT s) 4)) e), (fe.all fun e => Hz.exB (PP.main.file : Str) (frG (getT s) (Hz.asY nms (getT s) 4)) e) && exOf xf (frG (getT s) (Hz.asY nms (getT s) 4)))) = some (fe.map Hz.ExD.val, true) := by kernel_rfl
open PySem.W HandSHeadRun He in
theorem run3 (w : World) (os : OsState) : (HandSHeadRun.endF (HandSHeadRun.stepQ (HandSHeadRun.denQ HandSHeadRun.tabQ) R.prog w) 60000 R.prog w os).map (fun s => (fe.map (fun e => Hz.fnB (frG (getT s) (Hz.asY nms (getT s) 4)) e), (fe.all fun e => Hz.exB (PP.main.file : Str) (frG (getT s) (Hz.asY nms (getT s) 4)) e) && exOf xf (frG (getT s) (Hz.asY nms (getT s) 4)))) = some (fe.map Hz.ExD.val, true) := by
  rw [HeadT.end_eq]
  exact run3_t w os
open PySem.W HandSHeadRun He in
theorem run4a_t (w : World) (os : OsState) : (HeadT.endT w os).map (fun s => ((fn.take 15).all (fun d => d.ok (frG (getT s) (Hz.asY nms (getT s) 4))), (fn.take 15).map fun d => fnW (frG (getT s) (Hz.asY nms (getT s) 4)) d.at_)) = some (true, (fn.take 15).map DefD.val) := by kernel_rfl
open PySem.W HandSHeadRun He in
theorem run4a (w : World) (os : OsState) : (HandSHeadRun.endF (HandSHeadRun.stepQ (HandSHeadRun.denQ HandSHeadRun.tabQ) R.prog w) 60000 R.prog w os).map (fun s => ((fn.take 15).all (fun d => d.ok (frG (getT s) (Hz.asY nms (getT s) 4))), (fn.take 15).map fun d => fnW (frG (getT s) (Hz.asY nms (getT s) 4)) d.at_)) = some (true, (fn.take 15).map DefD.val) := by
  rw [HeadT.end_eq]
  exact run4a_t w os
open PySem.W HandSHeadRun He in
theorem run4b_t (w : World) (os : OsState) : (HeadT.endT w os).map (fun s => ((fn.drop 15).all (fun d => d.ok (frG (getT s) (Hz.asY nms (getT s) 4))), (fn.drop 15).map fun d => fnW (frG (getT s) (Hz.asY nms (getT s) 4)) d.at_)) = some (true, (fn.drop 15).map DefD.val) := by kernel_rfl
open PySem.W HandSHeadRun He in
theorem run4b (w : World) (os : OsState) : (HandSHeadRun.endF (HandSHeadRun.stepQ (HandSHeadRun.denQ HandSHeadRun.tabQ) R.prog w) 60000 R.prog w os).map (fun s => ((fn.drop 15).all (fun d => d.ok (frG (getT s) (Hz.asY nms (getT s) 4))), (fn.drop 15).map fun d => fnW (frG (getT s) (Hz.asY nms (getT s) 4)) d.at_)) = some (true, (fn.drop 15).map DefD.val) := by
  rw [HeadT.end_eq]
  exact run4b_t w os
open PySem.W HandSHeadRun He in
theorem run (w : World) : HandSHeadRun.RunEq R (PySem.W.view R.prog [36]) hk ob 60000 names w := by
  intro os
  have h1 := run1 w os
  have h2 := run2 w os
  have h3 := run3 w os
  have h4 := run4a w os
  have h5 := run4b w os
  revert h1 h2 h3 h4 h5
  generalize (HandSHeadRun.endF (HandSHeadRun.stepQ (HandSHeadRun.denQ HandSHeadRun.tabQ) R.prog w) 60000 R.prog w os) = E
  intro h1 h2 h3 h4 h5
  exact run_comb (E := E) (fun s => rfl) h1 h2 h3 (pair_half (l := fn) 15 h4 h5)
end Cl.HeadE
/-! ## EnumT -/
/-! enumerate(tuple), and enumerate of anything that begins -/
namespace Cl
open PySem PySem.Spec PyProof.Rows L2
namespace En
open PySem.Calls
theorem new1 {v : Value} {o : Obj} {H : Heap → Prop} (B : Begins v o H) :
    Meets (Builtin.«enumerate.__new__» ⟨[.type "enumerate", v], []⟩) (fun _ R s => H s.heap ∧
      R (.ok (.ret (.ref (s.heap.push o).objs.size))) { s with heap := (s.heap.push o).push { cls := .type "enumerate", data := .fields #[.none, .bool false, .ref s.heap.objs.size, rawInt 0, .none, .none] } }) :=
  .of_wp fun prog w A R s h => by
    obtain ⟨hp, g, d, tk, os⟩ := s
    obtain ⟨h1, h⟩ := h
    have hsub := sub_enumerate
    have it : ∀ {A' : Around} {E : Value → Shared → Prop} {Q : Value → Shared → Prop}, Q (.ref hp.objs.size) ⟨hp.push o, g, d, tk, os⟩ → wpAny (model prog w) A' (pyIter v) Q E ⟨hp, g, d, tk, os⟩ :=
      fun q => B.iter prog w _ _ ⟨hp, g, d, tk, os⟩ _ h1 q
    wp_walk using it
    refine wpAny_stack_any fun st => wpAny_pure ?_
    split
    · rename_i c _ _ _ _ _
      cases (c == Value.type "enumerate") <;> (wp_walk using it; exact ⟨_, rfl, h⟩)
    · wp_walk using it
      exact ⟨_, rfl, h⟩
theorem call1 {prog : Program} {w : World} {A : Around} {E : Value → Shared → Prop} {s : Shared} {v : Value} {o : Obj} {H : Heap → Prop} {Q : Value → Shared → Prop} (B : Begins v o H) (h1 : H s.heap)
    (h : ∀ h', IsEnum h' (s.heap.objs.size + 1) s.heap.objs.size 0 .none → h'.get? s.heap.objs.size = some o → h'.objs.size = s.heap.objs.size + 2 →
      (∀ b o, s.heap.get? b = some o → h'.get? b = some o) → Q (.ref (s.heap.objs.size + 1)) { s with heap := h' }) :
    wpAny (model prog w) A (call (.type "enumerate") [v]) Q E s := by
  refine callType_new F.called_enumerate (by decide) (F.typeCall_enumerate_1 _) (F.newCall_enumerate_1 _) (fun obj => F.args_object_init_2 obj _) F.entry_enumerate_new (new1 B) ⟨h1, ?_⟩
  have hz : (s.heap.push o).objs.size = s.heap.objs.size + 1 := Heap.size_push ..
  show _ ∧ _
  rw [hz]
  have he : IsEnum ((s.heap.push o).push { cls := .type "enumerate", data := .fields #[.none, .bool false, .ref s.heap.objs.size, rawInt 0, .none, .none] }) (s.heap.objs.size + 1) s.heap.objs.size 0 .none := by
    have q := Heap.get?_push_size (s.heap.push o) (o := { cls := .type "enumerate", data := .fields #[.none, .bool false, .ref s.heap.objs.size, rawInt 0, .none, .none] }) rfl
    rw [hz] at q; exact q
  exact ⟨⟨_, he, rfl⟩, h _ he (Heap.get?_push_of_some _ (Heap.get?_push_size _ B.free)) (by rw [Heap.size_push, hz]) fun b o x => Heap.get?_push_of_some _ (Heap.get?_push_of_some _ x)⟩
end En
def ItT (K : PySem.W.Frag) (a : Addr) : It :=
  ⟨fun i H => ∃ (xs : List V) (x : V), SqT K H a xs ∧ xs[i]? = some x, fun i H v H' => ∃ T x, v = .ref T ∧ H T = none ∧ H' = upd H T (.tup [.int (i : Nat), x]) ∧ ∀ xs, SqT K H a xs → xs[i]? = some x, fun i H => ∃ xs : List V, SqT K H a xs ∧ xs.length ≤ i⟩
theorem turn_enumT {P : Program} {w : World} {K : PySem.W.Frag} {elts : List Expr} {kk : Nat} {tpos : Pos} (a e it : Addr) (hea : e ≠ a) (hia : a ≠ it) :
    Turn P w K (.Tuple elts kk tpos) (ItT K a) [e, it] e (fun i h => (∃ old, IsEnum h e it ((i : Nat) : Int) old) ∧ h.IsTupleIter it a i ∧ e ≠ it) where
  mem := by simp
  obj := fun i h st b hb => by
    obtain ⟨⟨old, he⟩, ⟨o, ho, hc, hd⟩, _⟩ := st
    rcases (by simpa using hb : b = e ∨ b = it) with z | z
    · rw [z]; exact ⟨_, he, fun v q => nomatch q⟩
    · rw [z]; exact ⟨o, ho, fun v q => by rw [hd] at q; cases q⟩
  keep := fun i h h' st k => let ⟨⟨old, he⟩, hi, hne⟩ := st; ⟨⟨old, k e (by simp) _ he⟩, hi.at fun o q => k it (by simp) o q, hne⟩
  item := by
    intro X hP hw hK hc i pins s σ H E I hf st hg
    subst hP hw hK
    obtain ⟨⟨old, he⟩, hit, hne⟩ := st
    obtain ⟨xs, x, hq, hx⟩ := hg
    obtain ⟨its, rv, p, hz⟩ := I.tuple hq
    obtain ⟨u, hu, ru⟩ := rv.get hx
    have hel : e < s.heap.objs.size := Heap.lt_size he
    have hlt : i < its.toArray.size := by
      have q := (List.getElem?_eq_some_iff.mp hu).1
      simpa using q
    have DD := Draws.tuple (prog := X.prog) (w := X.w) (A := X.A.in1) (by exact I.ok.hd hc) it a hia its.toArray
    refine wpAny_pyNext_enum_itemD DD he ⟨hit, p⟩ hlt hne (by simp [hne, hea]) fun u' h' tk hu' ho hit' hT hsz hk => ?_
    have eu : u' = u := by
      have z : its[i]? = some u' := by simpa using hu'
      rw [hu] at z; exact (Option.some.inj z).symm
    subst eu
    refine ⟨_, rfl, wpAny_letOwnedTupleGo_enum (s := { s with heap := h', toks := tk + 1 }) ho fun h'' he' sb => ?_⟩
    have hT2 : h''.get? s.heap.objs.size = some { cls := .type "tuple", data := .seq #[.int i tk, u'] } := (sb.2 _ (Nat.ne_of_gt hel)).trans hT
    have new : ObjOk X.prog X.w (upd H s.heap.objs.size (.tup [.int (i : Nat), x])) h'' s.heap.objs.size (.tup [.int (i : Nat), x]) :=
      ⟨by show 2 ≤ sizeLine; decide, [.int i tk, u'], .cons ⟨_, rfl⟩ (.cons ru .nil), ⟨_, hT2, rfl, _, rfl⟩⟩
    have I1 : Inv X pins σ (upd H s.heap.objs.size (.tup [.int (i : Nat), x])) { s with heap := h'', toks := tk + 1 } :=
      I.turnedNew (ch := [e, it]) (fun b ob hb q => (sb.2 b (fun z => hb (by simp [z]))).trans (hk b ob (fun z => hb (by simp [z])) (fun z => hb (by simp [z])) q)) hf (Nat.le_refl _) new
    refine ⟨.ref s.heap.objs.size, _, I1, rfl, ⟨_, x, rfl, I.hok.fresh (Nat.le_refl _), rfl, fun ys hy => by rw [I.tuple_inj hy hq]; exact hx⟩, ⟨⟨u', ?_⟩, hit'.1.at fun o q => (sb.2 it (Ne.symm hne)).trans q, hne⟩, fun b hb => ?_⟩
    · have e1 : ((i + 1 : Nat) : Int) = (i : Int) + 1 := by omega
      rw [e1]; exact he'
    · obtain ⟨o1, q1, _⟩ := hit
      have hb' : b < s.heap.objs.size := by
        rcases (by simpa using hb : b = e ∨ b = it) with z | z
        · rw [z]; exact hel
        · rw [z]; exact Heap.lt_size q1
      rw [upd_ne (Nat.ne_of_lt hb')]
      exact (hf b hb).1
  done := by
    intro X hP hw hK hc i pins s σ H E I hf st hg
    subst hP hw hK
    obtain ⟨⟨old, he⟩, hit, hne⟩ := st
    obtain ⟨xs, hq, hx⟩ := hg
    obtain ⟨its, rv, p, hz⟩ := I.tuple hq
    obtain ⟨f0, f1, f2, f3, f4, f5⟩ := hf it (by simp)
    have hl := rv.length
    have hh : X.A.in1.handled = none := I.ok.hd hc
    have DD : Draws X.prog X.w X.A.in1 it [it, a] i (fun i v => its.toArray[i]? = some v) (fun j h => (h.IsTupleIter it a j ∧ h.IsTuple a its.toArray) ∧ j = i) :=
      ⟨fun _ _ st => let ⟨o, ho, _⟩ := st.1.1; ⟨o, ho⟩, fun _ _ _ st hk => ⟨⟨st.1.1.at fun o e => hk it (by simp) o e, st.1.2.at fun o e => hk a (by simp) o e⟩, st.2⟩,
        fun j s Q E hj st hQ => absurd st.2 (Nat.ne_of_lt hj),
        fun s Q E st hE => wpAny_nextOf_tuple_end hh st.1.1 st.1.2 (by simp; omega) hE⟩
    exact wpAny_pyNext_enum_endD DD he ⟨⟨hit, p⟩, rfl⟩ fun h' eb => ⟨rfl, I.turned (t' := s.toks) (fun b o hb q => eb b o hb q) f0 f1 f3 f4 f5⟩
  self := fun A i s Q E st h => let ⟨⟨_, he⟩, _⟩ := st; wpAny_pyIter_enum he h
def iEnumT (K : PySem.W.Frag) (ta : TA) : TI := fun σ H R => ta σ H fun vs H1 => ∃ a xs, vs = [.ref a] ∧ SqT K H1 a xs ∧ R (ItT K a) H1
theorem pi_enumT {X : Cx} {e : Expr} {ta : TA} {p pos tpos : Pos} {elts : List Expr} {kk : Nat} (hg : Gl X "enumerate") (hm : X.mg "enumerate" = none) (ha : PA X [e] ta) (hs : starEach [e] X.env = [(false, eval e X.env)] := by rfl) :
    PI X (.Tuple elts kk tpos) (.Call (.Name "enumerate" p) [e] [] pos) (iEnumT X.K ta) := by
  refine ⟨fun pins s σ H R I h => ?_⟩
  refine Call_ (ld_blt I hg hm boot_enumerate (PyProof.Rows.callWith_type1 (thn (ha.run pos pins s σ H _ I h) fun us s1 ⟨vs, H1, I1, r1, a, xs, ex, hq, q⟩ => ?_) hs rfl))
  subst ex
  cases r1 with
  | cons r rr =>
    cases rr
    cases r
    obtain ⟨its, rv, p', hz⟩ := I1.tuple hq
    have hal : a < s1.heap.objs.size := by obtain ⟨o, ho, _⟩ := id p'; exact Heap.lt_size ho
    refine En.call1 (begins_tuple a its.toArray) p' fun h' he hit hsz hk => wpAny_pyIter_enum he ?_
    have I2 : Inv X pins σ H1 { s1 with heap := h' } := I1.kept (t' := s1.toks) hk
    refine ⟨s1.heap.objs.size + 1, [s1.heap.objs.size + 1, s1.heap.objs.size], _, _, H1, rfl, I2, turn_enumT a (s1.heap.objs.size + 1) s1.heap.objs.size (Nat.ne_of_gt (Nat.lt_succ_of_lt hal)) (Nat.ne_of_lt hal), ⟨⟨.none, he⟩, ⟨_, hit, rfl, rfl⟩, Nat.succ_ne_self _⟩, fun b hb => ?_, q⟩
    have hle : s1.heap.objs.size ≤ b := by
      rcases (by simpa using hb : b = s1.heap.objs.size + 1 ∨ b = s1.heap.objs.size) with z | z
      · rw [z]; exact Nat.le_succ _
      · rw [z]; exact Nat.le_refl _
    exact I1.fpOk hle (I1.hok.fresh hle)
end Cl
/-! ## Lib4 -/
namespace Cl
open PySem PySem.Spec PyProof.Rows L2
/-! ## comprehensions whose blocks change the heap -/
section
variable {K : PySem.W.Frag} {σ : L2.St} {H : Hp} {Q : VK} {j : Nat} {tt : TT} {te : TE} {vs : List Nat} {tl : TE} {ta : TA}
theorem walk_enumT {a : Addr} {xs : List V} : Walk (ItT K a) xs.length (fun H => SqT K H a xs) (YPair (fun i => some (.int (i : Nat))) (fun i => xs[i]?)) := by
  refine ⟨fun i _ hi q => ⟨xs, xs[i], q, by simp [hi]⟩, fun _ q => ⟨xs, q, Nat.le_refl _⟩, fun i H v H' _ q y => ?_⟩
  obtain ⟨T, x, h1, h2, h3, h4⟩ := y
  exact ⟨T, .int (i : Nat), x, h1, h2, h3, rfl, h4 xs q⟩
end
theorem v_lenS {K : PySem.W.Frag} {σ : L2.St} {H : Hp} {ts : TA} {p : Addr} {xs : List V} (h : Args ts σ H [.ref p]) (hl : SqL K H p xs ∨ SqT K H p xs) : Val (tCB (rLen K) ts) σ H (.int xs.length) := v_cb h fun _ q => ⟨p, xs, rfl, hl, q⟩
/-! ## a for over a new list -/
/-! ## exceptions -/
end Cl
/-! ## Lib5 -/
/-! ## Lib6 -/
namespace Cl
open PySem PySem.Spec PyProof.Rows L2
/-! ## methods and makings that may raise, at the slots -/
def tMethX (C : Addr) (m : Str) (sp : Sp) (E : L2.St → XK) (ta : TE) (t : TA) : TE := fun σ H Q => ta σ H fun x H1 => ∃ a dx fs, x = .ref a ∧ H1 a = some (.ins C dx fs) ∧ fs.lookup m = none ∧ t σ H1 fun vs H2 => sp (x :: vs) H2 Q (E σ)
def tMakeX (C : Addr) (sp : Sp) (E : L2.St → XK) (t : TA) : TE := fun σ H Q => t σ H fun vs H1 => ∀ x dx, H1 x = none → H1 dx = none → dx ≠ x → sp (.ref x :: vs) (upd (upd H1 dx (.own x)) x (.ins C dx [])) (fun v H2 => v = .non ∧ Q (.ref x) H2) (E σ)
section
variable {X : Cx} {k : Nat} {ps : List Str} {sp : Sp} {W : WX} {x m : Str} {p pos apos : Pos} {e o : Expr} {es : List Expr} {ta : TE} {t : TA}
theorem pmethX {pl : Sem Bool} {C : Str} (ho : PE X o ta) (c : Cls X.K (He.ga X.K C)) (hm : Meth X.K (He.ga X.K C) m (He.ma X.K (He.ga X.K C) m)) (F : FnX X.prog X.w X.K X.mg X.base (L2.CX X.prog X.w) k (C, some m) ps sp) (hr : Room k X.A) (tk : Takes X W) (ha : PA X (e :: es) t)
    (h1 : starEach (e :: es) X.env = (false, eval e X.env) :: starEach es X.env := by rfl) (h2 : (backTo pos (starEach es X.env)).any (·.1) = false := by rfl)
    (h3 : eval (.Call (.Attribute o m apos) (e :: es) [] pos) X.env = (do let ov ← eval o X.env; standAt apos.atName; let (f, q) ← holding [ov] (getMethod ov m pl); callWith pos f q (backTo pos (starEach (e :: es) X.env)) (backToKw pos (keywordEach [] X.env))) := by rfl) :
    PE X (.Call (.Attribute o m apos) (e :: es) [] pos) (tMethX (He.ga X.K C) m sp (WE W) ta t) := by
  obtain ⟨⟨fd, F, b⟩, kp⟩ := F
  refine ⟨fun pins s σ H Q I h => ?_⟩
  refine PySem.W.methodCall_KW (pl := pl) (thn (ho.run pins s σ H _ I h) fun u s1 ⟨x, H1, I1, rx, a, dx, fs, ex, ea, l, q⟩ => ?_) h3
  subst ex
  obtain rfl : u = Value.ref a := rx
  refine getmeth_ok I1 ea c hm l (PySem.W.callWith_K (first := [.ref a]) (h₀ := X.base) I.ok.mod.kin hm.kp (thn (ha.run pos pins s1 σ H1 _ I1 q) fun us s2 ⟨vs, H2, I2, r, q2⟩ => ⟨I2.kIn, ?_⟩) h1 h2)
  exact run_fnS (E := WE W) (us := .ref a :: us) (vs := .ref a :: vs) F hr b (passAt tk σ) I2 (.cons rfl r) q2
theorem run_makeX {pins : List (Addr × Obj)} {σ : L2.St} {H : Hp} {s : Shared} {Q : VK} {us : List Value} {vs : List V} {C f : Addr} {fd : FuncData} (M : Mk X.K C f) (F : FnOk X.prog X.w X.K X.mg X.base (L2.CX X.prog X.w) k f fd ps sp) (hr : Room (k + 1) X.A) (hb : Binds X.K fd ps [])
    (tk : Takes X W) (I : Inv X pins σ H s) (r : Vals vs us) (h : ∀ x dx, H x = none → H dx = none → dx ≠ x → sp (.ref x :: vs) (upd (upd H dx (.own x)) x (.ins C dx [])) (fun v H2 => v = .non ∧ Q (.ref x) H2) (WE W σ)) :
    wpAny (model X.prog X.w) X.A (call (.ref C) us) (EP X pins σ Q) X.xe s := by
  have q0 := h (s.heap.objs.size + 1) s.heap.objs.size (I.hok.fresh (Nat.le_succ _)) (I.hok.fresh (Nat.le_refl _)) (Nat.ne_of_lt (Nat.lt_succ_self _))
  have J := Inv.made (C := C) I
  have r2 : Vals (V.ref (s.heap.objs.size + 1) :: vs) (Value.ref (s.heap.objs.size + 1) :: us) := .cons rfl r
  have hl : (Value.ref (s.heap.objs.size + 1) :: us).length = ps.length := by
    rw [← r2.length]; exact F.len _ _ _ _ q0
  have bb := hb { s with heap := _ } (Value.ref (s.heap.objs.size + 1) :: us) J.kIn (by rw [List.append_nil]; exact hl)
  rw [List.append_nil] at bb
  refine wpAny_call (make_map (f := f) I.kIn M.makes M.init (beq_iff_eq.mp M.fn) (codeAny_mono (F.run _ X.stack _ _ ⟨Value.ref (s.heap.objs.size + 1) :: us, []⟩ (Value.ref (s.heap.objs.size + 1) :: us) _ _ (WE W σ) (hr.make C us []) (J.env0.make C us []) bb r2 q0) fun z s' hq => ?_))
  cases z with
  | error e => exact passAt tk σ pins _ _ e s' J hq
  | ok fl =>
    cases fl with
    | ret u =>
      obtain ⟨v, H', I3, rv, ev, q3⟩ := J.after hq
      subst ev
      exact ⟨rv, ⟨V.ref (s.heap.objs.size + 1), H', I3, rfl, q3⟩⟩
    | next => exact hq.elim
    | brk => exact hq.elim
    | cont => exact hq.elim
theorem pmakeX (M : Mk X.K (He.ga X.K x) (He.ma X.K (He.ga X.K x) "__init__")) (F : FnX X.prog X.w X.K X.mg X.base (L2.CX X.prog X.w) k (x, some "__init__") ps sp) (hr : Room (k + 1) X.A) (hg : Gl X x) (hm : X.mg x = some (.ref (He.ga X.K x))) (tk : Takes X W)
    (ha : PA X (e :: es) t) (hdb : (x == ("__debug__" : Str)) = false := by decide) (h1 : starEach (e :: es) X.env = (false, eval e X.env) :: starEach es X.env := by rfl) (h2 : (backTo pos (starEach es X.env)).any (·.1) = false := by rfl) :
    PE X (.Call (.Name x p) (e :: es) [] pos) (tMakeX (He.ga X.K x) sp (WE W) t) := by
  obtain ⟨⟨fd, F, b⟩, kp⟩ := F
  refine ⟨fun pins s σ H Q I h => wpAny_Call_Name_kw (ld_glob I hg hm ?_ hdb)⟩
  exact PySem.W.callWith_K (h₀ := X.base) I.ok.mod.kin M.kp (thn (ha.run pos pins s σ H _ I h) fun us s1 ⟨vs, H1, I1, r, q⟩ => ⟨I1.kIn, run_makeX M F hr b tk I1 r q⟩) h1 h2
end
end Cl
/-! ## Fun -/
namespace Cl
open PySem PySem.Spec PyProof.Rows L2
/-! ## data, stores, worlds: a reading by values -/
inductive Da where
  | non | bl (b : Bool) | int (i : Int) | str (s : Str)
  | tup (ds : List Da) | lst (ds : List Da) | frl (ns : List Int)
  | obj (C : Str) (ns : List Str) (ds : List Da) | dic (ks : List Key) (ds : List Da) | dct (ks : List (List Key)) (ds : List Da) | cell (n : Nat) | tupN (ds : List Da)
abbrev Sto := List Da
structure Wd where
  H : Hp
  m : List Addr
  ow : Addr → Prop
  x : Addr
def Wd.fz (w : Wd) (a : Addr) : Prop := a ∉ w.m ∧ ¬ w.ow a
def KT (K : PySem.W.Frag) (a : Addr) (xs : List V) : Prop := ∃ (o : Obj) (its : Array Value) (n : Nat), K.lookup a = some o ∧ o.cls = .type "tuple" ∧ o.data = .seq its n ∧ its.size ≤ sizeLine ∧ Vals xs its.toList
def KL (K : PySem.W.Frag) (a : Addr) (xs : List V) : Prop := ∃ (o : Obj) (its : Array Value) (n : Nat), K.lookup a = some o ∧ o.cls = .type "list" ∧ o.dict = none ∧ o.data = .seq its n ∧ its.size ≤ sizeLine ∧ Vals xs its.toList
def FzL (K : PySem.W.Frag) (w : Wd) (a : Addr) (xs : List V) : Prop := (Rd w.H a (.lst xs) ∧ w.fz a) ∨ KL K a xs
def FzT (K : PySem.W.Frag) (w : Wd) (a : Addr) (xs : List V) : Prop := (Rd w.H a (.tup xs) ∧ w.fz a) ∨ KT K a xs
mutual
inductive Rep (K : PySem.W.Frag) (w : Wd) : Da → V → Prop
  | non : Rep K w .non .non
  | bl (b : Bool) : Rep K w (.bl b) (.bl b)
  | int (i : Int) : Rep K w (.int i) (.int i)
  | str (s : Str) : Rep K w (.str s) (.str s)
  | tup {a : Addr} {vs : List V} {ds : List Da} : FzT K w a vs → Reps K w ds vs → Rep K w (.tup ds) (.ref a)
  | lst {a : Addr} {vs : List V} {ds : List Da} : w.H a = some (.lst vs) → w.fz a → Reps K w ds vs → Rep K w (.lst ds) (.ref a)
  | frl {a : Addr} {ns : List Int} : FzL K w a (ns.map V.int) → Rep K w (.frl ns) (.ref a)
  | obj {a dx : Addr} {C : Str} {fs : List (Str × V)} {ns : List Str} {ds : List Da} : w.H a = some (.ins (He.ga K C) dx fs) → w.fz a → fs.map (·.1) = ns → Reps K w ds (fs.map (·.2)) → Rep K w (.obj C ns ds) (.ref a)
  | dic {a : Addr} {kvs : List (Key × V)} {ks : List Key} {ds : List Da} : w.H a = some (.dK kvs) → w.fz a → kvs.map (·.1) = ks → Reps K w ds (kvs.map (·.2)) → Rep K w (.dic ks ds) (.ref a)
  | dct {a : Addr} {kvs : List (List Key × V)} {ks : List (List Key)} {ds : List Da} : w.H a = some (.dT kvs) → w.fz a → kvs.map (·.1) = ks → Reps K w ds (kvs.map (·.2)) → Rep K w (.dct ks ds) (.ref a)
  | cell {a : Addr} {n : Nat} : w.m[n]? = some a → Rep K w (.cell n) (.ref a)
  | tupN {a : Addr} {o : Obj} {vs : List V} {ds : List Da} : w.H a = some (.frz o (.tup vs)) → o.cls = .type "tuple" → o.dict = none → w.fz a → Reps K w ds vs → Rep K w (.tupN ds) (.ref a)
inductive Reps (K : PySem.W.Frag) (w : Wd) : List Da → List V → Prop
  | nil : Reps K w [] []
  | cons {d : Da} {v : V} {ds : List Da} {vs : List V} : Rep K w d v → Reps K w ds vs → Reps K w (d :: ds) (v :: vs)
end
def ConR (K : PySem.W.Frag) (w : Wd) (a : Addr) : Da → Prop
  | .lst ds => ∃ vs, w.H a = some (.lst vs) ∧ Reps K w ds vs
  | .obj C ns ds => ∃ dx fs, w.H a = some (.ins (He.ga K C) dx fs) ∧ fs.map (·.1) = ns ∧ Reps K w ds (fs.map (·.2))
  | .dic ks ds => ∃ kvs, w.H a = some (.dK kvs) ∧ kvs.map (·.1) = ks ∧ Reps K w ds (kvs.map (·.2))
  | .dct ks ds => ∃ kvs, w.H a = some (.dT kvs) ∧ kvs.map (·.1) = ks ∧ Reps K w ds (kvs.map (·.2))
  | _ => False
structure Le (w w' : Wd) : Prop where
  pre : w.m <+: w'.m
  kp : ∀ a o, w.H a = some o → a ∉ w.m → w'.H a = some o ∧ a ∉ w'.m ∧ (w'.ow a ↔ w.ow a)
theorem Le.refl (w : Wd) : Le w w := ⟨List.prefix_refl _, fun _ _ e n => ⟨e, n, Iff.rfl⟩⟩
theorem Le.trans {w w' w'' : Wd} (a : Le w w') (b : Le w' w'') : Le w w'' := ⟨a.pre.trans b.pre, fun c o e n => by
  obtain ⟨e1, n1, i1⟩ := a.kp c o e n
  obtain ⟨e2, n2, i2⟩ := b.kp c o e1 n1
  exact ⟨e2, n2, i2.trans i1⟩⟩
section
variable {K : PySem.W.Frag} {w w' : Wd}
theorem Le.fz (L : Le w w') {a : Addr} {o : HO} (e : w.H a = some o) (f : w.fz a) : w'.H a = some o ∧ w'.fz a := by
  obtain ⟨e1, n1, i1⟩ := L.kp a o e f.1
  exact ⟨e1, n1, fun z => f.2 (i1.mp z)⟩
theorem Le.rd (L : Le w w') {a : Addr} {o : HO} (e : Rd w.H a o) (f : w.fz a) : Rd w'.H a o ∧ w'.fz a := by
  rcases e with e | ⟨u, e⟩
  · exact ⟨.inl (L.fz e f).1, (L.fz e f).2⟩
  · exact ⟨.inr ⟨u, (L.fz e f).1⟩, (L.fz e f).2⟩
/-- what frozen things need of a later world -/
structure Lf (w w' : Wd) : Prop where
  pre : w.m <+: w'.m
  kp : ∀ a o, w.H a = some o → w.fz a → w'.H a = some o ∧ w'.fz a
theorem Le.lf (L : Le w w') : Lf w w' := ⟨L.pre, fun _ _ e f => L.fz e f⟩
theorem Lf.rd (L : Lf w w') {a : Addr} {o : HO} (e : Rd w.H a o) (f : w.fz a) : Rd w'.H a o ∧ w'.fz a := by
  rcases e with e | ⟨u, e⟩
  · exact ⟨.inl (L.kp _ _ e f).1, (L.kp _ _ e f).2⟩
  · exact ⟨.inr ⟨u, (L.kp _ _ e f).1⟩, (L.kp _ _ e f).2⟩
theorem pre_at {xs ys : List Addr} (h : xs <+: ys) {n : Nat} {a : Addr} (e : xs[n]? = some a) : ys[n]? = some a := by
  obtain ⟨t, rfl⟩ := h
  have := (List.getElem?_eq_some_iff.mp e).1
  rw [List.getElem?_append_left this]; exact e
theorem Rep.lf (L : Lf w w') {d : Da} {v : V} (h : Rep K w d v) : Rep K w' d v := by
  refine @Rep.rec K w (fun d v _ => Rep K w' d v) (fun ds vs _ => Reps K w' ds vs) .non .bl .int .str ?_ ?_ ?_ ?_ ?_ ?_ ?_ ?_ .nil (fun _ _ a b => .cons a b) d v h
  · intro a vs ds f _ r
    refine .tup ?_ r
    rcases f with ⟨e, f⟩ | f
    · exact .inl ⟨(L.rd e f).1, (L.rd e f).2⟩
    · exact .inr f
  · intro a vs ds e f _ r
    exact .lst (L.kp _ _ e f).1 (L.kp _ _ e f).2 r
  · intro a ns f
    refine .frl ?_
    rcases f with ⟨e, f⟩ | f
    · exact .inl ⟨(L.rd e f).1, (L.rd e f).2⟩
    · exact .inr f
  · intro a dx C fs ns ds e f en _ r
    exact .obj (L.kp _ _ e f).1 (L.kp _ _ e f).2 en r
  · intro a kvs ks ds e f en _ r
    exact .dic (L.kp _ _ e f).1 (L.kp _ _ e f).2 en r
  · intro a kvs ks ds e f en _ r
    exact .dct (L.kp _ _ e f).1 (L.kp _ _ e f).2 en r
  · intro a n e
    exact .cell (pre_at L.pre e)
  · intro a o vs ds e hc hd f _ r
    exact .tupN (L.kp _ _ e f).1 hc hd (L.kp _ _ e f).2 r
theorem Reps.lf (L : Lf w w') : ∀ {ds : List Da} {vs : List V}, Reps K w ds vs → Reps K w' ds vs
  | _, _, .nil => .nil
  | _, _, .cons a b => .cons (a.lf L) (Reps.lf L b)
theorem Rep.le (L : Le w w') {d : Da} {v : V} (h : Rep K w d v) : Rep K w' d v := h.lf L.lf
theorem Reps.le (L : Le w w') {ds : List Da} {vs : List V} (h : Reps K w ds vs) : Reps K w' ds vs := h.lf L.lf
theorem ConR.lf (L : Lf w w') {a : Addr} (ha : ∀ o, w.H a = some o → w'.H a = some o) {d : Da} (h : ConR K w a d) : ConR K w' a d := by
  cases d with
  | lst ds => obtain ⟨vs, e, r⟩ := h; exact ⟨vs, ha _ e, r.lf L⟩
  | obj C ns ds => obtain ⟨dx, fs, e, en, r⟩ := h; exact ⟨dx, fs, ha _ e, en, r.lf L⟩
  | dic ks ds => obtain ⟨kvs, e, en, r⟩ := h; exact ⟨kvs, ha _ e, en, r.lf L⟩
  | dct ks ds => obtain ⟨kvs, e, en, r⟩ := h; exact ⟨kvs, ha _ e, en, r.lf L⟩
  | _ => exact h.elim
theorem ConR.some {a : Addr} {d : Da} (h : ConR K w a d) : ∃ o, w.H a = some o := by
  cases d with
  | lst ds => obtain ⟨vs, e, r⟩ := h; exact ⟨_, e⟩
  | obj C ns ds => obtain ⟨dx, fs, e, en, r⟩ := h; exact ⟨_, e⟩
  | dic ks ds => obtain ⟨kvs, e, en, r⟩ := h; exact ⟨_, e⟩
  | dct ks ds => obtain ⟨kvs, e, en, r⟩ := h; exact ⟨_, e⟩
  | _ => exact h.elim
theorem ConR.le (L : Le w w') {a : Addr} (ha : a ∉ w.m) {d : Da} (h : ConR K w a d) : ConR K w' a d := h.lf L.lf fun o e => (L.kp a o e ha).1
theorem ConR.rep {a : Addr} {d : Da} (h : ConR K w a d) (f : w.fz a) : Rep K w d (.ref a) := by
  cases d with
  | lst ds => obtain ⟨vs, e, r⟩ := h; exact .lst e f r
  | obj C ns ds => obtain ⟨dx, fs, e, en, r⟩ := h; exact .obj e f en r
  | dic ks ds => obtain ⟨kvs, e, en, r⟩ := h; exact .dic e f en r
  | dct ks ds => obtain ⟨kvs, e, en, r⟩ := h; exact .dct e f en r
  | _ => exact h.elim
theorem Reps.length : ∀ {ds : List Da} {vs : List V}, Reps K w ds vs → vs.length = ds.length
  | _, _, .nil => rfl
  | _, _, .cons _ r => by simp [Reps.length r]
theorem Reps.at : ∀ {ds : List Da} {vs : List V}, Reps K w ds vs → ∀ {i : Nat} {d : Da}, ds[i]? = some d → ∃ v, vs[i]? = some v ∧ Rep K w d v
  | _, _, .nil, i, d, e => by simp at e
  | _, _, .cons h r, 0, d, e => by simp at e; subst e; exact ⟨_, rfl, h⟩
  | _, _, .cons h r, i + 1, d, e => by simpa using Reps.at r (i := i) (by simpa using e)
theorem Reps.at' : ∀ {ds : List Da} {vs : List V}, Reps K w ds vs → ∀ {i : Nat} {v : V}, vs[i]? = some v → ∃ d, ds[i]? = some d ∧ Rep K w d v
  | _, _, .nil, i, d, e => by simp at e
  | _, _, .cons h r, 0, d, e => by simp at e; subst e; exact ⟨_, rfl, h⟩
  | _, _, .cons h r, i + 1, d, e => by simpa using Reps.at' r (i := i) (by simpa using e)
theorem Reps.app : ∀ {ds es : List Da} {vs us : List V}, Reps K w ds vs → Reps K w es us → Reps K w (ds ++ es) (vs ++ us)
  | _, _, _, _, .nil, h => h
  | _, _, _, _, .cons a r, h => .cons a (Reps.app r h)
theorem Reps.take : ∀ {ds : List Da} {vs : List V} (n : Nat), Reps K w ds vs → Reps K w (ds.take n) (vs.take n)
  | _, _, 0, _ => by simpa using Reps.nil
  | _, _, n + 1, .nil => by simpa using Reps.nil
  | _, _, n + 1, .cons a r => .cons a (Reps.take n r)
theorem Reps.drop : ∀ {ds : List Da} {vs : List V} (n : Nat), Reps K w ds vs → Reps K w (ds.drop n) (vs.drop n)
  | _, _, 0, h => h
  | _, _, n + 1, .nil => by simpa using Reps.nil
  | _, _, n + 1, .cons a r => Reps.drop n r
theorem Reps.set {x : Da} {u : V} (hx : Rep K w x u) : ∀ {ds : List Da} {vs : List V} (n : Nat), Reps K w ds vs → Reps K w (ds.set n x) (vs.set n u)
  | _, _, _, .nil => .nil
  | _, _, 0, .cons a r => .cons hx r
  | _, _, n + 1, .cons a r => .cons a (Reps.set hx n r)
theorem Reps.rev : ∀ {ds : List Da} {vs : List V}, Reps K w ds vs → Reps K w ds.reverse vs.reverse
  | _, _, .nil => .nil
  | _, _, .cons a r => by rw [List.reverse_cons, List.reverse_cons]; exact (Reps.rev r).app (.cons a .nil)
end
/-! ## stores -/
structure StoR (K : PySem.W.Frag) (w : Wd) (S : Sto) : Prop where
  len : w.m.length = S.length
  nd : w.m.Nodup
  at_ : ∀ (n : Nat) a d, w.m[n]? = some a → S[n]? = some d → ConR K w a d
  own : ∀ a, w.ow a → w.H a ≠ none
  sep : ∀ a ∈ w.m, ¬ w.ow a
section
variable {K : PySem.W.Frag} {w w' wf : Wd} {S S' : Sto}
theorem StoR.mem (s : StoR K w S) {a : Addr} (h : a ∈ w.m) : ∃ o, w.H a = some o := by
  obtain ⟨n, hn, e⟩ := List.getElem_of_mem h
  have hs : n < S.length := by rw [← s.len]; exact hn
  exact (s.at_ n a S[n] (by rw [List.getElem?_eq_getElem hn, e]) (List.getElem?_eq_getElem hs)).some
theorem Le.none (L : Le w w') (s : StoR K w' S) {a : Addr} (h : w'.H a = none) : w.H a = none := by
  cases e : w.H a with
  | none => rfl
  | some o =>
    by_cases ha : a ∈ w.m
    · obtain ⟨o', e'⟩ := s.mem (L.pre.subset ha)
      rw [h] at e'; cases e'
    · rw [(L.kp a o e ha).1] at h; cases h
theorem StoR.fresh (s : StoR K w S) {a : Addr} (h : w.H a = none) : a ∉ w.m ∧ ¬ w.ow a := ⟨fun z => (by obtain ⟨o, e⟩ := s.mem z; rw [h] at e; cases e), fun z => s.own a z h⟩
/-- a new object at p, ours (b) or frozen -/
def Wd.new (w : Wd) (p : Addr) (o : HO) (b : Prop) : Wd := { H := upd w.H p o, m := w.m, ow := fun a => (a = p ∧ b) ∨ (a ≠ p ∧ w.ow a), x := w.x }
theorem le_new {p : Addr} {o : HO} {b : Prop} (h : w.H p = none) : Le w (w.new p o b) := ⟨List.prefix_refl _, fun a u e n => by
  have ne : a ≠ p := fun z => by rw [z, h] at e; cases e
  refine ⟨by show upd w.H p o a = some u; rw [upd_ne ne]; exact e, n, ?_⟩
  show ((a = p ∧ b) ∨ (a ≠ p ∧ w.ow a)) ↔ w.ow a
  exact ⟨fun z => z.elim (fun z => absurd z.1 ne) (·.2), fun z => .inr ⟨ne, z⟩⟩⟩
theorem StoR.new (s : StoR K w S) {p : Addr} {o : HO} {b : Prop} (h : w.H p = none) : StoR K (w.new p o b) S := by
  have L : Le w (w.new p o b) := le_new h
  refine ⟨s.len, s.nd, fun n a d e1 e2 => ?_, fun a ha => ?_, fun a ha => ?_⟩
  · have c := s.at_ n a d e1 e2
    refine c.lf L.lf fun u eu => ?_
    have ne : a ≠ p := fun z => by rw [z, h] at eu; cases eu
    show upd w.H p o a = some u
    rw [upd_ne ne]; exact eu
  · show upd w.H p o a ≠ none
    rcases ha with ⟨rfl, _⟩ | ⟨ne, ha⟩
    · rw [upd_same]; simp
    · rw [upd_ne ne]; exact s.own a ha
  · have hm : a ∈ w.m := ha
    have ne : a ≠ p := fun z => (s.fresh h).1 (z ▸ hm)
    exact fun z => z.elim (fun z => ne z.1) (fun z => s.sep a hm z.2)
/-- all that came since w becomes frozen -/
def Wd.frz (w w' : Wd) : Wd := { H := w'.H, m := w'.m, ow := fun a => w'.ow a ∧ w.H a ≠ none, x := w.x }
theorem lf_frz : Lf w' (w.frz w') := ⟨List.prefix_refl _, fun _ _ e f => ⟨e, f.1, fun z => f.2 z.1⟩⟩
theorem Le.frz (L : Le w w') : Le w (w.frz w') := ⟨L.pre, fun a o e n => by
  obtain ⟨e1, n1, i1⟩ := L.kp a o e n
  exact ⟨e1, n1, ⟨fun z => i1.mp z.1, fun z => ⟨i1.mpr z, by rw [e]; simp⟩⟩⟩⟩
theorem StoR.frz (s : StoR K w' S) : StoR K (w.frz w') S := ⟨s.len, s.nd, fun n a d e1 e2 => (s.at_ n a d e1 e2).lf lf_frz fun _ e => e, fun a z => s.own a z.1, fun a ha z => s.sep a ha z.1⟩
end
/-! ## results and slots -/
inductive Rv where
  | v (d : Da) | fr (d : Da) | bo (d : Da)
inductive Sx where
  | v (d : Da) | own (d : Da) (s : Bool) | exn
abbrev Env := List (Option Sx)
structure Exn where
  C : Str
  ns : List Str
  ds : List Da
def OwnR (K : PySem.W.Frag) (w0 w : Wd) (d : Da) (x : V) : Prop := ∃ a, x = .ref a ∧ w0.H a = none ∧ ConR K w a d ∧ w.ow a ∧ a ∉ w.m
def RepR (K : PySem.W.Frag) (wf w w' : Wd) : Rv → V → Prop
  | .v d, x => Rep K w' d x
  | .fr d, x => OwnR K w w' d x
  | .bo d, x => OwnR K wf w' d x
def RepRs (K : PySem.W.Frag) (wf w w' : Wd) : List Rv → List V → Prop
  | [], [] => True
  | r :: rs, x :: xs => RepR K wf w w' r x ∧ RepRs K wf w w' rs xs
  | _, _ => False
def SlR (K : PySem.W.Frag) (wf w : Wd) : Sx → V → Prop
  | .v d, x => Rep K w d x
  | .own d s, x => OwnR K wf w d x ∧ (s = true → x = .ref wf.x)
  | .exn, _ => True
def XdR (K : PySem.W.Frag) (w : Wd) (dd : Option Addr) (e : Exn) : Prop := (∃ d fs, dd = some d ∧ w.H d = some (.xd fs) ∧ w.fz d ∧ fs.map (·.1) = e.ns ∧ Reps K w e.ds (fs.map (·.2))) ∨ (dd = none ∧ e.ns = [])
def RepX (K : PySem.W.Frag) (w : Wd) (e : Exn) (c : Value) (dd : Option Addr) : Prop := c = .ref (He.ga K e.C) ∧ XdR K w dd e
/-- what a raising way is to reach; the exception that is handled here: its object, its dict -/
structure Cw where
  W : WX
  ex : Option (Addr × Option Addr × Exn) := none
structure Sim (K : PySem.W.Frag) (W : Cw) (wf w : Wd) (S : Sto) (σd : Env) (σv : L2.St) : Prop where
  le : Le wf w
  st : StoR K w S
  ln : σd.length = σv.length
  sl : ∀ (i : Nat) x, σd[i]? = some (some x) → ∃ v, σv[i]? = some (some v) ∧ SlR K wf w x v
  dj : ∀ (i j : Nat) d e s s' a, i ≠ j → σd[i]? = some (some (.own d s)) → σd[j]? = some (some (.own e s')) → σv[i]? = some (some (.ref a)) → σv[j]? ≠ some (some (.ref a))
  cx : ∀ a d e, W.ex = some (a, d, e) → XdR K w d e ∧ ∀ i : Nat, σd[i]? = some (some .exn) → σv[i]? = some (some (.ref a))
theorem XdR.lf {K : PySem.W.Frag} {w w' : Wd} {d : Option Addr} {e : Exn} (h : XdR K w d e) (L : Lf w w') : XdR K w' d e := by
  rcases h with ⟨d, fs, h0, h1, h2, h3, h4⟩ | h
  · exact .inl ⟨d, fs, h0, (L.kp _ _ h1 h2).1, (L.kp _ _ h1 h2).2, h3, h4.lf L⟩
  · exact .inr h
section
variable {K : PySem.W.Frag} {W : Cw} {wf w w0 w1 w2 w' : Wd} {S S' : Sto} {σd : Env} {σv : L2.St} {d : Da} {x : V} {r : Rv}
theorem OwnR.le (h : OwnR K w0 w d x) (L : Le w w') : OwnR K w0 w' d x := by
  obtain ⟨a, e, n, c, o, m⟩ := h
  obtain ⟨u, eu⟩ := c.some
  obtain ⟨e1, n1, i1⟩ := L.kp a u eu m
  exact ⟨a, e, n, c.le L m, i1.mpr o, n1⟩
theorem OwnR.back (h : OwnR K w1 w d x) (L : Le w0 w1) (s : StoR K w1 S) : OwnR K w0 w d x := by
  obtain ⟨a, e, n, c, o, m⟩ := h
  exact ⟨a, e, L.none s n, c, o, m⟩
theorem RepR.le (h : RepR K wf w w1 r x) (L : Le w1 w2) : RepR K wf w w2 r x := by
  cases r with
  | v d => exact Rep.le L h
  | fr d => exact OwnR.le h L
  | bo d => exact OwnR.le h L
theorem RepR.back (h : RepR K wf w1 w2 r x) (L : Le w w1) (s : StoR K w1 S) : RepR K wf w w2 r x := by
  cases r with
  | v d => exact h
  | fr d => exact OwnR.back h L s
  | bo d => exact h
theorem RepRs.le (L : Le w1 w2) : ∀ {rs : List Rv} {xs : List V}, RepRs K wf w w1 rs xs → RepRs K wf w w2 rs xs
  | [], [], _ => True.intro
  | r :: rs, x :: xs, h => ⟨h.1.le L, RepRs.le L h.2⟩
  | [], _ :: _, h => h.elim
  | _ :: _, [], h => h.elim
theorem RepRs.back (L : Le w w1) (s : StoR K w1 S) : ∀ {rs : List Rv} {xs : List V}, RepRs K wf w1 w2 rs xs → RepRs K wf w w2 rs xs
  | [], [], _ => True.intro
  | r :: rs, x :: xs, h => ⟨h.1.back L s, RepRs.back L s h.2⟩
  | [], _ :: _, h => h.elim
  | _ :: _, [], h => h.elim
theorem SlR.le {y : Sx} (h : SlR K wf w y x) (L : Le w w') : SlR K wf w' y x := by
  cases y with
  | v d => exact Rep.le L h
  | own d s => exact ⟨OwnR.le h.1 L, h.2⟩
  | exn => exact True.intro
theorem Sim.step (s : Sim K W wf w S σd σv) (L : Le w w') (st : StoR K w' S') : Sim K W wf w' S' σd σv := ⟨s.le.trans L, st, s.ln, fun i x e => by
  obtain ⟨v, e1, r⟩ := s.sl i x e
  exact ⟨v, e1, r.le L⟩, s.dj, fun a d e h => ⟨(s.cx a d e h).1.lf L.lf, (s.cx a d e h).2⟩⟩
def Rv.toD : Rv → Option Da
  | .v d => some d
  | .fr d => some d
  | .bo _ => none
def toDs : List Rv → Option (List Da)
  | [] => some []
  | r :: rs => match r.toD, toDs rs with
    | some d, some ds => some (d :: ds)
    | _, _ => none
theorem OwnR.frz (h : OwnR K w w' d x) : Rep K (w.frz w') d x := by
  obtain ⟨a, rfl, n, c, o, m⟩ := h
  exact (c.lf lf_frz fun _ e => e).rep ⟨m, fun z => z.2 n⟩
theorem RepR.frz (h : RepR K wf w w' r x) (e : r.toD = some d) : Rep K (w.frz w') d x := by
  cases r with
  | v d' => cases e; exact Rep.lf lf_frz h
  | fr d' => cases e; exact OwnR.frz h
  | bo d' => cases e
theorem RepRs.frz : ∀ {rs : List Rv} {xs : List V} {ds : List Da}, RepRs K wf w w' rs xs → toDs rs = some ds → Reps K (w.frz w') ds xs
  | [], [], ds, _, e => by cases e; exact .nil
  | r :: rs, x :: xs, ds, h, e => by
    unfold toDs at e
    cases e1 : r.toD with
    | none => rw [e1] at e; cases e
    | some d =>
      cases e2 : toDs rs with
      | none => rw [e1, e2] at e; cases e
      | some es =>
        rw [e1, e2] at e; cases e
        exact .cons (h.1.frz e1) (RepRs.frz h.2 e2)
  | [], _ :: _, _, h, _ => h.elim
  | _ :: _, [], _, h, _ => h.elim
end
/-! ## evaluations -/
inductive Ev (α : Type) where
  | ok (a : α) (S : Sto) | ex (e : Exn) (S : Sto) | bad
def Ev.bd {α β : Type} : Ev α → (α → Sto → Ev β) → Ev β
  | .ok a S, f => f a S
  | .ex e S, _ => .ex e S
  | .bad, _ => .bad
abbrev FE := Env → Sto → Ev Rv
abbrev FA := Env → Sto → Ev (List Rv)
abbrev FT := Env → Sto → Ev Bool
abbrev FI := Env → Sto → Ev (List Da)
abbrev Fn := List Da → Sto → Ev Rv
inductive So where
  | nx (σ : Env) (S : Sto) | rt (r : Rv) (S : Sto) | bk (σ : Env) (S : Sto) | ct (σ : Env) (S : Sto) | ex (e : Exn) (σ : Env) (S : Sto) | bad
abbrev FS := Env → Sto → So
abbrev FG := Da → Env → Option Env
def Po {α : Type} (P : α → Sto → Prop) (X : Exn → Sto → Prop) : Ev α → Prop
  | .ok a S => P a S
  | .ex e S => X e S
  | .bad => False
theorem Lf.refl (w : Wd) : Lf w w := (Le.refl w).lf
theorem Lf.trans {w w' w'' : Wd} (a : Lf w w') (b : Lf w' w'') : Lf w w'' := ⟨a.pre.trans b.pre, fun c o e n => by
  obtain ⟨e1, n1⟩ := a.kp c o e n
  exact b.kp c o e1 n1⟩
section
variable (K : PySem.W.Frag) (W : Cw)
def XP (w : Wd) (σv : L2.St) : Exn → Sto → Prop := fun e S' => ∀ w' c dd, Le w w' → StoR K w' S' → RepX K w' e c dd → W.W c dd σv w'.H
abbrev PostE (wf w : Wd) (σv : L2.St) (Q : VK) : Ev Rv → Prop := Po (fun r S' => ∀ w' v, Le w w' → StoR K w' S' → RepR K wf w w' r v → Q v w'.H) (XP K W w σv)
abbrev PostA (wf w : Wd) (σv : L2.St) (Q : List V → Hp → Prop) : Ev (List Rv) → Prop := Po (fun rs S' => ∀ w' vs, Le w w' → StoR K w' S' → RepRs K wf w w' rs vs → Q vs w'.H) (XP K W w σv)
abbrev PostT (w : Wd) (σv : L2.St) (Q : Bool → Hp → Prop) : Ev Bool → Prop := Po (fun b S' => ∀ w', Le w w' → StoR K w' S' → Q b w'.H) (XP K W w σv)
abbrev PostO (w : Wd) (σv : L2.St) (Q : Option Int → Hp → Prop) : Ev (Option Int) → Prop := Po (fun b S' => ∀ w', Le w w' → StoR K w' S' → Q b w'.H) (XP K W w σv)
def PostS (wf w0 : Wd) (D : Ends) : So → Prop
  | .nx σd S => ∀ w σv, Lf w0 w → Sim K W wf w S σd σv → D.nx σv w.H
  | .bk σd S => ∀ w σv, Lf w0 w → Sim K W wf w S σd σv → D.bk σv w.H
  | .ct σd S => ∀ w σv, Lf w0 w → Sim K W wf w S σd σv → D.ct σv w.H
  | .rt r S => ∀ w v, Le wf w → StoR K w S → RepR K wf wf w r v → D.rt v w.H
  | .ex e σd S => ∀ w σv c dd, Lf w0 w → Sim K W wf w S σd σv → RepX K w e c dd → W.W c dd σv w.H
  | .bad => False
def SndE (te : TE) (fe : FE) : Prop := ∀ wf w S σd σv Q, Sim K W wf w S σd σv → PostE K W wf w σv Q (fe σd S) → te σv w.H Q
def SndA (ta : TA) (fa : FA) : Prop := ∀ wf w S σd σv Q, Sim K W wf w S σd σv → PostA K W wf w σv Q (fa σd S) → ta σv w.H Q
def SndT (tt : TT) (ft : FT) : Prop := ∀ wf w S σd σv Q, Sim K W wf w S σd σv → PostT K W w σv Q (ft σd S) → tt σv w.H Q
def SndO (tt : TO) (fo : Env → Sto → Ev (Option Int)) : Prop := ∀ wf w S σd σv Q, Sim K W wf w S σd σv → PostO K W w σv Q (fo σd S) → tt σv w.H Q
def SndS (t : TS) (f : FS) : Prop := ∀ wf w S σd σv D, Sim K W wf w S σd σv → PostS K W wf w D (f σd S) → t D σv w.H
end
section
variable {K : PySem.W.Frag} {W : Cw} {wf w w0 : Wd} {S : Sto} {σd : Env} {σv : L2.St} {β : Type} {P : β → Sto → Prop}
theorem XP.mono {e : Exn} (L : Le w0 w) (h : XP K W w0 σv e S) : XP K W w σv e S := fun w' c dd L' st R => h w' c dd (L.trans L') st R
theorem SndE.run {ta : TE} {fa : FE} {Q : VK} (ha : SndE K W ta fa) (L0 : Le w0 w) (s : Sim K W wf w S σd σv) {k : Rv → Sto → Ev β} (h : Po P (XP K W w0 σv) ((fa σd S).bd k))
    (hk : ∀ r S1 w1 v, Le w w1 → StoR K w1 S1 → RepR K wf w w1 r v → Po P (XP K W w0 σv) (k r S1) → Q v w1.H) : ta σv w.H Q := by
  refine ha wf w S σd σv Q s ?_
  revert h
  cases fa σd S with
  | ok r S1 => exact fun h w1 v L st R => hk r S1 w1 v L st R h
  | ex e S1 => exact fun h => XP.mono L0 h
  | bad => exact fun h => h
theorem SndA.run {ta : TA} {fa : FA} {Q : List V → Hp → Prop} (ha : SndA K W ta fa) (L0 : Le w0 w) (s : Sim K W wf w S σd σv) {k : List Rv → Sto → Ev β} (h : Po P (XP K W w0 σv) ((fa σd S).bd k))
    (hk : ∀ r S1 w1 v, Le w w1 → StoR K w1 S1 → RepRs K wf w w1 r v → Po P (XP K W w0 σv) (k r S1) → Q v w1.H) : ta σv w.H Q := by
  refine ha wf w S σd σv Q s ?_
  revert h
  cases fa σd S with
  | ok r S1 => exact fun h w1 v L st R => hk r S1 w1 v L st R h
  | ex e S1 => exact fun h => XP.mono L0 h
  | bad => exact fun h => h
theorem SndT.run {ta : TT} {fa : FT} {Q : Bool → Hp → Prop} (ha : SndT K W ta fa) (L0 : Le w0 w) (s : Sim K W wf w S σd σv) {k : Bool → Sto → Ev β} (h : Po P (XP K W w0 σv) ((fa σd S).bd k))
    (hk : ∀ r S1 w1, Le w w1 → StoR K w1 S1 → Po P (XP K W w0 σv) (k r S1) → Q r w1.H) : ta σv w.H Q := by
  refine ha wf w S σd σv Q s ?_
  revert h
  cases fa σd S with
  | ok r S1 => exact fun h w1 L st => hk r S1 w1 L st h
  | ex e S1 => exact fun h => XP.mono L0 h
  | bad => exact fun h => h
theorem SndO.run {ta : TO} {fa : Env → Sto → Ev (Option Int)} {Q : Option Int → Hp → Prop} (ha : SndO K W ta fa) (L0 : Le w0 w) (s : Sim K W wf w S σd σv) {k : Option Int → Sto → Ev β} (h : Po P (XP K W w0 σv) ((fa σd S).bd k))
    (hk : ∀ r S1 w1, Le w w1 → StoR K w1 S1 → Po P (XP K W w0 σv) (k r S1) → Q r w1.H) : ta σv w.H Q := by
  refine ha wf w S σd σv Q s ?_
  revert h
  cases fa σd S with
  | ok r S1 => exact fun h w1 L st => hk r S1 w1 L st h
  | ex e S1 => exact fun h => XP.mono L0 h
  | bad => exact fun h => h
end
end Cl
/-! ## Fun2 -/
namespace Cl
open PySem PySem.Spec PyProof.Rows L2
/-! ## expressions -/
section
variable {K : PySem.W.Frag} {W : Cw}
def fVar (i : Nat) : FE := fun σ S => match σ[i]? with
  | some (some (.v d)) => .ok (.v d) S
  | some (some (.own d _)) => .ok (.bo d) S
  | _ => .bad
theorem snd_var {i : Nat} : SndE K W (tVar i) (fVar i) := by
  intro wf w S σd σv Q s h
  unfold fVar at h
  split at h
  · rename_i d e
    obtain ⟨v, e1, r⟩ := s.sl i _ e
    exact ⟨v, e1, h w v (Le.refl _) s.st r⟩
  · rename_i d _ e
    obtain ⟨v, e1, r⟩ := s.sl i _ e
    exact ⟨v, e1, h w v (Le.refl _) s.st r.1⟩
  · exact h.elim
def fC (d : Da) : FE := fun _ S => .ok (.v d) S
theorem snd_c {d : Da} {v : V} (hr : ∀ w, Rep K w d v) : SndE K W (tC v) (fC d) := fun wf w S σd σv Q s h => h w v (Le.refl _) s.st (hr w)
/-- what can be read at a result -/
def Rv.rd : Rv → Sto → Da
  | .v (.cell n), S => S.getD n .non
  | .v d, _ => d
  | .fr d, _ => d
  | .bo d, _ => d
def Da.sv : Da → Option V
  | .non => some .non
  | .bl b => some (.bl b)
  | .int i => some (.int i)
  | .str s => some (.str s)
  | _ => none
def svs : List Da → Option (List V)
  | [] => some []
  | d :: ds => match d.sv, svs ds with
    | some x, some xs => some (x :: xs)
    | _, _ => none
section
variable {wf w w0 : Wd} {S : Sto} {r : Rv} {x : V}
theorem rep_sv {d : Da} {v u : V} (h : Rep K w d v) (e : d.sv = some u) : v = u := by
  cases h <;> first | (cases e; rfl) | cases e
theorem reps_svs : ∀ {ds : List Da} {vs us : List V}, Reps K w ds vs → svs ds = some us → vs = us
  | _, _, us, .nil, e => by cases e; rfl
  | _, _, us, .cons h r, e => by
    rename_i d v ds vs
    unfold svs at e
    cases e1 : d.sv with
    | none => rw [e1] at e; cases e
    | some u =>
      cases e2 : svs ds with
      | none => rw [e1, e2] at e; cases e
      | some us' =>
        rw [e1, e2] at e; cases e
        rw [rep_sv h e1, reps_svs r e2]
theorem cell_at (st : StoR K w S) {n : Nat} {a : Addr} (h : w.m[n]? = some a) {d : Da} (hn : d ≠ .non) (e : S.getD n .non = d) : ConR K w a d := by
  rw [List.getD_eq_getElem?_getD] at e
  cases e2 : S[n]? with
  | none => rw [e2] at e; exact absurd e.symm hn
  | some c => rw [e2] at e; exact st.at_ n a d h (by rw [e2]; exact congrArg some e)
theorem conOf (st : StoR K w S) (h : RepR K wf w0 w r x) {d : Da} (e : r.rd S = d) (hd : match d with | .lst _ => True | .obj _ _ _ => True | .dic _ _ => True | _ => False) : ∃ a, x = .ref a ∧ ConR K w a d := by
  cases r with
  | v d' =>
    cases d' with
    | cell n =>
      cases h with
      | cell hm => exact ⟨_, rfl, cell_at st hm (by rintro rfl; exact hd) e⟩
    | lst ds => cases e; cases h with | lst e f r => exact ⟨_, rfl, _, e, r⟩
    | obj C ns ds => cases e; cases h with | obj e f en r => exact ⟨_, rfl, _, _, e, en, r⟩
    | dic ks ds => cases e; cases h with | dic e f en r => exact ⟨_, rfl, _, e, en, r⟩
    | _ => cases e; exact hd.elim
  | fr d' => cases e; obtain ⟨a, e, _, c, _⟩ := h; exact ⟨a, e, c⟩
  | bo d' => cases e; obtain ⟨a, e, _, c, _⟩ := h; exact ⟨a, e, c⟩
theorem lstOf (st : StoR K w S) (h : RepR K wf w0 w r x) {ds : List Da} (e : r.rd S = .lst ds) : ∃ a vs, x = .ref a ∧ w.H a = some (.lst vs) ∧ Reps K w ds vs := by
  obtain ⟨a, e1, vs, h1, h2⟩ := conOf st h e True.intro
  exact ⟨a, vs, e1, h1, h2⟩
theorem objOf (st : StoR K w S) (h : RepR K wf w0 w r x) {C : Str} {ns : List Str} {ds : List Da} (e : r.rd S = .obj C ns ds) : ∃ a dx fs, x = .ref a ∧ w.H a = some (.ins (He.ga K C) dx fs) ∧ fs.map (·.1) = ns ∧ Reps K w ds (fs.map (·.2)) := by
  obtain ⟨a, e1, dx, fs, h1, h2⟩ := conOf st h e True.intro
  exact ⟨a, dx, fs, e1, h1, h2⟩
theorem FzT.sq {a : Addr} {vs : List V} (h : FzT K w a vs) : SqT K w.H a vs := h.elim (fun h => .inl h.1) .inr
theorem FzL.sq {a : Addr} {vs : List V} (h : FzL K w a vs) : SqL K w.H a vs := h.elim (fun h => .inl h.1) .inr
theorem tup_never (st : StoR K w S) {n : Nat} {a : Addr} (h : w.m[n]? = some a) {ds : List Da} (e : S.getD n .non = .tup ds) : False := cell_at st h (by intro z; cases z) e
theorem tupOf (st : StoR K w S) (h : RepR K wf w0 w r x) {ds : List Da} (e : r.rd S = .tup ds) : ∃ a vs, x = .ref a ∧ FzT K w a vs ∧ Reps K w ds vs := by
  cases r with
  | v d' =>
    cases d' with
    | cell n => cases h with | cell hm => exact (tup_never st hm e).elim
    | tup ds => cases e; cases h with | tup f r => exact ⟨_, _, rfl, f, r⟩
    | _ => cases e
  | fr d' => cases e; obtain ⟨a, e, _, c, _⟩ := h; exact c.elim
  | bo d' => cases e; obtain ⟨a, e, _, c, _⟩ := h; exact c.elim
theorem frlOf (st : StoR K w S) (h : RepR K wf w0 w r x) {ns : List Int} (e : r.rd S = .frl ns) : ∃ a, x = .ref a ∧ SqL K w.H a (ns.map V.int) := by
  cases r with
  | v d' =>
    cases d' with
    | cell n => cases h with | cell hm => exact (cell_at st hm (by intro z; cases z) e : False).elim
    | frl ns => cases e; cases h with | frl e => exact ⟨_, rfl, e.sq⟩
    | _ => cases e
  | fr d' => cases e; obtain ⟨a, e, _, c, _⟩ := h; exact c.elim
  | bo d' => cases e; obtain ⟨a, e, _, c, _⟩ := h; exact c.elim
end
/-! ### operations -/
abbrev FO2 := Rv → Rv → Sto → Ev Rv
variable (K W) in
def OpS (r : R2) (o : FO2) : Prop := ∀ {wf w w2 : Wd} {S : Sto} {σd : Env} {σv : L2.St} {r1 r2 : Rv} {v1 v2 : V} {Q : VK}, Sim K W wf w2 S σd σv → Le w w2 → RepR K wf w w2 r1 v1 → RepR K wf w w2 r2 v2 → PostE K W wf w σv Q (o r1 r2 S) → r v1 v2 w2.H Q
def fOp (o : FO2) (fa fb : FE) : FE := fun σ S => (fa σ S).bd fun r1 S1 => (fb σ S1).bd fun r2 S2 => o r1 r2 S2
theorem snd_op {r : R2} {o : FO2} {ta tb : TE} {fa fb : FE} (ho : OpS K W r o) (ha : SndE K W ta fa) (hb : SndE K W tb fb) : SndE K W (tOp r ta tb) (fOp o fa fb) := by
  intro wf w S σd σv Q s h
  refine ha.run (Le.refl w) s h fun r1 S1 w1 v1 L1 st1 R1 h1 => hb.run L1 (s.step L1 st1) h1 fun r2 S2 w2 v2 L2 st2 R2 h2 => ?_
  exact ho (s.step (L1.trans L2) st2) (L1.trans L2) (R1.le L2) (R2.back L1 st1) h2
def oI0 (g : Int → Int → Da) : FO2
  | .v (.int a), .v (.int b), S => .ok (.v (g a b)) S
  | _, _, _ => .bad
theorem op_I0 {g : Int → Int → Da} {gv : Int → Int → V} (hg : ∀ w a b, Rep K w (g a b) (gv a b)) : OpS K W (rI0 gv) (oI0 g) := by
  intro wf w w2 S σd σv r1 r2 v1 v2 Q s L R1 R2 h
  unfold oI0 at h
  split at h
  · cases R1; cases R2
    exact ⟨_, _, rfl, rfl, h w2 _ L s.st (hg _ _ _)⟩
  · exact h.elim
def oI (C : Int → Int → Bool) (g : Int → Int → Da) : FO2
  | .v (.int a), .v (.int b), S => if C a b = true then .ok (.v (g a b)) S else .bad
  | _, _, _ => .bad
theorem op_I {C : Int → Int → Bool} {P : Int → Int → Prop} {g : Int → Int → Da} {gv : Int → Int → V} (hc : ∀ a b, C a b = true → P a b) (hg : ∀ w a b, Rep K w (g a b) (gv a b)) : OpS K W (rI P gv) (oI C g) := by
  intro wf w w2 S σd σv r1 r2 v1 v2 Q s L R1 R2 h
  unfold oI at h
  split at h
  · rename_i a b
    by_cases e : C a b = true
    · rw [if_pos e] at h
      cases R1; cases R2
      exact ⟨_, _, rfl, rfl, hc _ _ e, h w2 _ L s.st (hg _ _ _)⟩
    · rw [if_neg e] at h; exact h.elim
  · exact h.elim
abbrev xAdd : FO2 := oI0 fun a b => .int (a + b)
abbrev xSub : FO2 := oI0 fun a b => .int (a - b)
abbrev xLt : FO2 := oI0 fun a b => .bl (decide (a < b))
abbrev xLe : FO2 := oI0 fun a b => .bl (decide (a ≤ b))
abbrev xGt : FO2 := oI0 fun a b => .bl (decide (b < a))
abbrev xGe : FO2 := oI0 fun a b => .bl (decide (b ≤ a))
def cMul (a b : Int) : Bool := decide ((-18446744073709551616 < a ∧ a < 18446744073709551616) ∨ (-18446744073709551616 < b ∧ b < 18446744073709551616))
def cDiv (_ b : Int) : Bool := decide (0 < b ∧ b < 4611686018427387904)
def cMod (_ b : Int) : Bool := decide (0 < b)
def cPow (a b : Int) : Bool := decide (0 ≤ b ∧ b ≤ 1000000 ∧ a.natAbs < 18446744073709551616)
abbrev xMul : FO2 := oI cMul fun a b => .int (a * b)
abbrev xDiv : FO2 := oI cDiv fun a b => .int (a / b)
abbrev xMod : FO2 := oI cMod fun a b => .int (a % b)
abbrev xPow : FO2 := oI cPow fun a b => .int (a ^ b.toNat)
theorem sAdd : OpS K W oAdd xAdd := op_I0 fun _ _ _ => .int _
theorem sSub : OpS K W oSub xSub := op_I0 fun _ _ _ => .int _
theorem sLt : OpS K W oLt xLt := op_I0 fun _ _ _ => .bl _
theorem sLe : OpS K W oLe xLe := op_I0 fun _ _ _ => .bl _
theorem sGt : OpS K W oGt xGt := op_I0 fun _ _ _ => .bl _
theorem sGe : OpS K W oGe xGe := op_I0 fun _ _ _ => .bl _
theorem sMul : OpS K W oMul xMul := op_I (fun a b h => by unfold cMul at h; have := of_decide_eq_true h; show (-(2 ^ 64) < a ∧ a < 2 ^ 64) ∨ (-(2 ^ 64) < b ∧ b < 2 ^ 64); omega) fun _ _ _ => .int _
theorem sDiv : OpS K W oDiv xDiv := op_I (fun a b h => by unfold cDiv at h; have h2 := of_decide_eq_true h; exact h2) fun _ _ _ => .int _
theorem sMod : OpS K W oMod xMod := op_I (fun a b h => by unfold cMod at h; exact of_decide_eq_true h) fun _ _ _ => .int _
theorem pow64 : (2 : Nat) ^ 64 = 18446744073709551616 := by decide
theorem sPow : OpS K W oPow xPow := op_I (fun a b h => by
  unfold cPow at h
  have h2 := of_decide_eq_true h
  refine ⟨h2.1, h2.2.1, ?_⟩
  rw [pow64]; exact h2.2.2) fun _ _ _ => .int _
/-- == of scalars -/
def xEq (neg : Bool) : FO2
  | .v d, .v e, S => match d.sv, e.sv with
    | some x, some y => if scal x y = true then .ok (.v (.bl (if neg then !decide (x = y) else decide (x = y)))) S else .bad
    | _, _ => .bad
  | _, _, _ => .bad
theorem eq_core {wf w w2 : Wd} {S : Sto} {σv : L2.St} {neg : Bool} {r1 r2 : Rv} {v1 v2 : V} {Q : VK} (st : StoR K w2 S) (L : Le w w2) (R1 : RepR K wf w w2 r1 v1) (R2 : RepR K wf w w2 r2 v2) (h : PostE K W wf w σv Q (xEq neg r1 r2 S)) :
    scal v1 v2 = true ∧ Q (.bl (if neg then !decide (v1 = v2) else decide (v1 = v2))) w2.H := by
  unfold xEq at h
  split at h
  · rename_i d e
    cases e1 : d.sv with
    | none => rw [e1] at h; exact h.elim
    | some x =>
      cases e2 : e.sv with
      | none => rw [e1, e2] at h; exact h.elim
      | some y =>
        rw [e1, e2] at h
        have x1 : v1 = x := rep_sv R1 e1
        have x2 : v2 = y := rep_sv R2 e2
        subst x1 x2
        by_cases hs : scal v1 v2 = true
        · simp only [hs, if_true] at h
          exact ⟨hs, h w2 _ L st (.bl _)⟩
        · simp only [hs] at h; exact h.elim
  · exact h.elim
theorem sEq : OpS K W rEq (xEq false) := fun s L R1 R2 h => eq_core s.st L R1 R2 h
theorem sNe : OpS K W rNe (xEq true) := fun s L R1 R2 h => eq_core s.st L R1 R2 h
def Rv.isN : Rv → Option Bool
  | .v .non => some true
  | _ => some false
def xIsN (neg : Bool) : FO2 := fun r1 r2 S => match r1.isN, r2 with
  | some b, .v .non => .ok (.v (.bl (if neg then !b else b))) S
  | _, _ => .bad
theorem isN_dec {wf w w2 : Wd} {r : Rv} {v : V} {b : Bool} (R : RepR K wf w w2 r v) (e : r.isN = some b) : decide (v = .non) = b := by
  cases r with
  | v d => cases R <;> cases e <;> rfl
  | fr d => cases e; obtain ⟨a, rfl, _⟩ := R; rfl
  | bo d => cases e; obtain ⟨a, rfl, _⟩ := R; rfl
theorem isN_core {wf w w2 : Wd} {S : Sto} {σv : L2.St} {neg : Bool} {r1 r2 : Rv} {v1 v2 : V} {Q : VK} (st : StoR K w2 S) (L : Le w w2) (R1 : RepR K wf w w2 r1 v1) (R2 : RepR K wf w w2 r2 v2) (h : PostE K W wf w σv Q (xIsN neg r1 r2 S)) :
    v2 = .non ∧ Q (.bl (if neg then !decide (v1 = .non) else decide (v1 = .non))) w2.H := by
  unfold xIsN at h
  split at h
  · rename_i e
    cases R2
    rw [isN_dec R1 e]
    exact ⟨rfl, h w2 _ L st (.bl _)⟩
  · exact h.elim
theorem sIsN : OpS K W rIsN (xIsN false) := fun s L R1 R2 h => isN_core s.st L R1 R2 h
theorem sNotN : OpS K W rNotN (xIsN true) := fun s L R1 R2 h => isN_core s.st L R1 R2 h
/-! ### items -/
theorem reps_atI {w : Wd} {ds : List Da} {vs : List V} (h : Reps K w ds vs) {i : Int} {d : Da} (e : atI ds i = some d) : ∃ v, atI vs i = some v ∧ Rep K w d v := by
  unfold atI at e ⊢
  rw [h.length]
  cases e1 : ixN ds.length i with
  | none => rw [e1] at e; cases e
  | some j => rw [e1] at e; exact h.at e
def xIx (l t : Bool) : FO2 := fun r1 r2 S => match r1.rd S, r2 with
  | .lst ds, .v (.int i) => match l, atI ds i with
    | true, some d => .ok (.v d) S
    | _, _ => .bad
  | .frl ns, .v (.int i) => match l, atI ns i with
    | true, some n => .ok (.v (.int n)) S
    | _, _ => .bad
  | .tup ds, .v (.int i) => match t, atI ds i with
    | true, some d => .ok (.v d) S
    | _, _ => .bad
  | _, _ => .bad
theorem atI_map {α β : Type} {f : α → β} {xs : List α} {i : Int} {x : α} (e : atI xs i = some x) : atI (xs.map f) i = some (f x) := by
  unfold atI at e ⊢
  rw [List.length_map]
  cases e1 : ixN xs.length i with
  | none => rw [e1] at e; cases e
  | some j => rw [e1] at e; show (xs.map f)[j]? = _; rw [List.getElem?_map, show xs[j]? = some x from e]; rfl
theorem ix_core {wf w w2 : Wd} {S : Sto} {σd : Env} {σv : L2.St} {l t : Bool} {r1 r2 : Rv} {v1 v2 : V} {Q : VK} (s : Sim K W wf w2 S σd σv) (L : Le w w2) (R1 : RepR K wf w w2 r1 v1) (R2 : RepR K wf w w2 r2 v2) (h : PostE K W wf w σv Q (xIx l t r1 r2 S)) :
    (l = true ∧ rIxL K v1 v2 w2.H Q) ∨ (t = true ∧ rIxT K v1 v2 w2.H Q) := by
  unfold xIx at h
  split at h
  · rename_i ds i e
    obtain ⟨a, vs, rfl, h1, h2⟩ := lstOf s.st R1 e
    split at h
    · rename_i d e2
      obtain ⟨v, h3, h4⟩ := reps_atI h2 e2
      cases R2
      exact .inl ⟨rfl, a, vs, _, v, rfl, rfl, SqL.of h1, h3, h w2 v L s.st h4⟩
    · exact h.elim
  · rename_i ns i e
    obtain ⟨a, rfl, h1⟩ := frlOf s.st R1 e
    split at h
    · rename_i n e2
      cases R2
      exact .inl ⟨rfl, a, _, _, _, rfl, rfl, h1, atI_map e2, h w2 _ L s.st (.int _)⟩
    · exact h.elim
  · rename_i ds i e
    obtain ⟨a, vs, rfl, h1, h2⟩ := tupOf s.st R1 e
    split at h
    · rename_i d e2
      obtain ⟨v, h3, h4⟩ := reps_atI h2 e2
      cases R2
      exact .inr ⟨rfl, a, vs, _, v, rfl, rfl, h1.sq, h3, h w2 v L s.st h4⟩
    · exact h.elim
  · exact h.elim
theorem sIxL : OpS K W (rIxL K) (xIx true false) := fun s L R1 R2 h => (ix_core s L R1 R2 h).elim (·.2) fun z => by cases z.1
theorem sIxT : OpS K W (rIxT K) (xIx false true) := fun s L R1 R2 h => (ix_core s L R1 R2 h).elim (fun z => by cases z.1) (·.2)
theorem sIx : OpS K W (rIx K) (xIx true true) := fun s L R1 R2 h => (ix_core s L R1 R2 h).elim (fun z => .inl z.2) fun z => .inr (.inl z.2)
def xIxS : FO2
  | .v (.str z), .v (.int i), S => match atI z.cps.toList i with
    | some c => if z.length ≤ 1000000 then .ok (.v (.str ⟨#[c]⟩)) S else .bad
    | none => .bad
  | _, _, _ => .bad
theorem sz_le {n : Nat} (h : n ≤ 1000000) : n ≤ sizeLine := Nat.le_of_lt (sz_lt h)
theorem sIxS : OpS K W rIxS xIxS := by
  intro wf w w2 S σd σv r1 r2 v1 v2 Q s L R1 R2 h
  unfold xIxS at h
  split at h
  · split at h
    · rename_i z i _ c e
      by_cases hz : z.length ≤ 1000000
      · rw [if_pos hz] at h
        cases R1; cases R2
        exact ⟨z, i, c, rfl, rfl, sz_le hz, e, h w2 _ L s.st (.str _)⟩
      · rw [if_neg hz] at h; exact h.elim
    · exact h.elim
  · exact h.elim
/-- texts: + -/
def xAddS : FO2
  | .v (.str a), .v (.str b), S => if a.length + b.length ≤ 1000000 then .ok (.v (.str (a ++ b))) S else .bad
  | _, _, _ => .bad
def rAddStr : R2 := fun x y H Q => ∃ i j, x = .str i ∧ y = .str j ∧ i.length + j.length ≤ sizeLine ∧ Q (.str (i ++ j)) H
theorem sAddS : OpS K W rAddStr xAddS := by
  intro wf w w2 S σd σv r1 r2 v1 v2 Q s L R1 R2 h
  unfold xAddS at h
  split at h
  · rename_i a b
    by_cases hz : a.length + b.length ≤ 1000000
    · rw [if_pos hz] at h
      cases R1; cases R2
      exact ⟨a, b, rfl, rfl, sz_le hz, h w2 _ L s.st (.str _)⟩
    · rw [if_neg hz] at h; exact h.elim
  · exact h.elim
/-- c in z, one sign -/
def xInS (neg : Bool) : FO2
  | .v (.str a), .v (.str b), S => match a.cps.toList with
    | [c] => .ok (.v (.bl (if neg then !decide (c ∈ b.cps.toList) else decide (c ∈ b.cps.toList)))) S
    | _ => .bad
  | _, _, _ => .bad
theorem inS_core {wf w w2 : Wd} {S : Sto} {σv : L2.St} {neg : Bool} {r1 r2 : Rv} {v1 v2 : V} {Q : VK} (st : StoR K w2 S) (L : Le w w2) (R1 : RepR K wf w w2 r1 v1) (R2 : RepR K wf w w2 r2 v2) (h : PostE K W wf w σv Q (xInS neg r1 r2 S)) :
    ∃ (c : Nat) (z : Str), v1 = .str ⟨#[c]⟩ ∧ v2 = .str z ∧ Q (.bl (if neg then !decide (c ∈ z.cps.toList) else decide (c ∈ z.cps.toList))) w2.H := by
  unfold xInS at h
  split at h
  · rename_i a b
    split at h
    · rename_i c e
      cases R1; cases R2
      refine ⟨c, b, ?_, rfl, h w2 _ L st (.bl _)⟩
      obtain ⟨cps⟩ := a
      have e2 : cps = #[c] := by rw [← Array.toArray_toList (xs := cps)]; rw [show cps.toList = [c] from e]
      rw [e2]
    · exact h.elim
  · exact h.elim
theorem sInS : OpS K W rInS (xInS false) := fun s L R1 R2 h => inS_core s.st L R1 R2 h
/-- x in xs: flat -/
def xIn (neg : Bool) : FO2 := fun r1 r2 S => match r1, r2.rd S with
  | .v d, .lst ds => match d.sv, svs ds with
    | some x, some xs => if flatV x && xs.all flatV then .ok (.v (.bl (if neg then !inV x xs else inV x xs))) S else .bad
    | _, _ => .bad
  | .v d, .tup ds => match d.sv, svs ds with
    | some x, some xs => if flatV x && xs.all flatV then .ok (.v (.bl (if neg then !inV x xs else inV x xs))) S else .bad
    | _, _ => .bad
  | _, _ => .bad
theorem sIn {neg : Bool} : OpS K W (rIn K neg) (xIn neg) := by
  intro wf w w2 S σd σv r1 r2 v1 v2 Q s L R1 R2 h
  unfold xIn at h
  split at h
  · rename_i d ds e
    obtain ⟨a, vs, rfl, h1, h2⟩ := lstOf s.st R2 e
    split at h
    · rename_i x xs e1 e2
      have x1 : v1 = x := rep_sv R1 e1
      have x2 : vs = xs := reps_svs h2 e2
      subst x1 x2
      by_cases hf : (flatV v1 && vs.all flatV) = true
      · rw [if_pos hf] at h
        have hf' := hf
        simp only [Bool.and_eq_true] at hf'
        exact ⟨a, vs, rfl, .inl (SqL.of h1), hf'.1, hf'.2, h w2 _ L s.st (.bl _)⟩
      · rw [if_neg hf] at h; exact h.elim
    · exact h.elim
  · rename_i d ds e
    obtain ⟨a, vs, rfl, h1, h2⟩ := tupOf s.st R2 e
    split at h
    · rename_i x xs e1 e2
      have x1 : v1 = x := rep_sv R1 e1
      have x2 : vs = xs := reps_svs h2 e2
      subst x1 x2
      by_cases hf : (flatV v1 && vs.all flatV) = true
      · rw [if_pos hf] at h
        have hf' := hf
        simp only [Bool.and_eq_true] at hf'
        exact ⟨a, vs, rfl, .inr h1.sq, hf'.1, hf'.2, h w2 _ L s.st (.bl _)⟩
      · rw [if_neg hf] at h; exact h.elim
    · exact h.elim
  · exact h.elim
end
end Cl
/-! ## Fun3 -/
namespace Cl
open PySem PySem.Spec PyProof.Rows L2
section
variable {K : PySem.W.Frag} {W : Cw}
/-! ### truth of values, and, or, if -/
def Rv.bool : Rv → Option Bool
  | .v (.bl b) => some b
  | _ => none
theorem bool_of {wf w w2 : Wd} {r : Rv} {v : V} {b : Bool} (R : RepR K wf w w2 r v) (e : r.bool = some b) : v = .bl b := by
  cases r with
  | v d => cases R <;> cases e <;> rfl
  | fr d => cases e
  | bo d => cases e
def onB {α : Type} (r : Rv) (f : Bool → Ev α) : Ev α := match r.bool with
  | some b => f b
  | none => .bad
theorem onB_of {α : Type} {wf w w2 : Wd} {r : Rv} {v : V} {f : Bool → Ev α} {P : α → Sto → Prop} {X : Exn → Sto → Prop} (R : RepR K wf w w2 r v) (h : Po P X (onB r f)) : ∃ b, v = .bl b ∧ Po P X (f b) := by
  unfold onB at h
  cases e : r.bool with
  | none => rw [e] at h; exact h.elim
  | some b => rw [e] at h; exact ⟨b, bool_of R e, h⟩
def fNotV (fa : FE) : FE := fun σ S => (fa σ S).bd fun r S1 => onB r fun b => .ok (.v (.bl (!b))) S1
theorem snd_notV {ta : TE} {fa : FE} (ha : SndE K W ta fa) : SndE K W (tNotV ta) (fNotV fa) := by
  intro wf w S σd σv Q s h
  refine ha.run (Le.refl w) s h fun r1 S1 w1 v1 L1 st1 R1 h1 => ?_
  obtain ⟨b, rfl, h2⟩ := onB_of R1 h1
  exact ⟨b, rfl, h2 w1 _ L1 st1 (.bl _)⟩
def fAndV (fa fb : FE) : FE := fun σ S => (fa σ S).bd fun r S1 => onB r fun b => if b = true then fb σ S1 else .ok (.v (.bl false)) S1
theorem PostE.shift {wf w w1 : Wd} {S1 : Sto} {σv : L2.St} {Q : VK} {e : Ev Rv} (L : Le w w1) (st : StoR K w1 S1) (h : PostE K W wf w σv Q e) : PostE K W wf w1 σv Q e := by
  cases e with
  | ok r S' => exact fun w' v L' st' R => h w' v (L.trans L') st' (R.back L st)
  | ex e S' => exact XP.mono L h
  | bad => exact h
theorem PostT.shift {w w1 : Wd} {σv : L2.St} {Q : Bool → Hp → Prop} {e : Ev Bool} (L : Le w w1) (h : PostT K W w σv Q e) : PostT K W w1 σv Q e := by
  cases e with
  | ok r S' => exact fun w' L' st' => h w' (L.trans L') st'
  | ex e S' => exact XP.mono L h
  | bad => exact h
theorem snd_andV {ta tb : TE} {fa fb : FE} (ha : SndE K W ta fa) (hb : SndE K W tb fb) : SndE K W (tAndV ta tb) (fAndV fa fb) := by
  intro wf w S σd σv Q s h
  refine ha.run (Le.refl w) s h fun r1 S1 w1 v1 L1 st1 R1 h1 => ?_
  obtain ⟨b, rfl, h2⟩ := onB_of R1 h1
  refine ⟨b, rfl, ?_⟩
  cases b with
  | true => exact iteT (hb wf w1 S1 σd σv Q (s.step L1 st1) (PostE.shift L1 st1 (by simpa using h2)))
  | false => exact iteF (by simp only [Bool.false_eq_true, if_false] at h2; exact h2 w1 _ L1 st1 (.bl _))
def fIf (ft : FT) (fa fb : FE) : FE := fun σ S => (ft σ S).bd fun b S1 => if b = true then fa σ S1 else fb σ S1
theorem snd_if {tt : TT} {ft : FT} {ta tb : TE} {fa fb : FE} (ht : SndT K W tt ft) (ha : SndE K W ta fa) (hb : SndE K W tb fb) : SndE K W (tIf tt ta tb) (fIf ft fa fb) := by
  intro wf w S σd σv Q s h
  refine ht.run (Le.refl w) s h fun b S1 w1 L1 st1 h1 => ?_
  cases b with
  | true => exact iteT (ha wf w1 S1 σd σv Q (s.step L1 st1) (PostE.shift L1 st1 (by simpa using h1)))
  | false => exact iteF (hb wf w1 S1 σd σv Q (s.step L1 st1) (PostE.shift L1 st1 (by simpa using h1)))
/-! ### chains -/
def fChain (o o' : FO2) (fa fb fc : FE) : FE := fun σ S => (fa σ S).bd fun r1 S1 => (fb σ S1).bd fun r2 S2 => (o r1 r2 S2).bd fun z S3 => onB z fun k => if k = true then (fc σ S3).bd fun r3 S4 => o' r2 r3 S4 else .ok (.v (.bl false)) S3
/-- comparisons of ints -/
def isCmp (r : R2) (o : FO2) : Prop := ∃ p : Int → Int → Bool, r = rI0 (fun i j => .bl (p i j)) ∧ o = oI0 fun i j => .bl (p i j)
theorem cLe : isCmp oLe xLe := ⟨_, rfl, rfl⟩
theorem cmp_run {β : Type} {p : Int → Int → Bool} {wf wa wb w2 : Wd} {S : Sto} {r1 r2 : Rv} {v1 v2 : V} {P : β → Sto → Prop} {X : Exn → Sto → Prop} {k : Rv → Sto → Ev β} (R1 : RepR K wf wa w2 r1 v1) (R2 : RepR K wf wb w2 r2 v2) (h : Po P X ((oI0 (fun i j => .bl (p i j)) r1 r2 S).bd k)) :
    ∃ i j, v1 = .int i ∧ v2 = .int j ∧ Po P X (k (.v (.bl (p i j))) S) := by
  unfold oI0 at h
  split at h
  · cases R1; cases R2; exact ⟨_, _, rfl, rfl, h⟩
  · exact h.elim
theorem snd_chain {r r' : R2} {o o' : FO2} {ta tb tc : TE} {fa fb fc : FE} (ho : isCmp r o) (ho' : OpS K W r' o') (ha : SndE K W ta fa) (hb : SndE K W tb fb) (hc : SndE K W tc fc) : SndE K W (tChain r r' ta tb tc) (fChain o o' fa fb fc) := by
  obtain ⟨p, rfl, rfl⟩ := ho
  intro wf w S σd σv Q s h
  refine ha.run (Le.refl w) s h fun r1 S1 w1 v1 L1 st1 R1 h1 => hb.run L1 (s.step L1 st1) h1 fun r2 S2 w2 v2 L2 st2 R2 h2 => ?_
  obtain ⟨i, j, rfl, rfl, h3⟩ := cmp_run (R1.le L2) R2 h2
  refine ⟨i, j, rfl, rfl, p i j, rfl, ?_⟩
  have h4 : Po _ _ (if p i j = true then (fc σd S2).bd fun r3 S4 => o' r2 r3 S4 else .ok (.v (.bl false)) S2) := h3
  cases hp : p i j with
  | true =>
    rw [hp, if_pos rfl] at h4
    exact iteT (hc.run (L1.trans L2) (s.step (L1.trans L2) st2) h4 fun r3 S3 w3 v3 L3 st3 R3 h5 => ho' (s.step ((L1.trans L2).trans L3) st3) ((L1.trans L2).trans L3) ((R2.back L1 st1).le L3) (R3.back (L1.trans L2) st2) h5)
  | false =>
    rw [hp, if_neg (by simp)] at h4
    exact iteF (h4 w2 _ (L1.trans L2) st2 (.bl _))
/-! ### argument lists -/
def fNil : FA := fun _ S => .ok [] S
def fCons (fe : FE) (fa : FA) : FA := fun σ S => (fe σ S).bd fun r S1 => (fa σ S1).bd fun rs S2 => .ok (r :: rs) S2
theorem snd_nil : SndA K W tNil fNil := fun wf w S σd σv Q s h => h w _ (Le.refl _) s.st True.intro
theorem snd_cons {te : TE} {fe : FE} {ta : TA} {fa : FA} (he : SndE K W te fe) (ha : SndA K W ta fa) : SndA K W (tCons te ta) (fCons fe fa) := by
  intro wf w S σd σv Q s h
  refine he.run (Le.refl w) s h fun r1 S1 w1 v1 L1 st1 R1 h1 => ha.run L1 (s.step L1 st1) h1 fun r2 S2 w2 v2 L2 st2 R2 h2 => ?_
  exact h2 w2 _ (L1.trans L2) st2 ⟨R1.le L2, R2.back L1 st1⟩
/-! ### new objects -/
theorem RepRs.length {wf w w' : Wd} : ∀ {rs : List Rv} {vs : List V}, RepRs K wf w w' rs vs → vs.length = rs.length
  | [], [], _ => rfl
  | r :: rs, v :: vs, h => by simp [RepRs.length h.2]
  | [], _ :: _, h => h.elim
  | _ :: _, [], h => h.elim
theorem rep_newT {w : Wd} {S : Sto} (st : StoR K w S) {p : Addr} {ds : List Da} {vs : List V} (hp : w.H p = none) (r : Reps K w ds vs) : Rep K (w.new p (.tup vs) False) (.tup ds) (.ref p) := by
  have f := st.fresh hp
  refine .tup (.inl ⟨.inl upd_same, f.1, fun z => z.elim (·.2) fun z => z.1 rfl⟩) (r.le (le_new hp))
theorem own_newL {w0 w : Wd} {S : Sto} (st : StoR K w S) {p : Addr} {ds : List Da} {vs : List V} (h0 : w0.H p = none) (hp : w.H p = none) (r : Reps K w ds vs) : OwnR K w0 (w.new p (.lst vs) True) (.lst ds) (.ref p) :=
  ⟨p, rfl, h0, ⟨vs, upd_same, r.le (le_new hp)⟩, .inl ⟨rfl, True.intro⟩, (st.fresh hp).1⟩
def onDs {α : Type} (rs : List Rv) (f : List Da → Ev α) : Ev α := match toDs rs with
  | some ds => f ds
  | none => .bad
theorem onDs_of {α : Type} {rs : List Rv} {f : List Da → Ev α} {P : α → Sto → Prop} {X : Exn → Sto → Prop} (h : Po P X (onDs rs f)) : ∃ ds, toDs rs = some ds ∧ Po P X (f ds) := by
  unfold onDs at h
  cases e : toDs rs with
  | none => rw [e] at h; exact h.elim
  | some ds => rw [e] at h; exact ⟨ds, rfl, h⟩
def onD {α : Type} (r : Rv) (f : Da → Ev α) : Ev α := match r.toD with
  | some d => f d
  | none => .bad
def fTup (fa : FA) : FE := fun σ S => (fa σ S).bd fun rs S1 => onDs rs fun ds => if ds.length ≤ 1000000 then .ok (.v (.tup ds)) S1 else .bad
theorem Po.ite {α : Type} {P : α → Sto → Prop} {X : Exn → Sto → Prop} {c : Prop} [Decidable c] {e : Ev α} (h : Po P X (if c then e else .bad)) : c ∧ Po P X e := by
  by_cases hc : c
  · rw [if_pos hc] at h; exact ⟨hc, h⟩
  · rw [if_neg hc] at h; exact h.elim
theorem snd_tup {ta : TA} {fa : FA} (ha : SndA K W ta fa) : SndE K W (tTup ta) (fTup fa) := by
  intro wf w S σd σv Q s h
  refine ha.run (Le.refl w) s h fun rs S1 w1 vs L1 st1 R1 h1 => ?_
  obtain ⟨ds, e, h2⟩ := onDs_of h1
  obtain ⟨hz, h3⟩ := h2.ite
  have R := R1.frz e
  have st : StoR K (w.frz w1) S1 := st1.frz
  refine ⟨by rw [R.length]; exact sz_le hz, fun p hp => ?_⟩
  exact h3 ((w.frz w1).new p (.tup vs) False) _ (L1.frz.trans (le_new hp)) (st.new hp) (rep_newT st hp R)
def fLst (fa : FA) : FE := fun σ S => (fa σ S).bd fun rs S1 => onDs rs fun ds => if ds.length ≤ 1000000 then .ok (.fr (.lst ds)) S1 else .bad
theorem snd_lst {ta : TA} {fa : FA} (ha : SndA K W ta fa) : SndE K W (tLst ta) (fLst fa) := by
  intro wf w S σd σv Q s h
  refine ha.run (Le.refl w) s h fun rs S1 w1 vs L1 st1 R1 h1 => ?_
  obtain ⟨ds, e, h2⟩ := onDs_of h1
  obtain ⟨hz, h3⟩ := h2.ite
  have R := R1.frz e
  have st : StoR K (w.frz w1) S1 := st1.frz
  refine ⟨by rw [R.length]; exact sz_le hz, fun p hp => ?_⟩
  exact h3 ((w.frz w1).new p (.lst vs) True) _ (L1.frz.trans (le_new hp)) (st.new hp) (own_newL st (L1.none st1 hp) hp R)
/-- a list becomes a cell -/
def fCell (fe : FE) : FE := fun σ S => (fe σ S).bd fun r S1 => match r with
  | .fr d => .ok (.v (.cell S1.length)) (S1 ++ [d])
  | _ => .bad
def Wd.cellAt (w : Wd) (a : Addr) : Wd := { H := w.H, m := w.m ++ [a], ow := fun b => w.ow b ∧ b ≠ a, x := w.x }
theorem lf_cell {w : Wd} {a : Addr} (ho : w.ow a) : Lf w (w.cellAt a) := by
  refine ⟨⟨[a], rfl⟩, fun b o e f => ⟨e, fun z => ?_, fun z => f.2 z.1⟩⟩
  rcases List.mem_append.mp z with z | z
  · exact f.1 z
  · have e2 : b = a := by simpa using z
    rw [e2] at f; exact f.2 ho
theorem snd_cell {te : TE} {fe : FE} (he : SndE K W te fe) : SndE K W te (fCell fe) := by
  intro wf w S σd σv Q s h
  refine he.run (Le.refl w) s h fun r S1 w1 v L1 st1 R1 h1 => ?_
  cases r with
  | v d => exact h1.elim
  | bo d => exact h1.elim
  | fr d =>
    obtain ⟨a, rfl, n, c, o, m⟩ := R1
    have lf := lf_cell o
    refine h1 (w1.cellAt a) _ ⟨L1.pre.trans ⟨[a], rfl⟩, fun b u e nb => ?_⟩ ⟨?_, ?_, fun k b d' e1 e2 => ?_, fun b hb => st1.own b hb.1, fun b hb z => ?_⟩ (.cell ?_)
    · obtain ⟨e1, n1, i1⟩ := L1.kp b u e nb
      have ne : b ≠ a := fun z => by rw [z, n] at e; cases e
      refine ⟨e1, fun z => ?_, ⟨fun z => i1.mp z.1, fun z => ⟨i1.mpr z, ne⟩⟩⟩
      rcases List.mem_append.mp z with z | z
      · exact n1 z
      · exact ne (by simpa using z)
    · show (w1.m ++ [a]).length = (S1 ++ [d]).length
      simp [st1.len]
    · show (w1.m ++ [a]).Nodup
      rw [List.nodup_append]
      exact ⟨st1.nd, by simp, fun x hx y hy z => m (by have e : y = a := by simpa using hy
                                                       rw [← e, ← z]; exact hx)⟩
    · have e1' : (w1.m ++ [a])[k]? = some b := e1
      by_cases hk : k < w1.m.length
      · rw [List.getElem?_append_left hk] at e1'
        rw [List.getElem?_append_left (by rw [← st1.len]; exact hk)] at e2
        exact (st1.at_ k b d' e1' e2).lf lf fun _ e => e
      · rw [List.getElem?_append_right (by omega)] at e1'
        rw [List.getElem?_append_right (by have := st1.len; omega), ← st1.len] at e2
        cases hk0 : k - w1.m.length with
        | zero =>
          rw [hk0] at e1' e2
          cases e1'; cases e2
          exact c.lf lf fun _ e => e
        | succ j => rw [hk0] at e1'; simp at e1'
    · rcases List.mem_append.mp (show b ∈ w1.m ++ [a] from hb) with y | y
      · exact st1.sep b y z.1
      · exact z.2 (by simpa using y)
    · show (w1.m ++ [a])[S1.length]? = some a
      rw [← st1.len]; simp
/-! ### + of lists and tuples -/
def xCat : FO2 := fun r1 r2 S => match r1.rd S, r2.rd S with
  | .lst ds, .lst es => if ds.length + es.length ≤ 1000000 then .ok (.fr (.lst (ds ++ es))) S else .bad
  | _, _ => .bad
theorem sCat : OpS K W rCat xCat := by
  intro wf w w2 S σd σv r1 r2 v1 v2 Q s L R1 R2 h
  unfold xCat at h
  split at h
  · rename_i ds es e1 e2
    obtain ⟨a, vs, rfl, h1, h2⟩ := lstOf s.st R1 e1
    obtain ⟨b, us, rfl, g1, g2⟩ := lstOf s.st R2 e2
    obtain ⟨hz, h3⟩ := h.ite
    refine ⟨a, b, vs, us, rfl, rfl, h1, g1, by rw [h2.length, g2.length]; exact sz_le hz, fun p hp => ?_⟩
    exact h3 (w2.new p (.lst (vs ++ us)) True) _ (L.trans (le_new hp)) (s.st.new hp) (own_newL s.st (L.none s.st hp) hp (h2.app g2))
  · exact h.elim
end
end Cl
/-! ## Fun4 -/
namespace Cl
open PySem PySem.Spec PyProof.Rows L2
/-! ### data -/
mutual
def Da.py : Da → Option PyData
  | .non => some .none
  | .bl b => some (.bool b)
  | .int i => some (.int i)
  | .str s => some (.str s)
  | .lst ds => match pys ds with
    | some ps => some (.list ps)
    | none => none
  | .tup ds => match pys ds with
    | some ps => some (.tuple ps)
    | none => none
  | .frl ns => some (.list (ns.map .int))
  | _ => none
def pys : List Da → Option (List PyData)
  | [] => some []
  | d :: ds => match d.py, pys ds with
    | some p, some ps => some (p :: ps)
    | _, _ => none
end
section
variable {K : PySem.W.Frag} {W : Cw}
theorem dp_ints {H : Hp} (ns : List Int) : DpAll K H (ns.map V.int) (ns.map .int) := by
  induction ns with
  | nil => exact .nil
  | cons n ns ih => exact .cons (.int n) ih
theorem dp_of {w : Wd} {d : Da} {v : V} {p : PyData} (h : Rep K w d v) (e : d.py = some p) : Dp K w.H v p := by
  revert p
  refine @Rep.rec K w (fun d v _ => ∀ {p}, d.py = some p → Dp K w.H v p) (fun ds vs _ => ∀ {ps}, pys ds = some ps → DpAll K w.H vs ps) ?_ ?_ ?_ ?_ ?_ ?_ ?_ ?_ ?_ ?_ ?_ ?_ ?_ ?_ d v h
  · intro p e; simp [Da.py] at e; subst e; exact .non
  · intro b p e; simp [Da.py] at e; subst e; exact .bl b
  · intro b p e; simp [Da.py] at e; subst e; exact .int b
  · intro b p e; simp [Da.py] at e; subst e; exact .str b
  · intro a vs ds f _ ih p e
    simp only [Da.py] at e
    split at e
    · rename_i e2; cases e; exact .tup f.sq (ih e2)
    · cases e
  · intro a vs ds e1 f _ ih p e
    simp only [Da.py] at e
    split at e
    · rename_i e2; cases e; exact .lst (SqL.of e1) (ih e2)
    · cases e
  · intro a ns e1 p e
    simp only [Da.py] at e
    cases e
    exact .lst e1.sq (dp_ints ns)
  · intro a dx C fs ns ds _ _ _ _ _ p e; simp [Da.py] at e
  · intro a kvs ks ds _ _ _ _ _ p e; simp [Da.py] at e
  · intro a kvs ks ds _ _ _ _ _ p e; simp [Da.py] at e
  · intro a n _ p e; simp [Da.py] at e
  · intro a o vs ds _ _ _ _ _ _ p e; simp [Da.py] at e
  · intro ps e; simp [pys] at e; subst e; exact .nil
  · intro d v ds vs _ _ i1 i2 ps e
    simp only [pys] at e
    split at e
    · rename_i e1 e2; cases e; exact .cons (i1 e1) (i2 e2)
    · cases e
theorem dps_of {w : Wd} : ∀ {ds : List Da} {vs : List V} {ps : List PyData}, Reps K w ds vs → pys ds = some ps → DpAll K w.H vs ps
  | _, _, ps, .nil, e => by simp [pys] at e; subst e; exact .nil
  | _, _, ps, .cons h r, e => by
    simp only [pys] at e
    split at e
    · rename_i e1 e2; cases e; exact .cons (dp_of h e1) (dps_of r e2)
    · cases e
def Rv.py (r : Rv) (S : Sto) : Option PyData := (r.rd S).py
theorem cellGet {w : Wd} {S : Sto} (st : StoR K w S) {n : Nat} {a : Addr} (hm : w.m[n]? = some a) (x : Da) : ConR K w a (S.getD n x) := by
  obtain ⟨hl, _⟩ := List.getElem?_eq_some_iff.mp hm
  have hl2 : n < S.length := by rw [← st.len]; exact hl
  refine st.at_ n _ _ hm ?_
  rw [List.getD_eq_getElem?_getD, List.getElem?_eq_getElem hl2]; rfl
/-- a result: data, or an object -/
theorem rd_cases {wf w0 w : Wd} {S : Sto} {r : Rv} {v : V} (st : StoR K w S) (R : RepR K wf w0 w r v) : Rep K w (r.rd S) v ∨ ∃ a, v = .ref a ∧ ConR K w a (r.rd S) := by
  cases r with
  | v d =>
    cases d with
    | cell n => cases R with | cell hm => exact .inr ⟨_, rfl, cellGet st hm _⟩
    | _ => exact .inl R
  | fr d => obtain ⟨a, e, _, c, _⟩ := R; exact .inr ⟨a, e, c⟩
  | bo d => obtain ⟨a, e, _, c, _⟩ := R; exact .inr ⟨a, e, c⟩
theorem con_dp {w : Wd} {a : Addr} {d : Da} {p : PyData} (c : ConR K w a d) (e : d.py = some p) : Dp K w.H (.ref a) p := by
  cases d with
  | lst ds =>
    obtain ⟨vs, h1, h2⟩ := c
    simp only [Da.py] at e
    split at e
    · rename_i e2; cases e; exact .lst (SqL.of h1) (dps_of h2 e2)
    · cases e
  | obj C ns ds => simp [Da.py] at e
  | dic ks ds => simp [Da.py] at e
  | dct ks ds => simp [Da.py] at e
  | _ => exact c.elim
theorem dpR_of {wf w0 w : Wd} {S : Sto} {r : Rv} {v : V} {p : PyData} (st : StoR K w S) (R : RepR K wf w0 w r v) (e : (r.rd S).py = some p) : Dp K w.H v p := by
  rcases rd_cases st R with h | ⟨a, rfl, c⟩
  · exact dp_of h e
  · exact con_dp c e
def xEqD (neg : Bool) : FO2 := fun r1 r2 S => match (r1.rd S).py, (r2.rd S).py with
  | some p, some q => if SeqAt.shaped p && SeqAt.shaped q then .ok (.v (.bl (if neg then !PyData.eqv p q else PyData.eqv p q))) S else .bad
  | _, _ => .bad
theorem eqD_core {wf w w2 : Wd} {S : Sto} {σv : L2.St} {neg : Bool} {r1 r2 : Rv} {v1 v2 : V} {Q : VK} (st : StoR K w2 S) (L : Le w w2) (R1 : RepR K wf w w2 r1 v1) (R2 : RepR K wf w w2 r2 v2) (h : PostE K W wf w σv Q (xEqD neg r1 r2 S)) :
    ∃ d e, Dp K w2.H v1 d ∧ Dp K w2.H v2 e ∧ SeqAt.shaped d = true ∧ SeqAt.shaped e = true ∧ Q (.bl (if neg then !PyData.eqv d e else PyData.eqv d e)) w2.H := by
  unfold xEqD at h
  split at h
  · rename_i p q e1 e2
    obtain ⟨hc, h2⟩ := h.ite
    simp only [Bool.and_eq_true] at hc
    exact ⟨p, q, dpR_of st R1 e1, dpR_of st R2 e2, hc.1, hc.2, h2 w2 _ L st (.bl _)⟩
  · exact h.elim
theorem sEqD : OpS K W (rEqD K) (xEqD false) := fun s L R1 R2 h => eqD_core s.st L R1 R2 h
theorem sNeD : OpS K W (rNeD K) (xEqD true) := fun s L R1 R2 h => eqD_core s.st L R1 R2 h
/-! ### slices -/
def cutG {α : Type} (xs : List α) (lo hi : Option Int) : List α := (xs.drop (HT.sIx xs.length 0 lo)).take (HT.sIx xs.length xs.length hi - HT.sIx xs.length 0 lo)
theorem reps_cut {w : Wd} {ds : List Da} {vs : List V} (h : Reps K w ds vs) (lo hi : Option Int) : Reps K w (cutG ds lo hi) (cutV vs lo hi) := by
  unfold cutG cutV
  rw [h.length]
  exact (h.drop _).take _
def fNoP : Env → Sto → Ev (Option Int) := fun _ S => .ok none S
def fPart (fe : FE) : Env → Sto → Ev (Option Int) := fun σ S => (fe σ S).bd fun r S1 => match r with
  | .v (.int i) => .ok (some i) S1
  | _ => .bad
theorem snd_noP : SndO K W tNoPart fNoP := fun wf w S σd σv Q s h => h w (Le.refl _) s.st
theorem snd_part {te : TE} {fe : FE} (he : SndE K W te fe) : SndO K W (tPart te) (fPart fe) := by
  intro wf w S σd σv Q s h
  refine he.run (Le.refl w) s h fun r S1 w1 v L1 st1 R1 h1 => ?_
  revert h1
  split
  · intro h1; cases R1; exact ⟨_, rfl, h1 w1 L1 st1⟩
  · intro h1; exact h1.elim
abbrev FSl := Rv → Option Int → Option Int → Sto → Ev Rv
variable (K W) in
def SlS (r : V → Option Int → Option Int → Hp → VK → Prop) (o : FSl) : Prop := ∀ {wf w w2 : Wd} {S : Sto} {σd : Env} {σv : L2.St} {r1 : Rv} {lo hi : Option Int} {v1 : V} {Q : VK}, Sim K W wf w2 S σd σv → Le w w2 → RepR K wf w w2 r1 v1 → PostE K W wf w σv Q (o r1 lo hi S) → r v1 lo hi w2.H Q
def fSl (o : FSl) (fe : FE) (fl fh : Env → Sto → Ev (Option Int)) : FE := fun σ S => (fe σ S).bd fun r S1 => (fl σ S1).bd fun lo S2 => (fh σ S2).bd fun hi S3 => o r lo hi S3
theorem snd_sl {r : V → Option Int → Option Int → Hp → VK → Prop} {o : FSl} {te : TE} {fe : FE} {tl th : TO} {fl fh : Env → Sto → Ev (Option Int)} (ho : SlS K W r o) (he : SndE K W te fe) (hl : SndO K W tl fl) (hh : SndO K W th fh) : SndE K W (tSl r te tl th) (fSl o fe fl fh) := by
  intro wf w S σd σv Q s h
  refine he.run (Le.refl w) s h fun r1 S1 w1 v1 L1 st1 R1 h1 => hl.run L1 (s.step L1 st1) h1 fun lo S2 w2 L2 st2 h2 => hh.run (L1.trans L2) (s.step (L1.trans L2) st2) h2 fun hi S3 w3 L3 st3 h3 => ?_
  exact ho (s.step ((L1.trans L2).trans L3) st3) ((L1.trans L2).trans L3) (R1.le (L2.trans L3)) h3
def xSlL : FSl := fun r lo hi S => match r.rd S with
  | .lst ds => .ok (.fr (.lst (cutG ds lo hi))) S
  | _ => .bad
theorem sSlL : SlS K W (rSlL K) xSlL := by
  intro wf w w2 S σd σv r1 lo hi v1 Q s L R1 h
  unfold xSlL at h
  split at h
  · rename_i ds e
    obtain ⟨a, vs, rfl, h1, h2⟩ := lstOf s.st R1 e
    exact ⟨a, vs, rfl, SqL.of h1, fun p hp => h (w2.new p (.lst (cutV vs lo hi)) True) _ (L.trans (le_new hp)) (s.st.new hp) (own_newL s.st (L.none s.st hp) hp (reps_cut h2 lo hi))⟩
  · exact h.elim
def xSlS : FSl := fun r lo hi S => match r with
  | .v (.str z) => if z.length ≤ 1000000 then .ok (.v (.str (cutS z lo hi))) S else .bad
  | _ => .bad
theorem sSlS : SlS K W rSlS xSlS := by
  intro wf w w2 S σd σv r1 lo hi v1 Q s L R1 h
  unfold xSlS at h
  split at h
  · obtain ⟨hz, h2⟩ := h.ite
    cases R1
    exact ⟨_, rfl, sz_le hz, h2 w2 _ L s.st (.str _)⟩
  · exact h.elim
def fRev (fe : FE) : FE := fun σ S => (fe σ S).bd fun r S1 => match r.rd S1 with
  | .lst ds => .ok (.fr (.lst ds.reverse)) S1
  | _ => .bad
theorem snd_rev {te : TE} {fe : FE} (he : SndE K W te fe) : SndE K W (tRevL K te) (fRev fe) := by
  intro wf w S σd σv Q s h
  refine he.run (Le.refl w) s h fun r S1 w1 v L1 st1 R1 h1 => ?_
  revert h1
  split
  · rename_i ds e
    intro h1
    obtain ⟨a, vs, rfl, g1, g2⟩ := lstOf st1 R1 e
    exact ⟨a, vs, rfl, SqL.of g1, fun p hp => h1 (w1.new p (.lst vs.reverse) True) _ (L1.trans (le_new hp)) (st1.new hp) (own_newL st1 (L1.none st1 hp) hp g2.rev)⟩
  · intro h1; exact h1.elim
/-! ### fields -/
def getF (ns : List Str) (ds : List Da) (f : Str) : Option Da := (ns.zip ds).lookup f
theorem getF_of {w : Wd} : ∀ {fs : List (Str × V)} {ns : List Str} {ds : List Da} {f : Str} {d : Da}, fs.map (·.1) = ns → Reps K w ds (fs.map (·.2)) → getF ns ds f = some d → ∃ v, fs.lookup f = some v ∧ Rep K w d v
  | [], ns, ds, f, d, e1, r, e => by cases e1; cases e
  | (g, v) :: fs, ns, ds, f, d, e1, r, e => by
    subst e1
    cases r with
    | cons h r =>
      unfold getF at e
      simp only [List.map_cons, List.zip_cons_cons, List.lookup_cons] at e ⊢
      by_cases hg : f = g
      · subst hg; simp at e ⊢; subst e; exact h
      · have hb : (f == g) = false := beq_eq_false_iff_ne.mpr hg
        rw [hb] at e ⊢
        exact getF_of (ns := fs.map (·.1)) rfl r (show getF (fs.map (·.1)) _ f = some d from e)
def fFld (C f : Str) (fe : FE) : FE := fun σ S => (fe σ S).bd fun r S1 => match r.rd S1 with
  | .obj C' ns ds => match getF ns ds f with
    | some d => if C' = C then .ok (.v d) S1 else .bad
    | none => .bad
  | _ => .bad
theorem snd_fld {C f : Str} {te : TE} {fe : FE} (hc : Cls K (He.ga K C)) (hn : NoAttr K (He.ga K C) f) (he : SndE K W te fe) : SndE K W (tFld K te f) (fFld C f fe) := by
  intro wf w S σd σv Q s h
  refine he.run (Le.refl w) s h fun r S1 w1 v L1 st1 R1 h1 => ?_
  revert h1
  split
  · rename_i C' ns ds e
    split
    · rename_i d e2
      intro h1
      obtain ⟨hC, h2⟩ := h1.ite
      subst hC
      obtain ⟨a, dx, fs, rfl, g1, g2, g3⟩ := objOf st1 R1 e
      obtain ⟨v, g4, g5⟩ := getF_of g2 g3 e2
      exact ⟨a, _, dx, fs, v, rfl, g1, hc, hn, g4, h2 w1 v L1 st1 g5⟩
    · intro h1; exact h1.elim
  · intro h1; exact h1.elim
/-! ### builtins over argument lists -/
abbrev FB := List Rv → Sto → Ev Rv
variable (K W) in
def CbS (r : List V → Hp → VK → Prop) (b : FB) : Prop := ∀ {wf w w2 : Wd} {S : Sto} {σd : Env} {σv : L2.St} {rs : List Rv} {vs : List V} {Q : VK}, Sim K W wf w2 S σd σv → Le w w2 → RepRs K wf w w2 rs vs → PostE K W wf w σv Q (b rs S) → r vs w2.H Q
def fCB (b : FB) (fa : FA) : FE := fun σ S => (fa σ S).bd fun rs S1 => b rs S1
theorem snd_cb {r : List V → Hp → VK → Prop} {b : FB} {ta : TA} {fa : FA} (hb : CbS K W r b) (ha : SndA K W ta fa) : SndE K W (tCB r ta) (fCB b fa) := by
  intro wf w S σd σv Q s h
  exact ha.run (Le.refl w) s h fun rs S1 w1 vs L1 st1 R1 h1 => hb (s.step L1 st1) L1 R1 h1
theorem RepRs.one {wf w w' : Wd} {r : Rv} {vs : List V} (h : RepRs K wf w w' [r] vs) : ∃ v, vs = [v] ∧ RepR K wf w w' r v := by
  match vs, h with
  | [v], h => exact ⟨v, rfl, h.1⟩
  | [], h => exact h.elim
  | _ :: _ :: _, h => exact h.2.elim
theorem RepRs.two {wf w w' : Wd} {r q : Rv} {vs : List V} (h : RepRs K wf w w' [r, q] vs) : ∃ v u, vs = [v, u] ∧ RepR K wf w w' r v ∧ RepR K wf w w' q u := by
  match vs, h with
  | [v, u], h => exact ⟨v, u, rfl, h.1, h.2.1⟩
  | [], h => exact h.elim
  | [_], h => exact h.2.elim
  | _ :: _ :: _ :: _, h => exact h.2.2.elim
def bLen : FB
  | [r], S => match r.rd S with
    | .lst ds => .ok (.v (.int ds.length)) S
    | .tup ds => .ok (.v (.int ds.length)) S
    | .frl ns => .ok (.v (.int ns.length)) S
    | _ => .bad
  | _, _ => .bad
theorem sLen : CbS K W (rLen K) bLen := by
  intro wf w w2 S σd σv rs vs Q s L R h
  unfold bLen at h
  split at h
  · obtain ⟨v, rfl, R1⟩ := R.one
    split at h
    · rename_i ds e
      obtain ⟨a, us, rfl, g1, g2⟩ := lstOf s.st R1 e
      refine ⟨a, us, rfl, .inl (SqL.of g1), ?_⟩
      rw [g2.length]; exact h w2 _ L s.st (.int _)
    · rename_i ds e
      obtain ⟨a, us, rfl, g1, g2⟩ := tupOf s.st R1 e
      refine ⟨a, us, rfl, .inr g1.sq, ?_⟩
      rw [g2.length]; exact h w2 _ L s.st (.int _)
    · rename_i ds e
      obtain ⟨a, rfl, g1⟩ := frlOf s.st R1 e
      refine ⟨a, _, rfl, .inl g1, ?_⟩
      rw [List.length_map]; exact h w2 _ L s.st (.int _)
    · exact h.elim
  · exact h.elim
def qLenS : List V → Hp → VK → Prop := fun xs H Q => ∃ z, xs = [.str z] ∧ z.length ≤ sizeLine ∧ Q (.int z.length) H
theorem cl_lenS {X : Cx} : CallR X (.builtin "len") qLenS := call_len_str
def bLenS : FB
  | [.v (.str z)], S => if z.length ≤ 1000000 then .ok (.v (.int z.length)) S else .bad
  | _, _ => .bad
theorem sLenS : CbS K W qLenS bLenS := by
  intro wf w w2 S σd σv rs vs Q s L R h
  unfold bLenS at h
  split at h
  · obtain ⟨v, rfl, R1⟩ := R.one
    obtain ⟨hz, h2⟩ := h.ite
    cases R1
    exact ⟨_, rfl, sz_le hz, h2 w2 _ L s.st (.int _)⟩
  · exact h.elim
def bI1 (g : Int → Da) : FB
  | [.v (.int i)], S => .ok (.v (g i)) S
  | _, _ => .bad
abbrev bAbs : FB := bI1 fun i => .int (if i < 0 then -i else i)
theorem sAbs : CbS K W rAbs bAbs := by
  intro wf w w2 S σd σv rs vs Q s L R h
  unfold bAbs bI1 at h
  split at h
  · obtain ⟨v, rfl, R1⟩ := R.one
    cases R1
    exact ⟨_, rfl, h w2 _ L s.st (.int _)⟩
  · exact h.elim
def bI2 (g : Int → Int → Da) : FB
  | [.v (.int i), .v (.int j)], S => .ok (.v (g i j)) S
  | _, _ => .bad
abbrev bMin2 : FB := bI2 fun i j => .int (if j < i then j else i)
theorem sMin2 : CbS K W rMin2 bMin2 := by
  intro wf w w2 S σd σv rs vs Q s L R h
  unfold bMin2 bI2 at h
  split at h
  · obtain ⟨v, u, rfl, R1, R2⟩ := R.two
    cases R1; cases R2
    exact ⟨_, _, rfl, h w2 _ L s.st (.int _)⟩
  · exact h.elim
def bInt1 : FB
  | [.v (.int i)], S => .ok (.v (.int i)) S
  | [.v (.bl b)], S => .ok (.v (.int (if b then 1 else 0))) S
  | _, _ => .bad
theorem sInt1 : CbS K W rInt1 bInt1 := by
  intro wf w w2 S σd σv rs vs Q s L R h
  unfold bInt1 at h
  split at h
  · obtain ⟨v, rfl, R1⟩ := R.one
    cases R1
    exact .inl ⟨_, rfl, h w2 _ L s.st (.int _)⟩
  · obtain ⟨v, rfl, R1⟩ := R.one
    cases R1
    exact .inr ⟨_, rfl, h w2 _ L s.st (.int _)⟩
  · exact h.elim
def bList : FB
  | [r], S => match r.rd S with
    | .lst ds => .ok (.fr (.lst ds)) S
    | .tup ds => .ok (.fr (.lst ds)) S
    | _ => .bad
  | _, _ => .bad
theorem sList : CbS K W (rListOf K) bList := by
  intro wf w w2 S σd σv rs vs Q s L R h
  unfold bList at h
  split at h
  · obtain ⟨v, rfl, R1⟩ := R.one
    split at h
    · rename_i ds e
      obtain ⟨a, us, rfl, g1, g2⟩ := lstOf s.st R1 e
      exact ⟨a, us, rfl, .inl (SqL.of g1), fun p hp => h (w2.new p (.lst us) True) _ (L.trans (le_new hp)) (s.st.new hp) (own_newL s.st (L.none s.st hp) hp g2)⟩
    · rename_i ds e
      obtain ⟨a, us, rfl, g1, g2⟩ := tupOf s.st R1 e
      exact ⟨a, us, rfl, .inr g1.sq, fun p hp => h (w2.new p (.lst us) True) _ (L.trans (le_new hp)) (s.st.new hp) (own_newL s.st (L.none s.st hp) hp g2)⟩
    · exact h.elim
  · exact h.elim
def bTup : FB
  | [r], S => match r.rd S with
    | .lst ds => .ok (.v (.tup ds)) S
    | .tup ds => .ok (.v (.tup ds)) S
    | _ => .bad
  | _, _ => .bad
theorem sTup : CbS K W (rTupOf K) bTup := by
  intro wf w w2 S σd σv rs vs Q s L R h
  unfold bTup at h
  split at h
  · obtain ⟨v, rfl, R1⟩ := R.one
    split at h
    · rename_i ds e
      obtain ⟨a, us, rfl, g1, g2⟩ := lstOf s.st R1 e
      exact ⟨a, us, rfl, .inl ⟨SqL.of g1, fun p hp => h (w2.new p (.tup us) False) _ (L.trans (le_new hp)) (s.st.new hp) (rep_newT s.st hp g2)⟩⟩
    · rename_i ds e
      obtain ⟨a, us, rfl, g1, g2⟩ := tupOf s.st R1 e
      exact ⟨a, us, rfl, .inr ⟨g1.sq, h w2 _ L s.st (.tup g1 g2)⟩⟩
    · exact h.elim
  · exact h.elim
/-- list(range(n)) -/
def rgD (n : Int) : List Da := (List.range n.toNat).map fun i => Da.int (i : Nat)
/-! ### isinstance of a built-in type -/
def Da.tyN : Da → Option String
  | .non => some "NoneType"
  | .bl _ => some "bool"
  | .int _ => some "int"
  | .str _ => some "str"
  | .lst _ => some "list"
  | .frl _ => some "list"
  | .tup _ => some "tuple"
  | .dic _ _ => some "dict"
  | _ => none
/-! ### tests -/
def fTest (fe : FE) : FT := fun σ S => (fe σ S).bd fun r S1 => onB r fun b => .ok b S1
theorem snd_test {te : TE} {fe : FE} (he : SndE K W te fe) : SndT K W (tTest te) (fTest fe) := by
  intro wf w S σd σv Q s h
  refine he.run (Le.refl w) s h fun r S1 w1 v L1 st1 R1 h1 => ?_
  obtain ⟨b, rfl, h2⟩ := onB_of R1 h1
  exact ⟨b, rfl, h2 w1 L1 st1⟩
theorem snd_B {te : TE} {fe : FE} (he : SndE K W te fe) : SndT K W (tB te) (fTest fe) := snd_test he
def Da.tru : Da → Option Bool
  | .non => some false
  | .bl b => some b
  | .int i => some (i != 0)
  | .str z => if z.length ≤ 1000000 then some ((z.length : Int) != 0) else none
  | .lst ds => some (!ds.isEmpty)
  | .tup ds => some (!ds.isEmpty)
  | .dic ks _ => some (!ks.isEmpty)
  | _ => none
def fAnd (f g : FT) : FT := fun σ S => (f σ S).bd fun b S1 => if b = true then g σ S1 else .ok false S1
def fOr (f g : FT) : FT := fun σ S => (f σ S).bd fun b S1 => if b = true then .ok true S1 else g σ S1
def fNot (f : FT) : FT := fun σ S => (f σ S).bd fun b S1 => .ok (!b) S1
def fYes : FT := fun _ S => .ok true S
theorem snd_yes : SndT K W tYes fYes := fun wf w S σd σv Q s h => h w (Le.refl _) s.st
theorem snd_and {t u : TT} {f g : FT} (h1 : SndT K W t f) (h2 : SndT K W u g) : SndT K W (tAnd t u) (fAnd f g) := by
  intro wf w S σd σv Q s h
  refine h1.run (Le.refl w) s h fun b S1 w1 L1 st1 k => ?_
  cases b with
  | true => exact iteT (h2 wf w1 S1 σd σv Q (s.step L1 st1) (PostT.shift L1 (by simpa using k)))
  | false => exact iteF (by simp only [Bool.false_eq_true, if_false] at k; exact k w1 L1 st1)
theorem snd_or {t u : TT} {f g : FT} (h1 : SndT K W t f) (h2 : SndT K W u g) : SndT K W (tOr t u) (fOr f g) := by
  intro wf w S σd σv Q s h
  refine h1.run (Le.refl w) s h fun b S1 w1 L1 st1 k => ?_
  cases b with
  | true => exact iteT (by simp only [if_true] at k; exact k w1 L1 st1)
  | false => exact iteF (h2 wf w1 S1 σd σv Q (s.step L1 st1) (PostT.shift L1 (by simpa using k)))
theorem snd_not {t : TT} {f : FT} (h1 : SndT K W t f) : SndT K W (tNot t) (fNot f) := by
  intro wf w S σd σv Q s h
  exact h1.run (Le.refl w) s h fun b S1 w1 L1 st1 k => k w1 L1 st1
/-! ### calls -/
variable (K) in
def spOf (f : Fn) : Sp := fun vs H Q E => ∃ w S ds, w.H = H ∧ StoR K w S ∧ Reps K w ds vs ∧
  Po (fun r S' => ∀ w' v, Le w w' → StoR K w' S' → RepR K w w w' r v → Q v w'.H) (fun e S' => ∀ w' c dd, Le w w' → StoR K w' S' → RepX K w' e c dd → E c dd w'.H) (f ds S)
def Ev.noX {α : Type} : Ev α → Ev α
  | .ok a S => .ok a S
  | _ => .bad
def fCall (f : Fn) (fa : FA) : FE := fun σ S => (fa σ S).bd fun rs S1 => onDs rs fun ds => (f ds S1).noX
def fCallS (f : Fn) (fa : FA) : FE := fun σ S => (fa σ S).bd fun rs S1 => onDs rs fun ds => f ds S1
theorem RepR.called {wf w w1 w' : Wd} {S1 : Sto} {r : Rv} {v : V} (L0 : Le wf w) (L : Le w w1) (st : StoR K w1 S1) (h : RepR K (w.frz w1) (w.frz w1) w' r v) : RepR K wf w w' r v := by
  cases r with
  | v d => exact h
  | fr d => obtain ⟨a, e, n, c⟩ := h; exact ⟨a, e, L.none st n, c⟩
  | bo d => obtain ⟨a, e, n, c⟩ := h; exact ⟨a, e, (L0.trans L).none st n, c⟩
theorem snd_callS {f : Fn} {ta : TA} {fa : FA} (ha : SndA K W ta fa) : SndE K W (tCallS (spOf K f) (WE W.W) ta) (fCallS f fa) := by
  intro wf w S σd σv Q s h
  refine ha.run (Le.refl w) s h fun rs S1 w1 vs L1 st1 R1 h1 => ?_
  obtain ⟨ds, e, h2⟩ := onDs_of h1
  refine ⟨w.frz w1, S1, ds, rfl, st1.frz, R1.frz e, ?_⟩
  revert h2
  cases f ds S1 with
  | ok r S2 => exact fun h2 w' v L st R => h2 w' v (L1.frz.trans L) st (RepR.called s.le L1 st1 R)
  | ex e S2 => exact fun h2 w' c dd L st R => h2 w' c dd (L1.frz.trans L) st R
  | bad => exact fun h2 => h2
theorem snd_call {f : Fn} {ta : TA} {fa : FA} {E : XK} (ha : SndA K W ta fa) : SndE K W (tCall (spOf K f) [] E ta) (fCall f fa) := by
  intro wf w S σd σv Q s h
  refine ha.run (Le.refl w) s h fun rs S1 w1 vs L1 st1 R1 h1 => ?_
  obtain ⟨ds, e, h2⟩ := onDs_of h1
  refine ⟨w.frz w1, S1, ds, rfl, st1.frz, by rw [List.append_nil]; exact R1.frz e, ?_⟩
  revert h2
  cases f ds S1 with
  | ok r S2 => exact fun h2 w' v L st R => h2 w' v (L1.frz.trans L) st (RepR.called s.le L1 st1 R)
  | ex e S2 => exact fun h2 => h2.elim
  | bad => exact fun h2 => h2
/-- o.m(..), o of the class C -/
def fMeth (C m : Str) (f : Fn) (fo : FE) (fa : FA) : FE := fun σ S => (fo σ S).bd fun r S1 => match r.rd S1 with
  | .obj C' ns _ => if C' = C ∧ m ∉ ns then (fa σ S1).bd fun rs S2 => onDs (r :: rs) fun ds => (f ds S2).noX else .bad
  | _ => .bad
theorem lookup_no {fs : List (Str × V)} {m : Str} (h : m ∉ fs.map (·.1)) : fs.lookup m = none := by
  induction fs with
  | nil => rfl
  | cons p fs ih =>
    simp only [List.map_cons, List.mem_cons, not_or] at h
    have hb : (m == p.1) = false := beq_eq_false_iff_ne.mpr h.1
    rw [List.lookup_cons, hb]
    exact ih h.2
theorem snd_meth {C m : Str} {f : Fn} {to : TE} {fo : FE} {ta : TA} {fa : FA} {E : XK} (ho : SndE K W to fo) (ha : SndA K W ta fa) : SndE K W (tMeth (He.ga K C) m (spOf K f) [] E to ta) (fMeth C m f fo fa) := by
  intro wf w S σd σv Q s h
  refine ho.run (Le.refl w) s h fun r S1 w1 v L1 st1 R1 h1 => ?_
  revert h1
  split
  · rename_i C' ns ds' e
    intro h1
    obtain ⟨⟨hC, hm⟩, h2⟩ := h1.ite
    subst hC
    obtain ⟨a, dx, fs, rfl, g1, g2, g3⟩ := objOf st1 R1 e
    refine ⟨a, dx, fs, rfl, g1, lookup_no (by rw [g2]; exact hm), ha.run L1 (s.step L1 st1) h2 fun rs S2 w2 vs L2 st2 R2 h3 => ?_⟩
    obtain ⟨ds, e2, h4⟩ := onDs_of h3
    have L02 := L1.trans L2
    refine ⟨w.frz w2, S2, ds, rfl, st2.frz, ?_, ?_⟩
    · rw [List.append_nil]
      exact RepRs.frz (rs := r :: rs) (xs := .ref a :: vs) ⟨R1.le L2, R2.back L1 st1⟩ e2
    · revert h4
      cases f ds S2 with
      | ok r S2 => exact fun h2 w' v L st R => h2 w' v (L02.frz.trans L) st (RepR.called s.le L02 st2 R)
      | ex e S2 => exact fun h2 => h2.elim
      | bad => exact fun h2 => h2
  · intro h1; exact h1.elim
/-- C(..) -/
abbrev FIn := List Da → Sto → Ev Da
variable (K) in
def spIn (C : Str) (f : FIn) : Sp := fun vs H Q E => ∃ w S ds x dx us, vs = .ref x :: us ∧ H = upd (upd w.H dx (.own x)) x (.ins (He.ga K C) dx []) ∧ w.H x = none ∧ w.H dx = none ∧ dx ≠ x ∧ StoR K w S ∧ Reps K w ds us ∧
  Po (fun d S' => ∀ w', Le w w' → StoR K w' S' → OwnR K w w' d (.ref x) → Q .non w'.H) (fun e S' => ∀ w' c dd, Le w w' → StoR K w' S' → RepX K w' e c dd → E c dd w'.H) (f ds S)
end
end Cl
/-! ## Fun5 -/
namespace Cl
open PySem PySem.Spec PyProof.Rows L2
section
variable {K : PySem.W.Frag} {W : Cw} {wf w w1 w2 : Wd} {S S1 : Sto} {σd : Env} {σv : L2.St} {D : Ends}
/-! ## slots -/
theorem Sim.upd (s : Sim K W wf w S σd σv) {i : Nat} {y : Option Sx} {u : Option V} (hy : ∀ x, y = some x → ∃ v, u = some v ∧ SlR K wf w x v)
    (hd : ∀ d b a, y = some (.own d b) → u = some (.ref a) → ∀ (j : Nat) e b', j ≠ i → σd[j]? = some (some (.own e b')) → σv[j]? ≠ some (some (.ref a))) (hx : y ≠ some .exn) : Sim K W wf w S (σd.set i y) (σv.set i u) := by
  have ln := s.ln
  refine ⟨s.le, s.st, by simp [ln], fun j x e => ?_, fun j k d e b b' a hne e1 e2 e3 e4 => ?_, fun a d e h => ⟨(s.cx a d e h).1, fun j ej => ?_⟩⟩
  · by_cases hj : i = j
    · subst hj
      by_cases hl : i < σd.length
      · rw [List.getElem?_set_self hl] at e
        obtain ⟨v, e1, r⟩ := hy x (Option.some.inj e)
        exact ⟨v, by rw [List.getElem?_set_self (by omega), e1], r⟩
      · rw [List.getElem?_eq_none (by simp; omega)] at e; cases e
    · rw [List.getElem?_set_ne hj] at e ⊢
      exact s.sl j x e
  · by_cases hj : i = j
    · subst hj
      rw [List.getElem?_set_ne hne] at e2 e4
      by_cases hl : i < σd.length
      · rw [List.getElem?_set_self hl] at e1
        rw [List.getElem?_set_self (by omega)] at e3
        exact hd d b a (Option.some.inj e1) (Option.some.inj e3) k e b' (fun z => hne z.symm) e2 e4
      · rw [List.getElem?_eq_none (by simp; omega)] at e1; cases e1
    · rw [List.getElem?_set_ne hj] at e1 e3
      by_cases hk : i = k
      · subst hk
        by_cases hl : i < σd.length
        · rw [List.getElem?_set_self hl] at e2
          rw [List.getElem?_set_self (by omega)] at e4
          exact hd e b' a (Option.some.inj e2) (Option.some.inj e4) j d b hne e1 e3
        · rw [List.getElem?_eq_none (by simp; omega)] at e2; cases e2
      · rw [List.getElem?_set_ne hk] at e2 e4
        exact s.dj j k d e b b' a hne e1 e2 e3 e4
  · by_cases hj : i = j
    · subst hj
      by_cases hl : i < σd.length
      · rw [List.getElem?_set_self hl] at ej; exact absurd (Option.some.inj ej) hx
      · rw [List.getElem?_eq_none (by simp; omega)] at ej; cases ej
    · rw [List.getElem?_set_ne hj] at ej ⊢
      exact (s.cx a d e h).2 j ej
theorem Sim.setV (s : Sim K W wf w S σd σv) {i : Nat} {d : Da} {v : V} (r : Rep K w d v) : Sim K W wf w S (σd.set i (some (.v d))) (σv.set i (some v)) :=
  s.upd (fun x e => by cases e; exact ⟨v, rfl, r⟩) (fun d b a e => by cases e) (by intro z; cases z)
theorem Sim.setN (s : Sim K W wf w S σd σv) {i : Nat} {u : Option V} : Sim K W wf w S (σd.set i none) (σv.set i u) :=
  s.upd (fun x e => by cases e) (fun d b a e => by cases e) (by intro z; cases z)
theorem Sim.setO (s0 : Sim K W wf w S σd σv) (L : Le w w1) (st : StoR K w1 S1) {i : Nat} {d : Da} {v : V} (o : OwnR K w w1 d v) : Sim K W wf w1 S1 (σd.set i (some (.own d false))) (σv.set i (some v)) := by
  have s1 := s0.step L st
  obtain ⟨a, rfl, n, c, ow, nm⟩ := o
  refine s1.upd (fun x e => by cases e; exact ⟨_, rfl, ⟨a, rfl, s0.le.none s0.st n, c, ow, nm⟩, fun z => by cases z⟩) (fun d' b a' e eu j e' b' hj ej ev => ?_) (by intro z; cases z)
  cases eu
  obtain ⟨v, e1, ⟨a2, e2, _, c2, _⟩, _⟩ := s0.sl j _ ej
  rw [ev] at e1; cases e1; cases e2
  obtain ⟨o, eo⟩ := c2.some
  rw [n] at eo; cases eo
/-- the object of a slot changes in place -/
theorem own_put {a : Addr} {o : HO} (ow : w.ow a) : Lf w { w with H := upd w.H a o } := ⟨List.prefix_refl _, fun b u e f => by
  have ne : b ≠ a := fun z => by rw [z] at f; exact f.2 ow
  exact ⟨by show L2.upd w.H a o b = some u; rw [upd_ne ne]; exact e, f⟩⟩
theorem sto_put (st : StoR K w S) {a : Addr} {o : HO} (ow : w.ow a) : StoR K { w with H := upd w.H a o } S := by
  refine ⟨st.len, st.nd, fun n b d e1 e2 => ?_, fun b hb => ?_, st.sep⟩
  · have ne : b ≠ a := fun z => st.sep b (List.mem_of_getElem? e1) (z ▸ ow)
    refine (st.at_ n b d e1 e2).lf (own_put ow) fun u e => ?_
    show L2.upd w.H a o b = some u
    rw [upd_ne ne]; exact e
  · show L2.upd w.H a o b ≠ none
    by_cases ne : b = a
    · rw [ne, upd_same]; simp
    · rw [upd_ne ne]; exact st.own b hb
theorem Sim.put (s : Sim K W wf w S σd σv) {i : Nat} {d d' : Da} {b : Bool} {a : Addr} {o : HO} (e : σd[i]? = some (some (.own d b))) (ev : σv[i]? = some (some (.ref a)))
    (hc : ConR K { w with H := L2.upd w.H a o } a d') : Sim K W wf { w with H := L2.upd w.H a o } S (σd.set i (some (.own d' b))) σv := by
  obtain ⟨v, e1, ⟨a2, e2, n, c, ow, nm⟩, hx⟩ := s.sl i _ e
  rw [ev] at e1; cases e1; cases e2
  have lf := own_put (o := o) ow
  have hself : ∀ (j : Nat) (x : Option Sx), (σd.set i (some (.own d' b)))[j]? = some x → (j = i ∧ x = some (.own d' b)) ∨ (j ≠ i ∧ σd[j]? = some x) := fun j x ej => by
    by_cases hj : i = j
    · subst hj
      have hl := (List.getElem?_eq_some_iff.mp e).1
      rw [List.getElem?_set_self hl] at ej
      exact .inl ⟨rfl, (Option.some.inj ej).symm⟩
    · rw [List.getElem?_set_ne hj] at ej
      exact .inr ⟨fun z => hj z.symm, ej⟩
  refine ⟨⟨s.le.pre, fun c' u ec nc => ?_⟩, sto_put s.st ow, by simp [s.ln], fun j x ej => ?_, fun j k d1 d2 b1 b2 a' hne e1 e2 e3 e4 => ?_, fun a' d1 e' h => ⟨(s.cx a' d1 e' h).1.lf lf, fun j ej => ?_⟩⟩
  · obtain ⟨h1, h2, h3⟩ := s.le.kp c' u ec nc
    have ne : c' ≠ a := fun z => by rw [z, n] at ec; cases ec
    exact ⟨by show L2.upd w.H a o c' = some u; rw [upd_ne ne]; exact h1, h2, h3⟩
  · rcases hself j _ ej with ⟨rfl, ex⟩ | ⟨hj, ej⟩
    · cases ex
      exact ⟨_, ev, ⟨a, rfl, n, hc, ow, nm⟩, hx⟩
    · obtain ⟨v, h1, h2⟩ := s.sl j x ej
      refine ⟨v, h1, ?_⟩
      cases x with
      | v d1 => exact Rep.lf lf h2
      | exn => exact True.intro
      | own d1 b1 =>
        obtain ⟨⟨a3, h3, h4, h5, h6, h7⟩, h8⟩ := h2
        subst h3
        refine ⟨⟨a3, rfl, h4, h5.lf lf fun u eu => ?_, h6, h7⟩, h8⟩
        have ne : a3 ≠ a := fun z => s.dj i j d d1 b b1 a (fun z => hj z.symm) e ej ev (by rw [← z]; exact h1)
        show L2.upd w.H a o a3 = some u
        rw [upd_ne ne]; exact eu
  · have f1 : ∃ d0, σd[j]? = some (some (.own d0 b1)) := by
      rcases hself j _ e1 with ⟨rfl, ex⟩ | ⟨_, ej⟩
      · cases ex; exact ⟨_, e⟩
      · exact ⟨_, ej⟩
    have f2 : ∃ d0, σd[k]? = some (some (.own d0 b2)) := by
      rcases hself k _ e2 with ⟨rfl, ex⟩ | ⟨_, ej⟩
      · cases ex; exact ⟨_, e⟩
      · exact ⟨_, ej⟩
    obtain ⟨d3, g1⟩ := f1
    obtain ⟨d4, g2⟩ := f2
    exact s.dj j k _ _ _ _ a' hne g1 g2 e3 e4
  · rcases hself j _ ej with ⟨_, ex⟩ | ⟨_, ej⟩
    · cases ex
    · exact (s.cx a' d1 e' h).2 j ej
/-! ## statements -/
def Ev.so {α : Type} (e : Ev α) (σ : Env) (f : α → Sto → So) : So := match e with
  | .ok a S => f a S
  | .ex x S => .ex x σ S
  | .bad => .bad
theorem SndE.runS {ta : TE} {fa : FE} {Q : VK} (ha : SndE K W ta fa) {w0 : Wd} (L0 : Lf w0 w) (s : Sim K W wf w S σd σv) {k : Rv → Sto → So} (h : PostS K W wf w0 D ((fa σd S).so σd k))
    (hk : ∀ r S1 w1 v, Le w w1 → StoR K w1 S1 → RepR K wf w w1 r v → PostS K W wf w0 D (k r S1) → Q v w1.H) : ta σv w.H Q := by
  refine ha wf w S σd σv Q s ?_
  revert h
  cases fa σd S with
  | ok r S1 => exact fun h w1 v L st R => hk r S1 w1 v L st R h
  | ex e S1 => exact fun h w1 c dd L st R => h w1 σv c dd (L0.trans L.lf) (s.step L st) R
  | bad => exact fun h => h
theorem SndA.runS {ta : TA} {fa : FA} {Q : List V → Hp → Prop} (ha : SndA K W ta fa) {w0 : Wd} (L0 : Lf w0 w) (s : Sim K W wf w S σd σv) {k : List Rv → Sto → So} (h : PostS K W wf w0 D ((fa σd S).so σd k))
    (hk : ∀ r S1 w1 v, Le w w1 → StoR K w1 S1 → RepRs K wf w w1 r v → PostS K W wf w0 D (k r S1) → Q v w1.H) : ta σv w.H Q := by
  refine ha wf w S σd σv Q s ?_
  revert h
  cases fa σd S with
  | ok r S1 => exact fun h w1 v L st R => hk r S1 w1 v L st R h
  | ex e S1 => exact fun h w1 c dd L st R => h w1 σv c dd (L0.trans L.lf) (s.step L st) R
  | bad => exact fun h => h
theorem SndT.runS {ta : TT} {fa : FT} {Q : Bool → Hp → Prop} (ha : SndT K W ta fa) {w0 : Wd} (L0 : Lf w0 w) (s : Sim K W wf w S σd σv) {k : Bool → Sto → So} (h : PostS K W wf w0 D ((fa σd S).so σd k))
    (hk : ∀ r S1 w1, Le w w1 → StoR K w1 S1 → PostS K W wf w0 D (k r S1) → Q r w1.H) : ta σv w.H Q := by
  refine ha wf w S σd σv Q s ?_
  revert h
  cases fa σd S with
  | ok r S1 => exact fun h w1 L st => hk r S1 w1 L st h
  | ex e S1 => exact fun h w1 c dd L st R => h w1 σv c dd (L0.trans L.lf) (s.step L st) R
  | bad => exact fun h => h
theorem PostS.shift {o : So} (L : Lf w w1) (h : PostS K W wf w D o) : PostS K W wf w1 D o := by
  cases o with
  | nx σ S => exact fun w2 σv L2 s => h w2 σv (L.trans L2) s
  | bk σ S => exact fun w2 σv L2 s => h w2 σv (L.trans L2) s
  | ct σ S => exact fun w2 σv L2 s => h w2 σv (L.trans L2) s
  | rt r S => exact h
  | ex e σ S => exact fun w2 σv c dd L2 s => h w2 σv c dd (L.trans L2) s
  | bad => exact h
def fNext : FS := fun σ S => .nx σ S
theorem snd_next : SndS K W tNext fNext := fun wf w S σd σv D s h => h w σv (Lf.refl _) s
def fSeq (f g : FS) : FS := fun σ S => match f σ S with
  | .nx σ1 S1 => g σ1 S1
  | o => o
theorem snd_seq {t u : TS} {f g : FS} (h1 : SndS K W t f) (h2 : SndS K W u g) : SndS K W (tSeq t u) (fSeq f g) := by
  intro wf w S σd σv D s h
  refine h1 wf w S σd σv _ s ?_
  unfold fSeq at h
  revert h
  cases f σd S with
  | nx σ1 S1 => exact fun h w1 σv1 L1 s1 => h2 wf w1 S1 σ1 σv1 D s1 (h.shift L1)
  | bk σ S => exact fun h => h
  | ct σ S => exact fun h => h
  | rt r S => exact fun h => h
  | ex e σ S => exact fun h => h
  | bad => exact fun h => h
def Rv.out : Rv → Rv
  | .bo d => .fr d
  | r => r
theorem RepR.out (L : Le wf w) (st : StoR K w S) (R : RepR K wf w w1 r x) : RepR K wf wf w1 (Rv.out r) x := by
  cases r with
  | v d => exact R
  | fr d => exact OwnR.back R L st
  | bo d => exact R
def fRet (fe : FE) : FS := fun σ S => (fe σ S).so σ fun r S1 => .rt r.out S1
theorem snd_ret {te : TE} {fe : FE} (he : SndE K W te fe) : SndS K W (tRet te) (fRet fe) := by
  intro wf w S σd σv D s h
  exact he.runS (Lf.refl w) s h fun r S1 w1 v L1 st1 R1 h1 => h1 w1 v (s.le.trans L1) st1 (R1.out s.le s.st)
def fDrop (fe : FE) : FS := fun σ S => (fe σ S).so σ fun _ S1 => .nx σ S1
theorem snd_drop {te : TE} {fe : FE} (he : SndE K W te fe) : SndS K W (tDrop te) (fDrop fe) := by
  intro wf w S σd σv D s h
  exact he.runS (Lf.refl w) s h fun r S1 w1 v L1 st1 R1 h1 => h1 w1 σv L1.lf (s.step L1 st1)
def fIfS (ft : FT) (f g : FS) : FS := fun σ S => (ft σ S).so σ fun b S1 => if b = true then f σ S1 else g σ S1
theorem snd_ifS {tt : TT} {ft : FT} {t u : TS} {f g : FS} (ht : SndT K W tt ft) (h1 : SndS K W t f) (h2 : SndS K W u g) : SndS K W (tIfS tt t u) (fIfS ft f g) := by
  intro wf w S σd σv D s h
  refine ht.runS (Lf.refl w) s h fun b S1 w1 L1 st1 k => ?_
  cases b with
  | true => exact iteT (h1 wf w1 S1 σd σv D (s.step L1 st1) (PostS.shift L1.lf (by simpa using k)))
  | false => exact iteF (h2 wf w1 S1 σd σv D (s.step L1 st1) (PostS.shift L1.lf (by simpa using k)))
/-- x = e: a new object becomes the slot's own -/
def fSet (i : Nat) (fe : FE) : FS := fun σ S => (fe σ S).so σ fun r S1 => match r with
  | .v d => .nx (σ.set i (some (.v d))) S1
  | .fr d => .nx (σ.set i (some (.own d false))) S1
  | .bo _ => .bad
theorem snd_set {i : Nat} {te : TE} {fe : FE} (he : SndE K W te fe) : SndS K W (tAsg te (gName i)) (fSet i fe) := by
  intro wf w S σd σv D s h
  refine he.runS (Lf.refl w) s h fun r S1 w1 v L1 st1 R1 h1 => ?_
  cases r with
  | v d => exact h1 w1 _ L1.lf ((s.step L1 st1).setV R1)
  | fr d => exact h1 w1 _ L1.lf (s.setO L1 st1 R1)
  | bo d => exact h1.elim
/-- x = e, frozen -/
def fSetD (i : Nat) (fe : FE) : FS := fun σ S => (fe σ S).so σ fun r S1 => match r.toD with
  | some d => .nx (σ.set i (some (.v d))) S1
  | none => .bad
theorem snd_setD {i : Nat} {te : TE} {fe : FE} (he : SndE K W te fe) : SndS K W (tAsg te (gName i)) (fSetD i fe) := by
  intro wf w S σd σv D s h
  refine he.runS (Lf.refl w) s h fun r S1 w1 v L1 st1 R1 h1 => ?_
  revert h1
  split
  · rename_i d e
    intro h1
    exact h1 (w.frz w1) _ L1.frz.lf ((s.step L1.frz st1.frz).setV (R1.frz e))
  · intro h1; exact h1.elim
/-! ### targets -/
variable (K) in
def SndG (W : Cw) (g : TG) (fg : FG) (js : List Nat) : Prop := ∀ wf w S σd σv d x Q, Sim K W wf w S σd σv → Rep K w d x →
  (∃ σ1, fg d σd = some σ1 ∧ ∀ σv1, Sim K W wf w S σ1 σv1 → (∀ k, k ∉ js → σv1[k]? = σv[k]?) → σv1.length = σv.length → Q σv1 w.H) → g x σv w.H Q
variable (K) in
def SndGs (W : Cw) (g : TGs) (fg : List Da → Env → Option Env) (js : List Nat) : Prop := ∀ wf w S σd σv ds xs Q, Sim K W wf w S σd σv → Reps K w ds xs →
  (∃ σ1, fg ds σd = some σ1 ∧ ∀ σv1, Sim K W wf w S σ1 σv1 → (∀ k, k ∉ js → σv1[k]? = σv[k]?) → σv1.length = σv.length → Q σv1 w.H) → g xs σv w.H Q
def fgName (i : Nat) : FG := fun d σ => some (σ.set i (some (.v d)))
theorem snd_gName {i : Nat} : SndG K W (gName i) (fgName i) [i] := fun wf w S σd σv d x Q s r ⟨σ1, e, h⟩ => by
  cases e
  exact h _ (s.setV r) (fun k hk => by rw [List.getElem?_set_ne (by simpa using fun z => hk (by simp [z]))]) (by simp)
def fgNil : List Da → Env → Option Env
  | [], σ => some σ
  | _, _ => none
def fgCons (f : FG) (g : List Da → Env → Option Env) : List Da → Env → Option Env
  | d :: ds, σ => match f d σ with
    | some σ1 => g ds σ1
    | none => none
  | [], _ => none
theorem snd_gNil : SndGs K W gNil fgNil [] := by
  intro wf w S σd σv ds xs Q s r ⟨σ1, e, h⟩
  cases r with
  | nil => cases e; exact ⟨rfl, h _ s (fun _ _ => rfl) rfl⟩
  | cons a b => cases e
theorem snd_gCons {g : TG} {fg : FG} {gs : TGs} {fgs : List Da → Env → Option Env} {js ks : List Nat} (h1 : SndG K W g fg js) (h2 : SndGs K W gs fgs ks) : SndGs K W (gCons g gs) (fgCons fg fgs) (js ++ ks) := by
  intro wf w S σd σv ds xs Q s r ⟨σ2, e, h⟩
  cases r with
  | nil => cases e
  | cons a b =>
    rename_i d v ds vs
    simp only [fgCons] at e
    cases e0 : fg d σd with
    | none => rw [e0] at e; cases e
    | some σ1 =>
      rw [e0] at e
      refine ⟨v, vs, rfl, h1 wf w S σd σv d v _ s a ⟨σ1, e0, fun σv1 s1 e1 l1 => ?_⟩⟩
      exact h2 wf w S σ1 σv1 ds vs _ s1 b ⟨σ2, e, fun σv2 s2 e2 l2 => h σv2 s2 (fun k hk => by rw [e2 k (fun z => hk (by simp [z])), e1 k (fun z => hk (by simp [z]))]) (l2.trans l1)⟩
def fgTup (n : Nat) (f : List Da → Env → Option Env) : FG := fun d σ => match d with
  | .tup ds => if ds.length = n then f ds σ else none
  | _ => none
theorem snd_gTup {n : Nat} {gs : TGs} {fgs : List Da → Env → Option Env} {js : List Nat} (h1 : SndGs K W gs fgs js) : SndG K W (gTup K n gs) (fgTup n fgs) js := by
  intro wf w S σd σv d x Q s r ⟨σ1, e, h⟩
  cases d with
  | tup ds =>
    cases r with
    | tup f rs =>
      rename_i a vs
      simp only [fgTup] at e
      by_cases hl : ds.length = n
      · rw [if_pos hl] at e
        exact ⟨a, vs, rfl, f.sq, by rw [rs.length]; exact hl, h1 wf w S σd σv ds vs Q s rs ⟨σ1, e, h⟩⟩
      · rw [if_neg hl] at e; cases e
  | _ => cases e
def fPar (i j : Nat) (fa : FA) : FS := fun σ S => (fa σ S).so σ fun rs S1 => match rs with
  | [.v d, .v e] => .nx ((σ.set i (some (.v d))).set j (some (.v e))) S1
  | _ => .bad
theorem snd_par {i j : Nat} {ta : TA} {fa : FA} (ha : SndA K W ta fa) : SndS K W (tPar i j ta) (fPar i j fa) := by
  intro wf w S σd σv D s h
  refine ha.runS (Lf.refl w) s h fun rs S1 w1 vs L1 st1 R1 h1 => ?_
  revert h1
  split
  · intro h1
    obtain ⟨v, u, rfl, R2, R3⟩ := R1.two
    exact ⟨v, u, rfl, h1 w1 _ L1.lf (((s.step L1 st1).setV R2).setV R3)⟩
  · intro h1; exact h1.elim
/-! ### changes in place -/
def fFrz (i : Nat) (f : FS) : FS := fun σ S => match σ[i]? with
  | some (some (.own d false)) => f (σ.set i (some (.v d))) S
  | some (some (.v _)) => f σ S
  | _ => .bad
theorem snd_frz {i : Nat} {t : TS} {f : FS} (h1 : SndS K W t f) : SndS K W t (fFrz i f) := by
  intro wf w S σd σv D s h
  unfold fFrz at h
  split at h
  · rename_i d e
    obtain ⟨v, ev, ⟨a, rfl, n, c, ow, nm⟩, _⟩ := s.sl i _ e
    have lf : Lf w { w with ow := fun b => w.ow b ∧ b ≠ a } := ⟨List.prefix_refl _, fun b u eb f => ⟨eb, f.1, fun z => f.2 z.1⟩⟩
    have s1 : Sim K W wf { w with ow := fun b => w.ow b ∧ b ≠ a } S (σd.set i (some (.v d))) σv := by
      refine ⟨⟨s.le.pre, fun b u eb nb => ?_⟩, ⟨s.st.len, s.st.nd, fun n b d e1 e2 => (s.st.at_ n b d e1 e2).lf lf fun _ z => z, fun b hb => s.st.own b hb.1, fun b hb z => s.st.sep b hb z.1⟩, by simp [s.ln], fun j x ej => ?_, fun j k d1 d2 b1 b2 a' hne e1 e2 e3 e4 => ?_, fun a' d1 e' h => ⟨(s.cx a' d1 e' h).1.lf lf, fun j ej => ?_⟩⟩
      · obtain ⟨g1, g2, g3⟩ := s.le.kp b u eb nb
        exact ⟨g1, g2, ⟨fun z => g3.mp z.1, fun z => ⟨g3.mpr z, fun y => by rw [y, n] at eb; cases eb⟩⟩⟩
      · by_cases hj : i = j
        · subst hj
          rw [List.getElem?_set_self (List.getElem?_eq_some_iff.mp e).1] at ej
          cases ej
          exact ⟨_, ev, (c.lf lf fun _ z => z).rep ⟨nm, fun z => z.2 rfl⟩⟩
        · rw [List.getElem?_set_ne hj] at ej
          obtain ⟨v, g1, g2⟩ := s.sl j x ej
          refine ⟨v, g1, ?_⟩
          cases x with
          | v d1 => exact Rep.lf lf g2
          | exn => exact True.intro
          | own d1 b1 =>
            obtain ⟨⟨a3, h3, h4, h5, h6, h7⟩, h8⟩ := g2
            subst h3
            exact ⟨⟨a3, rfl, h4, h5.lf lf fun _ z => z, ⟨h6, fun z => s.dj i j d d1 _ b1 a hj e ej ev (by rw [← z]; exact g1)⟩, h7⟩, h8⟩
      · by_cases hj : i = j
        · subst hj
          rw [List.getElem?_set_self (List.getElem?_eq_some_iff.mp e).1] at e1; cases e1
        · by_cases hk : i = k
          · subst hk
            rw [List.getElem?_set_self (List.getElem?_eq_some_iff.mp e).1] at e2; cases e2
          · rw [List.getElem?_set_ne hj] at e1
            rw [List.getElem?_set_ne hk] at e2
            exact s.dj j k _ _ _ _ a' hne e1 e2 e3 e4
      · by_cases hj : i = j
        · subst hj
          rw [List.getElem?_set_self (List.getElem?_eq_some_iff.mp e).1] at ej; cases ej
        · rw [List.getElem?_set_ne hj] at ej
          exact (s.cx a' d1 e' h).2 j ej
    exact h1 wf { w with ow := fun b => w.ow b ∧ b ≠ a } S _ σv D s1 (h.shift lf)
  · exact h1 wf w S σd σv D s h
  · exact h.elim
end
end Cl
/-! ## Fun6 -/
namespace Cl
open PySem PySem.Spec PyProof.Rows L2
section
variable {K : PySem.W.Frag} {W : Cw} {wf w w1 w2 : Wd} {S S1 : Sto} {σd : Env} {σv : L2.St} {D : Ends}
theorem lf_putC {n : Nat} {a : Addr} {o : HO} (hm : w.m[n]? = some a) : Lf w { w with H := upd w.H a o } := ⟨List.prefix_refl _, fun b u e f => by
  have ne : b ≠ a := fun z => f.1 (z ▸ List.mem_of_getElem? hm)
  exact ⟨by show upd w.H a o b = some u; rw [upd_ne ne]; exact e, f⟩⟩
theorem Sim.putC (s : Sim K W wf w S σd σv) {n : Nat} {a : Addr} {o : HO} {d' : Da} (hm : w.m[n]? = some a) (hc : ConR K { w with H := L2.upd w.H a o } a d') : Sim K W wf { w with H := L2.upd w.H a o } (S.set n d') σd σv := by
  have lf := lf_putC (o := o) hm
  have hmem := List.mem_of_getElem? hm
  refine ⟨⟨s.le.pre, fun c' u ec nc => ?_⟩, ⟨by simp [s.st.len], s.st.nd, fun k b d e1 e2 => ?_, fun b hb => ?_, s.st.sep⟩, s.ln, fun j x ej => ?_, s.dj, fun a' d1 e' h => ⟨(s.cx a' d1 e' h).1.lf lf, (s.cx a' d1 e' h).2⟩⟩
  · obtain ⟨h1, h2, h3⟩ := s.le.kp c' u ec nc
    have ne : c' ≠ a := fun z => h2 (z ▸ hmem)
    exact ⟨by show L2.upd w.H a o c' = some u; rw [upd_ne ne]; exact h1, h2, h3⟩
  · by_cases hk : n = k
    · subst hk
      have e1' : w.m[n]? = some b := e1
      rw [hm] at e1'; cases e1'
      by_cases hl : n < S.length
      · rw [List.getElem?_set_self hl] at e2; cases e2; exact hc
      · rw [List.getElem?_eq_none (by simp; omega)] at e2; cases e2
    · rw [List.getElem?_set_ne hk] at e2
      have e1' : w.m[k]? = some b := e1
      have ne : b ≠ a := fun z => by
        rw [z, ← hm] at e1'
        exact hk ((List.getElem?_inj (List.getElem?_eq_some_iff.mp hm).1 s.st.nd).mp e1'.symm)
      refine (s.st.at_ k b d e1' e2).lf lf fun u e => ?_
      show L2.upd w.H a o b = some u
      rw [upd_ne ne]; exact e
  · show L2.upd w.H a o b ≠ none
    by_cases ne : b = a
    · rw [ne, upd_same]; simp
    · rw [upd_ne ne]; exact s.st.own b hb
  · obtain ⟨v, h1, h2⟩ := s.sl j x ej
    refine ⟨v, h1, ?_⟩
    cases x with
    | v d1 => exact Rep.lf lf h2
    | exn => exact True.intro
    | own d1 b1 =>
      obtain ⟨⟨a3, h3, h4, h5, h6, h7⟩, h8⟩ := h2
      subst h3
      refine ⟨⟨a3, rfl, h4, h5.lf lf fun u eu => ?_, h6, h7⟩, h8⟩
      have ne : a3 ≠ a := fun z => h7 (z ▸ hmem)
      show L2.upd w.H a o a3 = some u
      rw [upd_ne ne]; exact eu
/-! ### xs.append(e) -/
def fAppS (i : Nat) (fe : FE) : FS := fun σ S => match σ[i]? with
  | some (some (.own (.lst ds) b)) => (fe σ S).so σ fun r S1 => match r.toD with
    | some d => if ds.length < 1000000 then .nx (σ.set i (some (.own (.lst (ds ++ [d])) b))) S1 else .bad
    | none => .bad
  | some (some (.v (.cell n))) => match S[n]? with
    | some (.lst _) => (fe σ S).so σ fun r S1 => match r.toD, S1[n]? with
      | some d, some (.lst ds) => if ds.length < 1000000 then .nx σ (S1.set n (.lst (ds ++ [d]))) else .bad
      | _, _ => .bad
    | _ => .bad
  | _ => .bad
theorem PostS.ite {c : Prop} [Decidable c] {o : So} {w0 : Wd} (h : PostS K W wf w0 D (if c then o else .bad)) : c ∧ PostS K W wf w0 D o := by
  by_cases hc : c
  · rw [if_pos hc] at h; exact ⟨hc, h⟩
  · rw [if_neg hc] at h; exact h.elim
theorem snd_appS {i : Nat} {te : TE} {fe : FE} (he : SndE K W te fe) : SndS K W (tDrop (tBM K "list" rAppend (tVar i) (tCons te tNil))) (fAppS i fe) := by
  intro wf w S σd σv D s h
  unfold fAppS at h
  split at h
  · rename_i ds b e
    obtain ⟨v, ev, ⟨a, rfl, n, ⟨vs, g1, g2⟩, ow, nm⟩, _⟩ := s.sl i _ e
    refine ⟨_, ev, .inl ⟨rfl, vs, SqL.of g1⟩, he.runS (Lf.refl w) s h fun r S1 w1 v L1 st1 R1 h1 => ?_⟩
    revert h1
    split
    · rename_i d ed
      intro h1
      obtain ⟨hz, h2⟩ := h1.ite
      have hw : (w.frz w1).H a = some (.lst vs) := (L1.kp a _ g1 nm).1
      have how : (w.frz w1).ow a := ⟨(L1.kp a _ g1 nm).2.2.mpr ow, by rw [g1]; simp⟩
      refine ⟨a, vs, v, rfl, rfl, hw, sz_lt (by rw [g2.length]; omega), ?_⟩
      refine h2 { w.frz w1 with H := L2.upd (w.frz w1).H a (.lst (vs ++ [v])) } σv (L1.frz.lf.trans (own_put how)) ?_
      exact (s.step L1.frz st1.frz).put e ev ⟨vs ++ [v], upd_same, ((g2.le L1.frz).app (.cons (R1.frz ed) .nil)).lf (own_put how)⟩
    · intro h1; exact h1.elim
  · rename_i n e
    obtain ⟨v, ev, hr⟩ := s.sl i _ e
    have hr' : Rep K w (.cell n) v := hr
    cases hr' with
    | cell hm =>
      rename_i a
      split at h
      · rename_i ds0 hS
        obtain ⟨vs0, g0, _⟩ := s.st.at_ n a _ hm hS
        refine ⟨_, ev, .inl ⟨rfl, vs0, SqL.of g0⟩, he.runS (Lf.refl w) s h fun r S1 w1 v L1 st1 R1 h1 => ?_⟩
        revert h1
        split
        · rename_i d ds ed eS
          intro h1
          obtain ⟨hz, h2⟩ := h1.ite
          have hm1 : (w.frz w1).m[n]? = some a := pre_at L1.pre hm
          have st2 : StoR K (w.frz w1) S1 := st1.frz
          obtain ⟨vs, g1, g2⟩ := st2.at_ n a _ hm1 eS
          refine ⟨a, vs, v, rfl, rfl, g1, sz_lt (by rw [g2.length]; omega), ?_⟩
          refine h2 { w.frz w1 with H := L2.upd (w.frz w1).H a (.lst (vs ++ [v])) } σv (L1.frz.lf.trans (lf_putC hm1)) ?_
          exact (s.step L1.frz st2).putC hm1 ⟨vs ++ [v], upd_same, (g2.app (.cons (R1.frz ed) .nil)).lf (lf_putC hm1)⟩
        · intro h1; exact h1.elim
      · exact h.elim
  · exact h.elim
/-! ### xs[i] = e -/
def fSetI (i : Nat) (fe fi : FE) : FS := fun σ S => match σ[i]? with
  | some (some (.own (.lst ds) b)) => (fe σ S).so σ fun r S1 => (fi σ S1).so σ fun q S2 => match q, r.toD with
    | .v (.int k), some d => match ixN ds.length k with
      | some j => .nx (σ.set i (some (.own (.lst (ds.set j d)) b))) S2
      | none => .bad
    | _, _ => .bad
  | some (some (.v (.cell n))) => (fe σ S).so σ fun r S1 => (fi σ S1).so σ fun q S2 => match q, r.toD, S2[n]? with
    | .v (.int k), some d, some (.lst ds) => match ixN ds.length k with
      | some j => .nx σ (S2.set n (.lst (ds.set j d)))
      | none => .bad
    | _, _, _ => .bad
  | _ => .bad
theorem snd_setI {i : Nat} {te ti : TE} {fe fi : FE} (he : SndE K W te fe) (hi : SndE K W ti fi) : SndS K W (tAsg te (gSub (tVar i) ti rSetL)) (fSetI i fe fi) := by
  intro wf w S σd σv D s h
  unfold fSetI at h
  split at h
  · rename_i ds b e
    obtain ⟨v0, ev, ⟨a, rfl, n, ⟨vs, g1, g2⟩, ow, nm⟩, _⟩ := s.sl i _ e
    refine he.runS (Lf.refl w) s h fun r S1 w1 v L1 st1 R1 h1 => ⟨_, ev, hi.runS L1.lf (s.step L1 st1) h1 fun q S2 w2 u L2 st2 R2 h2 => ?_⟩
    revert h2
    split
    · rename_i k d ed
      split
      · rename_i j ej
        intro h2
        have L := L1.trans L2
        cases R2
        have hw : (w.frz w2).H a = some (.lst vs) := (L.kp a _ g1 nm).1
        have how : (w.frz w2).ow a := ⟨(L.kp a _ g1 nm).2.2.mpr ow, by rw [g1]; simp⟩
        refine ⟨a, vs, k, j, rfl, rfl, hw, by rw [g2.length]; exact ej, ?_⟩
        refine h2 { w.frz w2 with H := upd (w.frz w2).H a (.lst (vs.set j v)) } σv (L.frz.lf.trans (own_put how)) ?_
        exact (s.step L.frz st2.frz).put e ev ⟨vs.set j v, upd_same, ((g2.le L.frz).set ((R1.le L2).frz ed) j).lf (own_put how)⟩
      · intro h2; exact h2.elim
    · intro h2; exact h2.elim
  · rename_i n e
    obtain ⟨v0, ev, hr⟩ := s.sl i _ e
    have hr' : Rep K w (.cell n) v0 := hr
    cases hr' with
    | cell hm =>
      rename_i a
      refine he.runS (Lf.refl w) s h fun r S1 w1 v L1 st1 R1 h1 => ⟨_, ev, hi.runS L1.lf (s.step L1 st1) h1 fun q S2 w2 u L2 st2 R2 h2 => ?_⟩
      revert h2
      split
      · rename_i k d ds ed eS
        split
        · rename_i j ej
          intro h2
          have L := L1.trans L2
          cases R2
          have hm1 : (w.frz w2).m[n]? = some a := pre_at L.pre hm
          have st3 : StoR K (w.frz w2) S2 := st2.frz
          obtain ⟨vs, g1, g2⟩ := st3.at_ n a _ hm1 eS
          refine ⟨a, vs, k, j, rfl, rfl, g1, by rw [g2.length]; exact ej, ?_⟩
          refine h2 { w.frz w2 with H := upd (w.frz w2).H a (.lst (vs.set j v)) } σv (L.frz.lf.trans (lf_putC hm1)) ?_
          exact (s.step L.frz st3).putC hm1 ⟨vs.set j v, upd_same, (g2.set ((R1.le L2).frz ed) j).lf (lf_putC hm1)⟩
        · intro h2; exact h2.elim
      · intro h2; exact h2.elim
  · exact h.elim
/-! ### o.f = e -/
def putN : List Str → List Da → Str → Da → List Str × List Da
  | [], _, f, d => ([f], [d])
  | n :: ns, [], f, d => (n :: ns, [])
  | n :: ns, x :: xs, f, d => if n = f then (n :: ns, d :: xs) else (n :: (putN ns xs f d).1, x :: (putN ns xs f d).2)
theorem putN_of {y : V} {f : Str} {d : Da} (hr : Rep K w d y) : ∀ {fs : List (Str × V)} {ns : List Str} {ds : List Da}, fs.map (·.1) = ns → Reps K w ds (fs.map (·.2)) → (putF f y fs).map (·.1) = (putN ns ds f d).1 ∧ Reps K w (putN ns ds f d).2 ((putF f y fs).map (·.2))
  | [], ns, ds, e, r => by subst e; cases r; exact ⟨rfl, .cons hr .nil⟩
  | (g, v) :: fs, ns, ds, e, r => by
    subst e
    cases r with
    | cons h r =>
      rename_i d0 ds
      by_cases hg : g = f
      · simp only [List.map_cons, putF, putN, if_pos hg]
        exact ⟨by simp, .cons hr r⟩
      · simp only [List.map_cons, putF, putN, if_neg hg]
        obtain ⟨h1, h2⟩ := putN_of hr (fs := fs) (ns := fs.map (·.1)) (ds := ds) rfl r
        exact ⟨by rw [h1], .cons h h2⟩
def fSFld (i : Nat) (C f : Str) (fe : FE) : FS := fun σ S => (fe σ S).so σ fun r S1 => match σ[i]?, r.toD with
  | some (some (.own (.obj C' ns ds) b)), some d => if C' = C ∧ ns.length < 1000 then .nx (σ.set i (some (.own (.obj C (putN ns ds f d).1 (putN ns ds f d).2) b))) S1 else .bad
  | some (some (.v (.cell n))), some d => match S1[n]? with
    | some (.obj C' ns ds) => if C' = C ∧ ns.length < 1000 then .nx σ (S1.set n (.obj C (putN ns ds f d).1 (putN ns ds f d).2)) else .bad
    | _ => .bad
  | _, _ => .bad
theorem snd_sFld {i : Nat} {C f : Str} {te : TE} {fe : FE} (hc : Cls K (He.ga K C)) (hn : NoAttr K (He.ga K C) f) (he : SndE K W te fe) : SndS K W (sFld K (tVar i) te f) (fSFld i C f fe) := by
  intro wf w S σd σv D s h
  refine he.runS (Lf.refl w) s h fun r S1 w1 v L1 st1 R1 h1 => ?_
  have s1 := s.step L1.frz st1.frz
  revert h1
  split
  · rename_i C' ns ds b d e ed
    intro h1
    obtain ⟨⟨rfl, hz⟩, h2⟩ := h1.ite
    obtain ⟨v0, ev, ⟨a, rfl, n, ⟨dx, fs, g1, g2, g3⟩, ow, nm⟩, _⟩ := s1.sl i _ e
    obtain ⟨q1, q2⟩ := putN_of (f := f) (R1.frz ed) g2 g3
    refine ⟨_, ev, a, _, dx, fs, rfl, g1, hc, hn, by rw [← List.length_map (f := (·.1)), g2]; exact hz, ?_⟩
    refine h2 { w.frz w1 with H := L2.upd (w.frz w1).H a (.ins (He.ga K C') dx (putF f v fs)) } σv (L1.frz.lf.trans (own_put ow)) ?_
    exact s1.put e ev ⟨dx, putF f v fs, upd_same, q1, q2.lf (own_put ow)⟩
  · rename_i n d e ed
    split
    · rename_i C' ns ds eS
      intro h1
      obtain ⟨⟨rfl, hz⟩, h2⟩ := h1.ite
      obtain ⟨v0, ev, hr⟩ := s1.sl i _ e
      have hr' : Rep K (w.frz w1) (.cell n) v0 := hr
      cases hr' with
      | cell hm =>
        rename_i a
        obtain ⟨dx, fs, g1, g2, g3⟩ := s1.st.at_ n a _ hm eS
        obtain ⟨q1, q2⟩ := putN_of (f := f) (R1.frz ed) g2 g3
        refine ⟨_, ev, a, _, dx, fs, rfl, g1, hc, hn, by rw [← List.length_map (f := (·.1)), g2]; exact hz, ?_⟩
        refine h2 { w.frz w1 with H := L2.upd (w.frz w1).H a (.ins (He.ga K C') dx (putF f v fs)) } σv (L1.frz.lf.trans (lf_putC hm)) ?_
        exact s1.putC hm ⟨dx, putF f v fs, upd_same, q1, q2.lf (lf_putC hm)⟩
    · intro h1; exact h1.elim
  · intro h1; exact h1.elim
/-! ### what a loop walks over -/
variable (K) in
def IterOk (Rl : Wd → Wd → Prop) (w1 : Wd) (J : It) (items : List Da) : Prop := ∃ G Y, Walk J items.length G Y ∧ (∀ w2 S2, Rl w1 w2 → StoR K w2 S2 → G w2.H) ∧
  ∀ (i : Nat) w2 S2 x H', i < items.length → Rl w1 w2 → StoR K w2 S2 → Y i w2.H x H' → ∃ w3 d, w3.H = H' ∧ items[i]? = some d ∧ Le w2 w3 ∧ StoR K w3 S2 ∧ Rep K w3 d x
variable (K W) in
def SndI (Rl : Wd → Wd → Prop) (wi : TI) (fi : FI) : Prop := ∀ wf w S σd σv R, Sim K W wf w S σd σv → Po (fun items S' => ∀ w' J, Le w w' → StoR K w' S' → IterOk K Rl w' J items → R J w'.H) (XP K W w σv) (fi σd S) → wi σv w.H R
theorem IterOk.weak {Rl Rm : Wd → Wd → Prop} (hr : ∀ w w', Rm w w' → Rl w w') {J : It} {items : List Da} (h : IterOk K Rl w J items) : IterOk K Rm w J items := by
  obtain ⟨G, Y, h1, h2, h3⟩ := h
  exact ⟨G, Y, h1, fun w2 S2 L => h2 w2 S2 (hr _ _ L), fun i w2 S2 x H' hi L => h3 i w2 S2 x H' hi (hr _ _ L)⟩
theorem SndI.le {wi : TI} {fi : FI} (h : SndI K W Lf wi fi) : SndI K W Le wi fi := by
  intro wf w S σd σv R s hp
  refine h wf w S σd σv R s ?_
  revert hp
  cases fi σd S with
  | ok a S' => exact fun hp w' J L st it => hp w' J L st (it.weak fun _ _ l => l.lf)
  | ex e S' => exact fun hp => hp
  | bad => exact fun hp => hp
theorem iter_list {a : Addr} {vs : List V} {ds : List Da} {Rl : Wd → Wd → Prop} (hr : Reps K w ds vs) (h1 : ∀ w2, Rl w w2 → SqL K w2.H a vs) (h2 : ∀ w2, Rl w w2 → Lf w w2) : IterOk K Rl w (Itl K a) ds :=
  ⟨_, _, by rw [← hr.length]; exact walk_list (K := K) (a := a) (xs := vs), fun w2 S2 L st => h1 w2 L, fun i w2 S2 x H' hi L st y => by
    obtain ⟨e, ex⟩ := y
    obtain ⟨d, e1, r⟩ := hr.at' ex
    exact ⟨w2, d, e.symm, e1, Le.refl _, st, r.lf (h2 w2 L)⟩⟩
def fiL (fe : FE) : FI := fun σ S => (fe σ S).bd fun r S1 => match r.toD with
  | some (.lst ds) => .ok ds S1
  | _ => .bad
theorem snd_iL {te : TE} {fe : FE} (he : SndE K W te fe) : SndI K W Lf (iList K te) (fiL fe) := by
  intro wf w S σd σv R s h
  refine he.run (Le.refl w) s h fun r S1 w1 v L1 st1 R1 h1 => ?_
  revert h1
  split
  · rename_i ds e
    intro h1
    have r := R1.frz e
    cases r with
    | lst g1 f g2 =>
      rename_i a vs
      exact ⟨a, rfl, ⟨vs, SqL.of g1⟩, h1 (w.frz w1) _ L1.frz st1.frz (iter_list g2 (fun w2 L => SqL.of (L.kp _ _ g1 f).1) fun w2 L => L)⟩
  · intro h1; exact h1.elim
/-- in a comprehension also over a list of a slot's own -/
def fiB (fe : FE) : FI := fun σ S => (fe σ S).bd fun r S1 => match r with
  | .v (.lst ds) => .ok ds S1
  | .fr (.lst ds) => .ok ds S1
  | .bo (.lst ds) => .ok ds S1
  | _ => .bad
theorem own_iter {w0 : Wd} {ds : List Da} {v : V} (h : OwnR K w0 w (.lst ds) v) : ∃ a vs, v = .ref a ∧ SqL K w.H a vs ∧ IterOk K Le w (Itl K a) ds := by
  obtain ⟨a, e, n, ⟨vs, g1, g2⟩, ow, nm⟩ := h
  exact ⟨a, vs, e, SqL.of g1, iter_list g2 (fun w2 L => SqL.of (L.kp _ _ g1 nm).1) fun w2 L => L.lf⟩
theorem snd_iB {te : TE} {fe : FE} (he : SndE K W te fe) : SndI K W Le (iList K te) (fiB fe) := by
  intro wf w S σd σv R s h
  refine he.run (Le.refl w) s h fun r S1 w1 v L1 st1 R1 h1 => ?_
  revert h1
  split
  · intro h1
    have r : Rep K w1 _ v := R1
    cases r with
    | lst g1 f g2 => exact ⟨_, rfl, ⟨_, SqL.of g1⟩, h1 w1 _ L1 st1 (iter_list g2 (fun w2 L => SqL.of (L.lf.kp _ _ g1 f).1) fun w2 L => L.lf)⟩
  · intro h1
    obtain ⟨a, vs, e, g1, g2⟩ := own_iter R1
    exact ⟨a, e, ⟨vs, g1⟩, h1 w1 _ L1 st1 g2⟩
  · intro h1
    obtain ⟨a, vs, e, g1, g2⟩ := own_iter R1
    exact ⟨a, e, ⟨vs, g1⟩, h1 w1 _ L1 st1 g2⟩
  · intro h1; exact h1.elim
theorem FzT.lf {w' : Wd} (L : Lf w w') {a : Addr} {vs : List V} (h : FzT K w a vs) : FzT K w' a vs := h.elim (fun h => .inl (L.rd h.1 h.2)) .inr
def fiR1 (fa : FA) : FI := fun σ S => (fa σ S).bd fun rs S1 => match rs with
  | [.v (.int j)] => if -4611686018427387904 ≤ j ∧ j < 4611686018427387904 then .ok (rgD j) S1 else .bad
  | _ => .bad
theorem iter_range {Rl : Wd → Wd → Prop} (lo : Int) (n : Nat) : IterOk K Rl w (Itr lo n) ((List.range n).map fun k => Da.int (lo + (k : Nat))) :=
  ⟨_, _, by rw [List.length_map, List.length_range]; exact walk_range, fun _ _ _ _ => True.intro, fun i w2 S2 x H' hi L st y => by
    obtain ⟨e, ex⟩ := y
    rw [List.length_map, List.length_range] at hi
    exact ⟨w2, _, e.symm, by rw [List.getElem?_map, List.getElem?_range hi]; rfl, Le.refl _, st, by rw [ex]; exact .int _⟩⟩
theorem snd_iR1 {ta : TA} {fa : FA} (ha : SndA K W ta fa) : SndI K W Lf (iRng1 ta) (fiR1 fa) := by
  intro wf w S σd σv R s h
  refine ha.run (Le.refl w) s h fun rs S1 w1 vs L1 st1 R1 h1 => ?_
  revert h1
  split
  · rename_i j
    intro h1
    obtain ⟨hz, h2⟩ := h1.ite
    obtain ⟨v, rfl, R2⟩ := R1.one
    cases R2
    refine ⟨j, rfl, by omega, by omega, h2 w1 _ L1 st1 ?_⟩
    have e : rgD j = (List.range j.toNat).map fun k => Da.int (0 + (k : Nat)) := by unfold rgD; simp
    rw [e]; exact iter_range 0 j.toNat
  · intro h1; exact h1.elim
def chD (z : Str) : List Da := z.cps.toList.map fun c => Da.str ⟨#[c]⟩
def fiS (fe : FE) : FI := fun σ S => (fe σ S).bd fun r S1 => match r with
  | .v (.str z) => .ok (chD z) S1
  | _ => .bad
theorem snd_iS {te : TE} {fe : FE} (he : SndE K W te fe) : SndI K W Lf (iStr te) (fiS fe) := by
  intro wf w S σd σv R s h
  refine he.run (Le.refl w) s h fun r S1 w1 v L1 st1 R1 h1 => ?_
  revert h1
  split
  · rename_i z
    intro h1
    cases R1
    refine ⟨z, rfl, h1 w1 _ L1 st1 ⟨_, _, by unfold chD; rw [List.length_map, Array.length_toList]; exact walk_str, fun _ _ _ _ => True.intro, fun i w2 S2 x H' hi L st y => ?_⟩⟩
    obtain ⟨e, c, ec, ex⟩ := y
    exact ⟨w2, _, e.symm, by unfold chD; rw [List.getElem?_map, Array.getElem?_toList, ec]; rfl, Le.refl _, st, by rw [ex]; exact .str _⟩
  · intro h1; exact h1.elim
/-- enumerate -/
def enD : Nat → List Da → List Da
  | _, [] => []
  | n, d :: ds => .tup [.int (n : Nat), d] :: enD (n + 1) ds
theorem enD_len : ∀ (n : Nat) (ds : List Da), (enD n ds).length = ds.length
  | _, [] => rfl
  | n, d :: ds => by simp [enD, enD_len (n + 1) ds]
theorem enD_at : ∀ (n : Nat) (ds : List Da) (i : Nat) (d : Da), ds[i]? = some d → (enD n ds)[i]? = some (.tup [.int ((n + i : Nat) : Int), d])
  | n, [], i, d, e => by simp at e
  | n, x :: ds, 0, d, e => by simp at e; subst e; rfl
  | n, x :: ds, i + 1, d, e => by
    have := enD_at (n + 1) ds i d (by simpa using e)
    simp only [enD, List.getElem?_cons_succ, this]
    congr 5
    omega
theorem pair_yield {Y : Nat → Hp → V → Hp → Prop} {i : Nat} {w2 : Wd} {S2 : Sto} {x : V} {H' : Hp} {f g : Nat → Option V} {d e : Da} (st : StoR K w2 S2) (y : YPair f g i w2.H x H') (hf : ∀ u, f i = some u → Rep K w2 d u) (hg : ∀ u, g i = some u → Rep K w2 e u) : ∃ w3, w3.H = H' ∧ Le w2 w3 ∧ StoR K w3 S2 ∧ Rep K w3 (.tup [d, e]) x := by
  obtain ⟨t, u, v, rfl, ht, rfl, e1, e2⟩ := y
  exact ⟨w2.new t (.tup [u, v]) False, rfl, le_new ht, st.new ht, rep_newT st ht (.cons (hf u e1) (.cons (hg v e2) .nil))⟩
def fiE (fa : FA) : FI := fun σ S => (fa σ S).bd fun rs S1 => onDs rs fun ds => match ds with
  | [.lst ds] => .ok (enD 0 ds) S1
  | _ => .bad
theorem snd_iE {ta : TA} {fa : FA} (ha : SndA K W ta fa) : SndI K W Lf (iEnum K ta) (fiE fa) := by
  intro wf w S σd σv R s h
  refine ha.run (Le.refl w) s h fun rs S1 w1 vs L1 st1 R1 h1 => ?_
  obtain ⟨ds', e, h2⟩ := onDs_of h1
  have r := R1.frz e
  revert h2
  split
  · rename_i ds
    intro h2
    cases r with
    | cons r1 r2 =>
      cases r2
      cases r1 with
      | lst g1 f g2 =>
        rename_i a us
        refine ⟨a, us, rfl, SqL.of g1, h2 (w.frz w1) _ L1.frz st1.frz ⟨_, _, by rw [enD_len, ← g2.length]; exact walk_enum (K := K) (a := a) (xs := us), fun w2 S2 L st => SqL.of (L.kp _ _ g1 f).1, fun i w2 S2 x H' hi L st y => ?_⟩⟩
        rw [enD_len] at hi
        have hi2 : i < us.length := by rw [g2.length]; exact hi
        obtain ⟨d, e1, r⟩ := g2.at' (List.getElem?_eq_getElem hi2)
        obtain ⟨w3, q1, q2, q3, q4⟩ := pair_yield (Y := fun _ _ _ _ => True) (d := .int (i : Nat)) (e := d) st y (fun u eu => by cases eu; exact .int _) (fun u eu => by rw [List.getElem?_eq_getElem hi2] at eu; cases eu; exact r.lf L)
        have := enD_at 0 ds i d e1
        rw [Nat.zero_add] at this
        exact ⟨w3, _, q1, this, q2, q3, q4⟩
  · intro h2; exact h2.elim
def fiET (fa : FA) : FI := fun σ S => (fa σ S).bd fun rs S1 => onDs rs fun ds => match ds with
  | [.tup ds] => .ok (enD 0 ds) S1
  | _ => .bad
theorem snd_iET {ta : TA} {fa : FA} (ha : SndA K W ta fa) : SndI K W Lf (iEnumT K ta) (fiET fa) := by
  intro wf w S σd σv R s h
  refine ha.run (Le.refl w) s h fun rs S1 w1 vs L1 st1 R1 h1 => ?_
  obtain ⟨ds', e, h2⟩ := onDs_of h1
  have r := R1.frz e
  revert h2
  split
  · rename_i ds
    intro h2
    cases r with
    | cons r1 r2 =>
      cases r2
      cases r1 with
      | tup f g2 =>
        rename_i a us
        refine ⟨a, us, rfl, f.sq, h2 (w.frz w1) _ L1.frz st1.frz ⟨_, _, by rw [enD_len, ← g2.length]; exact walk_enumT (K := K) (a := a) (xs := us), fun w2 S2 L st => (f.lf L).sq, fun i w2 S2 x H' hi L st y => ?_⟩⟩
        rw [enD_len] at hi
        have hi2 : i < us.length := by rw [g2.length]; exact hi
        obtain ⟨d, e1, r⟩ := g2.at' (List.getElem?_eq_getElem hi2)
        obtain ⟨w3, q1, q2, q3, q4⟩ := pair_yield (Y := fun _ _ _ _ => True) (d := .int (i : Nat)) (e := d) st y (fun u eu => by cases eu; exact .int _) (fun u eu => by rw [List.getElem?_eq_getElem hi2] at eu; cases eu; exact r.lf L)
        have := enD_at 0 ds i d e1
        rw [Nat.zero_add] at this
        exact ⟨w3, _, q1, this, q2, q3, q4⟩
  · intro h2; exact h2.elim
end
end Cl
/-! ## Fun7 -/
namespace Cl
open PySem PySem.Spec PyProof.Rows L2
section
variable {K : PySem.W.Frag} {W : Cw} {wf w w1 w2 : Wd} {S S1 : Sto} {σd : Env} {σv : L2.St} {D : Ends}
/-! ## for, while -/
def foldFor (fg : FG) (fb : FS) : List Da → Env → Sto → So
  | [], σ, S => .nx σ S
  | d :: ds, σ, S => match fg d σ with
    | none => .bad
    | some σ1 => match fb σ1 S with
      | .nx σ2 S2 => foldFor fg fb ds σ2 S2
      | .ct σ2 S2 => foldFor fg fb ds σ2 S2
      | .bk σ2 S2 => .nx σ2 S2
      | .rt r S2 => .rt r S2
      | .ex e σ2 S2 => .ex e σ2 S2
      | .bad => .bad
def fFor (fi : FI) (fg : FG) (fb : FS) : FS := fun σ S => (fi σ S).so σ fun items S1 => foldFor fg fb items σ S1
theorem snd_for {wi : TI} {fi : FI} {g : TG} {fg : FG} {js : List Nat} {tb : TS} {fb : FS} (hi : SndI K W Lf wi fi) (hg : SndG K W g fg js) (hb : SndS K W tb fb) : SndS K W (tFor wi g tb) (fFor fi fg fb) := by
  intro wf w S σd σv D s h
  refine hi wf w S σd σv _ s ?_
  unfold fFor at h
  revert h
  cases fi σd S with
  | ex e S1 => exact fun h w1 c dd L st R => h w1 σv c dd L.lf (s.step L st) R
  | bad => exact fun h => h
  | ok items S1 =>
    intro h w1 J L1 st1 it
    obtain ⟨G, Y, wk, hG, hY⟩ := it
    refine for_it wk (fun i σ' H' => ∃ w' S' σd', w'.H = H' ∧ Lf w1 w' ∧ Sim K W wf w' S' σd' σ' ∧ PostS K W wf w D (foldFor fg fb (items.drop i) σd' S')) ⟨w1, S1, σd, rfl, Lf.refl _, s.step L1 st1, h⟩ ?_ ?_ ?_
    · rintro i σ' H' hi ⟨w', S', σd', rfl, L, s', hp⟩
      exact hG w' S' L s'.st
    · rintro i x σ' H' H'' hi ⟨w', S', σd', rfl, L, s', hp⟩ y
      obtain ⟨w3, d, rfl, ed, L3, st3, r3⟩ := hY i w' S' x H'' hi L s'.st y
      have e : items.drop i = d :: items.drop (i + 1) := by
        rw [List.drop_eq_getElem_cons hi]
        rw [List.getElem?_eq_getElem hi] at ed
        cases ed; rfl
      rw [e] at hp
      have hp' : PostS K W wf w D (match fg d σd' with
        | none => .bad
        | some σ1 => match fb σ1 S' with
          | .nx σ2 S2 => foldFor fg fb (items.drop (i + 1)) σ2 S2
          | .ct σ2 S2 => foldFor fg fb (items.drop (i + 1)) σ2 S2
          | .bk σ2 S2 => .nx σ2 S2
          | .rt r S2 => .rt r S2
          | .ex e σ2 S2 => .ex e σ2 S2
          | .bad => .bad) := hp
      cases e1 : fg d σd' with
      | none => rw [e1] at hp'; exact hp'.elim
      | some σ1 =>
        rw [e1] at hp'
        refine hg wf w3 S' σd' σ' d x _ (s'.step L3 st3) r3 ⟨σ1, e1, fun σv1 s1 _ _ => hb wf w3 S' σ1 σv1 _ s1 ?_⟩
        have L13 : Lf w1 w3 := L.trans L3.lf
        have L03 : Lf w w3 := L1.lf.trans L13
        revert hp'
        show PostS K W wf w D (match fb σ1 S' with
          | .nx σ2 S2 => foldFor fg fb (items.drop (i + 1)) σ2 S2
          | .ct σ2 S2 => foldFor fg fb (items.drop (i + 1)) σ2 S2
          | .bk σ2 S2 => .nx σ2 S2
          | .rt r S2 => .rt r S2
          | .ex e σ2 S2 => .ex e σ2 S2
          | .bad => .bad) → _
        cases fb σ1 S' with
        | nx σ2 S2 => exact fun hp w4 σv4 L4 s4 => ⟨w4, S2, σ2, rfl, L13.trans L4, s4, hp⟩
        | ct σ2 S2 => exact fun hp w4 σv4 L4 s4 => ⟨w4, S2, σ2, rfl, L13.trans L4, s4, hp⟩
        | bk σ2 S2 => exact fun hp w4 σv4 L4 s4 => hp w4 σv4 (L03.trans L4) s4
        | rt r S2 => exact fun hp => hp
        | ex e σ2 S2 => exact fun hp w4 σv4 c dd L4 s4 R => hp w4 σv4 c dd (L03.trans L4) s4 R
        | bad => exact fun hp => hp
    · rintro σ' H' ⟨w', S', σd', rfl, L, s', hp⟩
      rw [List.drop_length] at hp
      exact hp w' σ' (L1.lf.trans L) s'
/-! ## comprehensions -/
def wipeD (σ : Env) : List Nat → Env
  | [] => σ
  | v :: vs => (wipeD σ vs).set v none
theorem Sim.wipe (s : Sim K W wf w S σd σv) : ∀ vs : List Nat, Sim K W wf w S (wipeD σd vs) (L2.wipe σv vs)
  | [] => s
  | v :: vs => (Sim.wipe s vs).setN
theorem wipe_at (σ : L2.St) : ∀ (vs : List Nat) (k : Nat), (wipe σ vs)[k]? = if k ∈ vs ∧ k < σ.length then some none else σ[k]?
  | [], k => by simp [wipe]
  | v :: vs, k => by
    unfold wipe
    rw [List.getElem?_set]
    by_cases h : v = k
    · subst h
      rw [if_pos rfl, wipe_length]
      by_cases hl : v < σ.length
      · simp [hl]
      · simp [hl]
    · rw [if_neg h, wipe_at σ vs k]
      have : k ≠ v := fun z => h z.symm
      simp [this]
theorem wipe_same {σ σ2 : L2.St} {vs js : List Nat} (h : ∀ k, k ∉ js → σ2[k]? = (wipe σ vs)[k]?) (hl : σ2.length = (wipe σ vs).length) (hj : ∀ j ∈ js, j ∈ vs) : wipe σ2 vs = wipe σ vs := by
  rw [wipe_length] at hl
  apply List.ext_getElem?
  intro k
  rw [wipe_at, wipe_at, hl]
  by_cases hk : k ∈ vs
  · by_cases hl2 : k < σ.length
    · simp [hk, hl2]
    · have h1 : σ2[k]? = none := List.getElem?_eq_none (by omega)
      have h2 : σ[k]? = none := List.getElem?_eq_none (by omega)
      simp [hl2, h1, h2]
  · have hkj : k ∉ js := fun z => hk (hj k z)
    simp only [hk, false_and, if_false]
    rw [h k hkj, wipe_at]
    simp [hk]
def foldLc (fg : FG) (ft : FT) (fe : FE) (σ : Env) : List Da → List Da → Sto → Ev (List Da)
  | [], acc, S => .ok acc S
  | d :: ds, acc, S => match fg d σ with
    | none => .bad
    | some σ1 => (ft σ1 S).noX.bd fun b S1 => if b = true then (fe σ1 S1).noX.bd fun r S2 => onD r fun y => if acc.length < 1000000 then foldLc fg ft fe σ ds (acc ++ [y]) S2 else .bad else foldLc fg ft fe σ ds acc S1
def fLc (fi : FI) (fg : FG) (ft : FT) (fe : FE) (vs : List Nat) : FE := fun σ S => (fi σ S).bd fun items S1 => (foldLc fg ft fe (wipeD σ vs) items [] S1).bd fun acc S2 => .ok (.fr (.lst acc)) S2
theorem le_put {w0 : Wd} (L : Le w0 w) {a : Addr} {o : HO} (h : w0.H a = none) : Le w0 { w with H := upd w.H a o } := ⟨L.pre, fun b u e n => by
  have ne : b ≠ a := fun z => by rw [z, h] at e; cases e
  obtain ⟨h1, h2, h3⟩ := L.kp b u e n
  exact ⟨by show upd w.H a o b = some u; rw [upd_ne ne]; exact h1, h2, h3⟩⟩
theorem snd_lc {wi : TI} {fi : FI} {g : TG} {fg : FG} {js vs : List Nat} {tt : TT} {ft : FT} {te : TE} {fe : FE} (hi : SndI K W Le wi fi) (hg : SndG K W g fg js) (hj : ∀ j ∈ js, j ∈ vs) (ht : SndT K W tt ft) (he : SndE K W te fe) : SndE K W (tLc wi g tt te vs) (fLc fi fg ft fe vs) := by
  intro wf w S σd σv Q s h
  refine hi wf w S σd σv _ s ?_
  unfold fLc at h
  revert h
  cases fi σd S with
  | ex e S1 => exact fun h => h
  | bad => exact fun h => h
  | ok items S1 =>
    intro h w1 J L1 st1 it Dl hD
    obtain ⟨G, Y, wk, hG, hY⟩ := it
    have h' : PostE K W wf w σv Q ((foldLc fg ft fe (wipeD σd vs) items [] S1).bd fun acc S2 => .ok (.fr (.lst acc)) S2) := h
    refine lc_it wk (fun i H' => ∃ w' S' acc us, w'.H = H' ∧ Le w1 w' ∧ StoR K w' S' ∧ w'.H Dl = some (.lst us) ∧ Reps K w' acc us ∧ w'.ow Dl ∧ Dl ∉ w'.m ∧ PostE K W wf w σv Q ((foldLc fg ft fe (wipeD σd vs) (items.drop i) acc S').bd fun acc S2 => .ok (.fr (.lst acc)) S2)) ?_ ?_ ?_ ?_
    · exact ⟨w1.new Dl (.lst []) True, S1, [], [], rfl, le_new hD, st1.new hD, upd_same, .nil, .inl ⟨rfl, True.intro⟩, (st1.fresh hD).1, h'⟩
    · rintro i H' hi ⟨w', S', acc, us, rfl, L, st, _⟩
      exact hG w' S' L st
    · rintro i x H' H'' hi ⟨w', S', acc, us, rfl, L, st, hl, hr, ho, hm, hp⟩ y
      obtain ⟨w3, d, rfl, ed, L3, st3, r3⟩ := hY i w' S' x H'' hi L st y
      have e : items.drop i = d :: items.drop (i + 1) := by
        rw [List.drop_eq_getElem_cons hi]
        rw [List.getElem?_eq_getElem hi] at ed
        cases ed; rfl
      rw [e] at hp
      simp only [foldLc] at hp
      have L13 := L.trans L3
      obtain ⟨k1, k2, k3⟩ := L3.kp Dl _ hl hm
      cases e1 : fg d (wipeD σd vs) with
      | none => rw [e1] at hp; exact hp.elim
      | some σ1 =>
        rw [e1] at hp
        refine hg wf w3 S' (wipeD σd vs) (wipe σv vs) d x _ ((s.step (L1.trans L13) st3).wipe vs) r3 ⟨σ1, e1, fun σv1 s1 e2 l2 => ⟨wipe_same e2 l2 hj, ht wf w3 S' σ1 σv1 _ s1 ?_⟩⟩
        have hp0 : PostE K W wf w σv Q (Ev.bd ((ft σ1 S').noX.bd fun b S1 => if b = true then (fe σ1 S1).noX.bd fun r S2 => onD r fun y => if acc.length < 1000000 then foldLc fg ft fe (wipeD σd vs) (items.drop (i + 1)) (acc ++ [y]) S2 else .bad else foldLc fg ft fe (wipeD σd vs) (items.drop (i + 1)) acc S1) fun acc S2 => .ok (.fr (.lst acc)) S2) := hp
        clear hp
        revert hp0
        cases ft σ1 S' with
        | ex e S4 => exact fun hp => False.elim hp
        | bad => exact fun hp => hp
        | ok b S4 =>
          intro hp w4 L4 st4
          obtain ⟨m1, m2, m3⟩ := L4.kp Dl _ k1 k2
          have L14 := L13.trans L4
          cases b with
          | false => exact iteF ⟨w4, S4, acc, us, rfl, L14, st4, m1, hr.le (L3.trans L4), m3.mpr (k3.mpr ho), m2, hp⟩
          | true =>
            refine iteT (he wf w4 S4 σ1 σv1 _ (s1.step L4 st4) ?_)
            have hp' : PostE K W wf w σv Q (Ev.bd ((fe σ1 S4).noX.bd fun r S2 => onD r fun y => if acc.length < 1000000 then foldLc fg ft fe (wipeD σd vs) (items.drop (i + 1)) (acc ++ [y]) S2 else .bad) fun acc S2 => .ok (.fr (.lst acc)) S2) := hp
            revert hp'
            cases fe σ1 S4 with
            | ex e S5 => exact fun hp => False.elim hp
            | bad => exact fun hp => hp
            | ok r S5 =>
              intro hp w5 v5 L5 st5 R5
              have hp2 : PostE K W wf w σv Q (Ev.bd (onD r fun y => if acc.length < 1000000 then foldLc fg ft fe (wipeD σd vs) (items.drop (i + 1)) (acc ++ [y]) S5 else .bad) fun acc S2 => .ok (.fr (.lst acc)) S2) := hp
              unfold onD at hp2
              cases ey : r.toD with
              | none => rw [ey] at hp2; exact hp2.elim
              | some y =>
                rw [ey] at hp2
                by_cases hz : acc.length < 1000000
                · simp only [hz, if_true] at hp2
                  obtain ⟨n1, n2, n3⟩ := L5.kp Dl _ m1 m2
                  have how : (w4.frz w5).ow Dl := ⟨n3.mpr (m3.mpr (k3.mpr ho)), by rw [m1]; simp⟩
                  refine ⟨us, n1, sz_lt (by rw [hr.length]; omega), { w4.frz w5 with H := upd w5.H Dl (.lst (us ++ [v5])) }, S5, acc ++ [y], us ++ [v5], rfl, le_put (w := w4.frz w5) (L14.trans L5.frz) hD, sto_put (w := w4.frz w5) st5.frz how, upd_same, ?_, how, n2, hp2⟩
                  exact (((hr.le (L3.trans L4)).le L5.frz).app (.cons (R5.frz ey) .nil)).lf (own_put (w := w4.frz w5) how)
                · simp only [hz, if_false] at hp2
                  exact hp2.elim
    · rintro H' ⟨w', S', acc, us, rfl, L, st, hl, hr, ho, hm, hp⟩
      rw [List.drop_length] at hp
      exact hp w' _ (L1.trans L) st ⟨Dl, rfl, L1.none st1 hD, ⟨us, hl, hr⟩, ho, hm⟩
/-! ## exceptions -/
def Da.fmt : Da → Bool
  | .str y => decide (y.length ≤ 1000)
  | .int i => decide (i.natAbs.log2 < 1920)
  | _ => false
theorem fmt_of {d : Da} {v : V} (h : Rep K w d v) (e : d.fmt = true) : Exs.FmtV v := by
  cases h with
  | int i => exact (of_decide_eq_true e : i.natAbs.log2 < 1920)
  | str y => exact (of_decide_eq_true e : y.length ≤ 1000)
  | _ => cases e
theorem fmts_of : ∀ {ds : List Da} {vs : List V}, Reps K w ds vs → ds.all Da.fmt = true → ∀ v ∈ vs, Exs.FmtV v
  | _, _, .nil, _, v, hv => nomatch hv
  | _, _, .cons h r, e, v, hv => by
    rw [List.all_cons, Bool.and_eq_true] at e
    rcases List.mem_cons.mp hv with rfl | hv
    · exact fmt_of h e.1
    · exact fmts_of r e.2 v hv
def fRaise (C : Str) (ns : List Str) (fa : FA) : FS := fun σ S => (fa σ S).so σ fun rs S1 => match toDs rs with
  | some ds => if ds.length = ns.length ∧ ds.length ≤ 1000 ∧ ds.all Da.fmt = true then .ex ⟨C, ns.reverse, ds.reverse⟩ σ S1 else .bad
  | none => .bad
theorem zip_fst : ∀ (ns : List Str) (vs : List V), vs.length = ns.length → (ns.zip vs).map (·.1) = ns
  | [], [], _ => rfl
  | n :: ns, v :: vs, h => by simp [zip_fst ns vs (by simpa using h)]
  | [], _ :: _, h => by simp at h
  | _ :: _, [], h => by simp at h
theorem zip_snd : ∀ (ns : List Str) (vs : List V), vs.length = ns.length → (ns.zip vs).map (·.2) = vs
  | [], [], _ => rfl
  | n :: ns, v :: vs, h => by simp [zip_snd ns vs (by simpa using h)]
  | [], _ :: _, h => by simp at h
  | _ :: _, [], h => by simp at h
theorem snd_raise {C : Str} {ns : List Str} {ta : TA} {fa : FA} (ha : SndA K W ta fa) : SndS K W (tRaise (tMkE (He.ga K C) ns ta) W.W) (fRaise C ns fa) := by
  intro wf w S σd σv D s h
  refine ha.runS (Lf.refl w) s h fun rs S1 w1 vs L1 st1 R1 h1 => ?_
  revert h1
  split
  · rename_i ds e
    intro h1
    obtain ⟨⟨hl, hz, hf⟩, h2⟩ := h1.ite
    have r := R1.frz e
    have el : vs.length = ns.length := by rw [r.length]; exact hl
    refine ⟨el, by rw [r.length]; exact hz, fmts_of r hf, fun d hd => ?_⟩
    have st : StoR K (w.frz w1) S1 := st1.frz
    have L : Le w ((w.frz w1).new d (.xd (ns.zip vs).reverse) False) := L1.frz.trans (le_new hd)
    refine h2 ((w.frz w1).new d (.xd (ns.zip vs).reverse) False) σv _ _ L.lf (s.step L (st.new hd)) ⟨rfl, .inl ⟨d, (ns.zip vs).reverse, rfl, upd_same, ⟨(st.fresh hd).1, fun z => z.elim (·.2) fun z => z.1 rfl⟩, ?_, ?_⟩⟩
    · rw [List.map_reverse, zip_fst ns vs el]
    · rw [List.map_reverse, zip_snd ns vs el]
      exact (r.le (le_new (w := w.frz w1) hd)).rev
  · intro h1; exact h1.elim
abbrev Tab := List ((Str × Str) × Bool)
variable (K) in
/-- whether an exception of one class is caught by the name of another -/
def TabOk (tab : Tab) : Prop := ∀ C X b, tab.lookup (C, X) = some b → PySem.W.exmOne K (.ref (He.ga K C)) (.ref (He.ga K X)) = some b
abbrev Fh := Str × Nat × (Exn → FS)
def noExn : Env → Bool
  | [] => true
  | some .exn :: _ => false
  | _ :: σ => noExn σ
theorem noExn_at : ∀ {σ : Env}, noExn σ = true → ∀ j : Nat, σ[j]? ≠ some (some .exn)
  | [], _, j, e => by simp at e
  | x :: σ, h, 0, e => by simp at e; subst e; simp [noExn] at h
  | x :: σ, h, j + 1, e => by
    refine noExn_at (σ := σ) ?_ j (by simpa using e)
    unfold noExn at h
    split at h
    · rename_i h2; cases h2
    · cases h
    · rename_i h2; cases h2; exact h
def endO (i : Nat) : So → So
  | .nx σ S => if noExn (σ.set i none) = true then .nx (σ.set i none) S else .bad
  | .bk σ S => if noExn (σ.set i none) = true then .bk (σ.set i none) S else .bad
  | .ct σ S => if noExn (σ.set i none) = true then .ct (σ.set i none) S else .bad
  | .ex e σ S => if noExn (σ.set i none) = true then .ex e (σ.set i none) S else .bad
  | o => o
def fHand (tab : Tab) : List Fh → Exn → Env → Sto → So
  | [], e, σ, S => .ex e σ S
  | (X, i, g) :: r, e, σ, S => match tab.lookup (e.C, X) with
    | some true => if noExn σ = true then endO i (g e (σ.set i (some .exn)) S) else .bad
    | some false => fHand tab r e σ S
    | none => .bad
def fTry (tab : Tab) (fb : FS) (hs : List Fh) : FS := fun σ S => match fb σ S with
  | .ex e σ1 S1 => fHand tab hs e σ1 S1
  | o => o
variable (K) in
inductive SndH (Wout : WX) (ex0 : Option (Addr × Option Addr × Exn)) : List Hc → List Fh → Prop
  | nil : SndH Wout ex0 [] []
  | cons {X : Str} {i : Nat} {ts : Addr → Value → Option Addr → TS} {g : Exn → FS} {l : List Hc} {hs : List Fh} : (∀ a d e, SndS K ⟨Wout, some (a, d, e)⟩ (ts a (.ref (He.ga K e.C)) d) (g e)) → SndH Wout ex0 l hs → SndH Wout ex0 ((.ref (He.ga K X), i, ts) :: l) ((X, i, g) :: hs)
theorem Sim.enter {W : Cw} {a : Addr} {d : Option Addr} {e : Exn} {i : Nat} (s : Sim K W wf w S σd σv) (hx : XdR K w d e) (hno : ∀ j : Nat, σd[j]? ≠ some (some .exn)) : Sim K ⟨W.W, some (a, d, e)⟩ wf w S (σd.set i (some .exn)) (σv.set i (some (.ref a))) := by
  have s0 : Sim K ⟨W.W, none⟩ wf w S σd σv := ⟨s.le, s.st, s.ln, s.sl, s.dj, fun a d e h => by cases h⟩
  have s1 : Sim K ⟨W.W, none⟩ wf w S (σd.set i none) (σv.set i (some (.ref a))) := s0.setN
  have hat : ∀ (j : Nat) x, (σd.set i (some .exn))[j]? = some (some x) → (j = i ∧ x = .exn ∧ i < σd.length) ∨ (j ≠ i ∧ (σd.set i none)[j]? = some (some x)) := fun j x ej => by
    by_cases hj : i = j
    · subst hj
      by_cases hl : i < σd.length
      · rw [List.getElem?_set_self hl] at ej; cases ej; exact .inl ⟨rfl, rfl, hl⟩
      · rw [List.getElem?_eq_none (by simp; omega)] at ej; cases ej
    · rw [List.getElem?_set_ne hj] at ej
      exact .inr ⟨fun z => hj z.symm, by rw [List.getElem?_set_ne hj]; exact ej⟩
  refine ⟨s.le, s.st, by simp [s.ln], fun j x ej => ?_, fun j k d1 d2 b1 b2 a' hne e1 e2 e3 e4 => ?_, fun a' d' e' h => ?_⟩
  · rcases hat j x ej with ⟨rfl, rfl, hl⟩ | ⟨hj, ej⟩
    · exact ⟨.ref a, by rw [List.getElem?_set_self (by rw [← s.ln]; exact hl)], True.intro⟩
    · exact s1.sl j x ej
  · rcases hat j _ e1 with ⟨_, h1, _⟩ | ⟨_, h1⟩
    · cases h1
    · rcases hat k _ e2 with ⟨_, h2, _⟩ | ⟨_, h2⟩
      · cases h2
      · exact s1.dj j k _ _ _ _ a' hne h1 h2 e3 e4
  · cases h
    refine ⟨hx, fun j ej => ?_⟩
    rcases hat j _ ej with ⟨rfl, _, hl⟩ | ⟨hj, ej⟩
    · rw [List.getElem?_set_self (by rw [← s.ln]; exact hl)]
    · rw [List.getElem?_set_ne (fun z => hj z.symm)] at ej
      exact absurd ej (hno j)
theorem Sim.leave {W : Cw} {a : Addr} {d : Option Addr} {e : Exn} {i : Nat} {w' : Wd} {S' : Sto} {σd' : Env} {σv' : L2.St} (s : Sim K W wf w S σd σv) (L : Lf w w') (hno : ∀ j : Nat, σd'[j]? ≠ some (some .exn)) (s' : Sim K ⟨W.W, some (a, d, e)⟩ wf w' S' σd' σv') : Sim K W wf w' S' σd' σv' :=
  ⟨s'.le, s'.st, s'.ln, s'.sl, s'.dj, fun a' d' e' h => ⟨(s.cx a' d' e' h).1.lf L, fun j ej => absurd ej (hno j)⟩⟩
theorem Sim.forget (s : Sim K W wf w S σd σv) {i : Nat} : Sim K W wf w S (σd.set i none) σv := by
  have hat : ∀ (j : Nat) x, (σd.set i none)[j]? = some (some x) → σd[j]? = some (some x) := fun j x ej => by
    by_cases hj : i = j
    · subst hj
      by_cases hl : i < σd.length
      · rw [List.getElem?_set_self hl] at ej; cases ej
      · rw [List.getElem?_eq_none (by simp; omega)] at ej; cases ej
    · rw [List.getElem?_set_ne hj] at ej; exact ej
  exact ⟨s.le, s.st, by simp [s.ln], fun j x ej => s.sl j x (hat j x ej), fun j k d1 d2 b1 b2 a' hne e1 e2 => s.dj j k _ _ _ _ a' hne (hat j _ e1) (hat k _ e2), fun a d e h => ⟨(s.cx a d e h).1, fun j ej => (s.cx a d e h).2 j (hat j _ ej)⟩⟩
theorem hand_ok {tab : Tab} (htab : TabOk K tab) {w0 : Wd} {l : List Hc} {hs : List Fh} {ex0 : Option (Addr × Option Addr × Exn)} (hh : SndH K W.W ex0 l hs) : ∀ {e : Exn} {c : Value} {dd : Option Addr}, Sim K W wf w S σd σv → RepX K w e c dd → Lf w0 w → PostS K W wf w0 D (fHand tab hs e σd S) → wMA K W.W D l c dd σv w.H := by
  induction hh with
  | nil => exact fun s R L h => h w σv _ _ L s R
  | cons hsnd hr ih =>
    rename_i X i ts g l hs
    intro e c dd s R L h
    obtain ⟨rfl, hx⟩ := R
    have R' : RepX K w e (.ref (He.ga K e.C)) dd := ⟨rfl, hx⟩
    simp only [fHand] at h
    cases hb : tab.lookup (e.C, X) with
    | none => rw [hb] at h; exact h.elim
    | some b =>
      rw [hb] at h
      refine ⟨b, htab _ _ _ hb, fun z a ha => ?_, fun z => ?_⟩
      · subst z
        obtain ⟨hno, h2⟩ := PostS.ite h
        refine hsnd a dd e wf w S _ _ _ (s.enter hx (noExn_at hno)) ?_
        revert h2
        cases g e (σd.set i (some .exn)) S with
        | nx σ1 S1 => exact fun h2 w' σv' L' s' => (PostS.ite h2).2 w' _ (L.trans L') (Sim.leave (i := i) s L' (noExn_at (PostS.ite h2).1) s'.setN)
        | bk σ1 S1 => exact fun h2 w' σv' L' s' => (PostS.ite h2).2 w' _ (L.trans L') (Sim.leave (i := i) s L' (noExn_at (PostS.ite h2).1) s'.setN)
        | ct σ1 S1 => exact fun h2 w' σv' L' s' => (PostS.ite h2).2 w' _ (L.trans L') (Sim.leave (i := i) s L' (noExn_at (PostS.ite h2).1) s'.setN)
        | rt r S1 => exact fun h2 => h2
        | ex e1 σ1 S1 => exact fun h2 w' σv' c' dd' L' s' R2 => (PostS.ite h2).2 w' σv' c' dd' (L.trans L') (Sim.leave (i := i) s L' (noExn_at (PostS.ite h2).1) s'.forget) R2
        | bad => exact fun h2 => h2
      · subst z
        exact ih s R' L h
theorem snd_try {tab : Tab} (htab : TabOk K tab) {tb : WX → TS} {fb : FS} {l : List Hc} {hs : List Fh} (hb : ∀ W' : WX, SndS K ⟨W', W.ex⟩ (tb W') fb) (hh : SndH K W.W none l hs) : SndS K W (tTryA K tb W.W l) (fTry tab fb hs) := by
  intro wf w S σd σv D s h
  have conv : ∀ {W1 W2 : WX} {w S σd σv}, Sim K ⟨W1, W.ex⟩ wf w S σd σv → Sim K ⟨W2, W.ex⟩ wf w S σd σv := fun s => ⟨s.le, s.st, s.ln, s.sl, s.dj, s.cx⟩
  refine hb (wMA K W.W D l) wf w S σd σv D (conv (W1 := W.W) s) ?_
  unfold fTry at h
  revert h
  cases fb σd S with
  | nx σ1 S1 => exact fun h w' σv' L s' => h w' σv' L (conv (W2 := W.W) s')
  | bk σ1 S1 => exact fun h w' σv' L s' => h w' σv' L (conv (W2 := W.W) s')
  | ct σ1 S1 => exact fun h w' σv' L s' => h w' σv' L (conv (W2 := W.W) s')
  | rt r S1 => exact fun h => h
  | ex e σ1 S1 => exact fun h w' σv' c dd L s' R => hand_ok htab hh (conv (W2 := W.W) s') R L h
  | bad => exact fun h => h
/-! ### in a handler -/
def fXf (C f : Str) (e : Exn) (i : Nat) : FE := fun σ S => match σ[i]?, getF e.ns e.ds f with
  | some (some .exn), some d => if e.C = C then .ok (.v d) S else .bad
  | _, _ => .bad
theorem snd_xf {Wo : WX} {a : Addr} {d : Option Addr} {e : Exn} {C f : Str} {i : Nat} : SndE K ⟨Wo, some (a, d, e)⟩ (tXf a (.ref (He.ga K e.C)) d (He.ga K C) f (tVar i)) (fXf C f e i) := by
  intro wf w S σd σv Q s h
  unfold fXf at h
  split at h
  · rename_i dv e1 e2
    obtain ⟨hC, h2⟩ := h.ite
    subst hC
    obtain ⟨hx, hs⟩ := s.cx a d e rfl
    obtain ⟨d, fs, rfl, g1, g2, g3, g4⟩ : ∃ d' fs, d = some d' ∧ w.H d' = some (.xd fs) ∧ w.fz d' ∧ fs.map (·.1) = e.ns ∧ Reps K w e.ds (fs.map (·.2)) := hx.elim id fun z => by rw [z.2] at e2; unfold getF at e2; cases e2
    obtain ⟨v, g5, g6⟩ := getF_of g3 g4 e2
    exact ⟨_, hs i e1, rfl, rfl, d, fs, v, rfl, g1, g5, h2 w v (Le.refl _) s.st g6⟩
  · exact h.elim
theorem xdR_or {w : Wd} {d : Option Addr} {e : Exn} (hx : XdR K w d e) : (∃ dd fs, d = some dd ∧ w.H dd = some (.xd fs)) ∨ d = none := hx.elim (fun ⟨d, fs, h0, h1, _⟩ => .inl ⟨d, fs, h0, h1⟩) fun z => .inr z.1
theorem rel_ref {a : Addr} : ∀ u, RelV (.ref a) u → u = .ref a := fun _ h => h
theorem rel_ty {n : String} : ∀ u, RelV (.ty n) u → u = .type n := fun _ h => h
/-! ## defs -/
def fnOf (n k : Nat) (body : FS) : Fn := fun ds S => if ds.length = n then (match body (ds.map (fun d => some (.v d)) ++ List.replicate (k - n) none) S with
  | .nx _ S' => .ok (.v .non) S'
  | .rt r S' => .ok r S'
  | .ex e _ S' => .ex e S'
  | _ => .bad) else .bad
theorem sim_start {ds : List Da} {vs : List V} {N : List Str} (st : StoR K w S) (r : Reps K w ds vs) : Sim K ⟨W.W, none⟩ w w S (ds.map (fun d => some (.v d)) ++ List.replicate (N.length - ds.length) none) (start N vs) := by
  have el := r.length
  refine ⟨Le.refl _, st, by simp [L2.start, el], fun i x e => ?_, fun i j d e s s' a hne e1 => ?_, fun a d e h => by cases h⟩
  · have hi : i < ds.length := by
      by_cases hi : i < ds.length
      · exact hi
      · rw [List.getElem?_append_right (by simp; omega)] at e
        rw [List.getElem?_replicate] at e
        split at e <;> cases e
    rw [List.getElem?_append_left (by simp; omega), List.getElem?_map, List.getElem?_eq_getElem hi] at e
    cases e
    obtain ⟨v, e1, r1⟩ := r.at (List.getElem?_eq_getElem hi)
    refine ⟨v, ?_, r1⟩
    unfold L2.start
    rw [List.getElem?_append_left (by simp; omega), List.getElem?_map, e1]; rfl
  · exfalso
    by_cases hi : i < ds.length
    · rw [List.getElem?_append_left (by simp; omega), List.getElem?_map, List.getElem?_eq_getElem hi] at e1
      cases e1
    · rw [List.getElem?_append_right (by simp; omega), List.getElem?_replicate] at e1
      split at e1 <;> cases e1
theorem fn_pure {n : Nat} {N : List Str} {body : FS} {t : TS} {vs : List V} {H : Hp} {Q : VK} {E : XK} (hb : SndS K ⟨W0 E, none⟩ t body) (h : spOf K (fnOf n N.length body) vs H Q E) : t { nx := fun _ H' => Q .non H', rt := Q } (start N vs) H := by
  obtain ⟨w, S, ds, rfl, st, r, h⟩ := h
  unfold fnOf at h
  obtain ⟨hl, h2⟩ := h.ite
  subst hl
  refine hb w w S _ _ _ (sim_start (W := ⟨W0 E, none⟩) st r) ?_
  revert h2
  cases body (ds.map (fun d => some (.v d)) ++ List.replicate (N.length - ds.length) none) S with
  | nx σ1 S1 => exact fun h2 w' σv' L s' => h2 w' _ s'.le s'.st .non
  | rt r S1 => exact fun h2 w' v L s' R => h2 w' v L s' R
  | bk σ1 S1 => exact fun h2 => h2.elim
  | ct σ1 S1 => exact fun h2 => h2.elim
  | ex e σ1 S1 => exact fun h2 w' σv' c dd L s' R => h2 w' c dd s'.le s'.st R
  | bad => exact fun h2 => h2
theorem fn_len {n k : Nat} {body : FS} {vs : List V} {H : Hp} {Q : VK} {E : XK} (h : spOf K (fnOf n k body) vs H Q E) : vs.length = n := by
  obtain ⟨w, S, ds, rfl, st, r, h⟩ := h
  unfold fnOf at h
  obtain ⟨hl, h2⟩ := h.ite
  rw [r.length, hl]
/-- __init__: the first slot is the new object -/
def inOf (C : Str) (n k : Nat) (body : FS) : FIn := fun ds S => if ds.length + 1 = n then (match body (some (.own (.obj C [] []) true) :: (ds.map (fun d => some (.v d)) ++ List.replicate (k - n) none)) S with
  | .nx σ S' => match (σ[0]? : Option (Option Sx)) with
    | some (some (Sx.own d true)) => .ok d S'
    | _ => .bad
  | .ex e _ S' => .ex e S'
  | _ => .bad) else .bad
theorem in_pure {C : Str} {n : Nat} {N : List Str} {body : FS} {t : TS} {vs : List V} {H : Hp} {Q : VK} {E : XK} (hb : SndS K ⟨W0 E, none⟩ t body) (h : spIn K C (inOf C n N.length body) vs H Q E) : t { nx := fun _ H' => Q .non H', rt := Q } (start N vs) H := by
  obtain ⟨w, S, ds, x, dx, us, rfl, rfl, hx, hdx, hne, st, r, h⟩ := h
  unfold inOf at h
  obtain ⟨hl, h2⟩ := h.ite
  subst hl
  have el := r.length
  have st1 : StoR K (w.new dx (.own x) False) S := st.new hdx
  have hx1 : (w.new dx (.own x) False).H x = none := by show upd w.H dx (.own x) x = none; rw [upd_ne (fun z => hne z.symm)]; exact hx
  have L1 : Le w (w.new dx (.own x) False) := le_new hdx
  have Lb : Le (w.new dx (.own x) False) ((w.new dx (.own x) False).new x (.ins (He.ga K C) dx []) True) := le_new hx1
  have st2 : StoR K ((w.new dx (.own x) False).new x (.ins (He.ga K C) dx []) True) S := st1.new hx1
  have own : OwnR K w ((w.new dx (.own x) False).new x (.ins (He.ga K C) dx []) True) (.obj C [] []) (.ref x) := ⟨x, rfl, hx, ⟨dx, [], upd_same, rfl, .nil⟩, .inl ⟨rfl, True.intro⟩, (st1.fresh hx1).1⟩
  have hs : start N (.ref x :: us) = some (.ref x) :: (us.map some ++ List.replicate (N.length - (ds.length + 1)) none) := by unfold _root_.L2.start; simp [el]
  have sim : Sim K ⟨W0 E, none⟩ { w with x := x } ((w.new dx (.own x) False).new x (.ins (He.ga K C) dx []) True) S (some (.own (.obj C [] []) true) :: (ds.map (fun d => some (.v d)) ++ List.replicate (N.length - (ds.length + 1)) none)) (start N (.ref x :: us)) := by
    rw [hs]
    have rr := r.le (L1.trans Lb)
    have atd : ∀ (i : Nat) y, (ds.map (fun d => some (Sx.v d)) ++ List.replicate (N.length - (ds.length + 1)) none)[i]? = some (some y) → ∃ (hi : i < ds.length), y = .v ds[i] := fun i y e => by
      by_cases hi : i < ds.length
      · rw [List.getElem?_append_left (by simp; omega), List.getElem?_map, List.getElem?_eq_getElem hi] at e
        cases e
        exact ⟨hi, rfl⟩
      · rw [List.getElem?_append_right (by simp; omega), List.getElem?_replicate] at e
        split at e <;> cases e
    refine ⟨⟨(L1.trans Lb).pre, (L1.trans Lb).kp⟩, st2, by simp [el], fun i y e => ?_, fun i j d e s s' a hne' e1 e2 => ?_, fun a d e h => by cases h⟩
    · cases i with
      | zero =>
        cases e
        exact ⟨.ref x, rfl, own, fun _ => rfl⟩
      | succ i =>
        obtain ⟨hi, rfl⟩ := atd i y (by simpa using e)
        obtain ⟨v, e1, r1⟩ := rr.at (List.getElem?_eq_getElem hi)
        refine ⟨v, ?_, r1⟩
        rw [List.getElem?_cons_succ, List.getElem?_append_left (by simp; omega), List.getElem?_map, e1]; rfl
    · exfalso
      cases i with
      | zero =>
        cases j with
        | zero => exact hne' rfl
        | succ j => obtain ⟨_, h⟩ := atd j _ (by simpa using e2); cases h
      | succ i => obtain ⟨_, h⟩ := atd i _ (by simpa using e1); cases h
  refine hb { w with x := x } _ S _ _ _ sim ?_
  revert h2
  cases body (some (.own (.obj C [] []) true) :: (ds.map (fun d => some (.v d)) ++ List.replicate (N.length - (ds.length + 1)) none)) S with
  | nx σ1 S1 =>
    intro h2 w' σv' L s'
    have h3 : Po _ _ (match (σ1[0]? : Option (Option Sx)) with
      | some (some (Sx.own d true)) => .ok d S1
      | _ => .bad) := h2
    split at h3
    · rename_i d e
      obtain ⟨v, e1, ⟨a, e2, e3⟩, e4⟩ := s'.sl 0 _ e
      have e5 := e4 rfl
      refine h3 w' ⟨s'.le.pre, s'.le.kp⟩ s'.st ?_
      rw [e5] at e2
      exact ⟨a, e2, e3⟩
    · exact h3.elim
  | rt r S1 => exact fun h2 => h2.elim
  | bk σ1 S1 => exact fun h2 => h2.elim
  | ct σ1 S1 => exact fun h2 => h2.elim
  | ex e σ1 S1 => exact fun h2 w' σv' c dd L s' R => h2 w' c dd ⟨s'.le.pre, s'.le.kp⟩ s'.st R
  | bad => exact fun h2 => h2
theorem in_len {C : Str} {n k : Nat} {body : FS} {vs : List V} {H : Hp} {Q : VK} {E : XK} (h : spIn K C (inOf C n k body) vs H Q E) : vs.length = n := by
  obtain ⟨w, S, ds, x, dx, us, rfl, rfl, hx, hdx, hne, st, r, h⟩ := h
  unfold inOf at h
  obtain ⟨hl, h2⟩ := h.ite
  simp [r.length, hl]
theorem law_start {f : Fn} {H : Hp} {a : Addr} {ns : List Int} {S : Sto} (hS : SqL K H a (ns.map V.int)) (hf : f [.frl ns] [] = .ok (.v (.bl true)) S) : spOf K f [.ref a] H (fun v _ => v = .bl true) fun _ _ _ => False := by
  refine ⟨⟨H, [], fun _ => False, 0⟩, [], [.frl ns], rfl, ⟨rfl, List.nodup_nil, fun n a d e => by simp at e, fun a h => h.elim, fun a h => by simp at h⟩, .cons (.frl ?_) .nil, ?_⟩
  · rcases hS with h | h
    · exact .inl ⟨h, by simp, fun z => z⟩
    · exact .inr h
  · rw [hf]
    intro w' v _ _ R
    cases R
    rfl
end
end Cl
/-! ## Fun8 -/
namespace Cl
open PySem PySem.Spec PyProof.Rows L2
section
variable {K : PySem.W.Frag} {W : Cw} {wf w w1 w2 : Wd} {S S1 : Sto} {σd : Env} {σv : L2.St} {D : Ends}
def fNeg (fe : FE) : FE := fun σ S => (fe σ S).bd fun r S1 => match r with
  | .v (.int i) => .ok (.v (.int (-i))) S1
  | _ => .bad
theorem snd_neg {te : TE} {fe : FE} (he : SndE K W te fe) : SndE K W (tUn uNeg te) (fNeg fe) := by
  intro wf w S σd σv Q s h
  refine he.run (Le.refl w) s h fun r S1 w1 v L1 st1 R1 h1 => ?_
  revert h1
  split
  · intro h1; cases R1; exact ⟨_, rfl, h1 w1 _ L1 st1 (.int _)⟩
  · intro h1; exact h1.elim
/-! ### calls that may raise -/
def fMethX (C m : Str) (f : Fn) (fo : FE) (fa : FA) : FE := fun σ S => (fo σ S).bd fun r S1 => match r.rd S1 with
  | .obj C' ns _ => if C' = C ∧ m ∉ ns then (fa σ S1).bd fun rs S2 => onDs (r :: rs) fun ds => f ds S2 else .bad
  | _ => .bad
theorem snd_methX {C m : Str} {f : Fn} {to : TE} {fo : FE} {ta : TA} {fa : FA} (ho : SndE K W to fo) (ha : SndA K W ta fa) : SndE K W (tMethX (He.ga K C) m (spOf K f) (WE W.W) to ta) (fMethX C m f fo fa) := by
  intro wf w S σd σv Q s h
  refine ho.run (Le.refl w) s h fun r S1 w1 v L1 st1 R1 h1 => ?_
  revert h1
  split
  · rename_i C' ns ds' e
    intro h1
    obtain ⟨⟨hC, hm⟩, h2⟩ := h1.ite
    subst hC
    obtain ⟨a, dx, fs, rfl, g1, g2, g3⟩ := objOf st1 R1 e
    refine ⟨a, dx, fs, rfl, g1, lookup_no (by rw [g2]; exact hm), ha.run L1 (s.step L1 st1) h2 fun rs S2 w2 vs L2 st2 R2 h3 => ?_⟩
    obtain ⟨ds, e2, h4⟩ := onDs_of h3
    have L02 := L1.trans L2
    refine ⟨w.frz w2, S2, ds, rfl, st2.frz, RepRs.frz (rs := r :: rs) (xs := .ref a :: vs) ⟨R1.le L2, R2.back L1 st1⟩ e2, ?_⟩
    revert h4
    cases f ds S2 with
    | ok r S2 => exact fun h2 w' v L st R => h2 w' v (L02.frz.trans L) st (RepR.called s.le L02 st2 R)
    | ex e S2 => exact fun h2 w' c dd L st R => h2 w' c dd (L02.frz.trans L) st R
    | bad => exact fun h2 => h2
  · intro h1; exact h1.elim
def fMakeX (f : FIn) (fa : FA) : FE := fun σ S => (fa σ S).bd fun rs S1 => onDs rs fun ds => (f ds S1).bd fun d S2 => .ok (.fr d) S2
theorem snd_makeX {C : Str} {f : FIn} {ta : TA} {fa : FA} (ha : SndA K W ta fa) : SndE K W (tMakeX (He.ga K C) (spIn K C f) (WE W.W) ta) (fMakeX f fa) := by
  intro wf w S σd σv Q s h
  refine ha.run (Le.refl w) s h fun rs S1 w1 vs L1 st1 R1 h1 => ?_
  obtain ⟨ds, e, h2⟩ := onDs_of h1
  intro x dx hx hdx hne
  refine ⟨w.frz w1, S1, ds, x, dx, vs, rfl, rfl, hx, hdx, hne, st1.frz, R1.frz e, ?_⟩
  revert h2
  cases f ds S1 with
  | ok d S2 =>
    intro h2 w' L st ⟨a, e1, n, c⟩
    exact ⟨rfl, h2 w' _ (L1.frz.trans L) st ⟨a, e1, L1.none st1 n, c⟩⟩
  | ex e S2 => exact fun h2 w' c dd L st R => h2 w' c dd (L1.frz.trans L) st R
  | bad => exact fun h2 => h2
/-! ### defs that let nothing out -/
def fnOf0 (n k : Nat) (body : FS) : Fn := fun ds S => if ds.length = n then (match body (ds.map (fun d => some (.v d)) ++ List.replicate (k - n) none) S with
  | .nx _ S' => .ok (.v .non) S'
  | .rt r S' => .ok r S'
  | _ => .bad) else .bad
theorem fn_pure0 {n : Nat} {N : List Str} {body : FS} {t : TS} {vs : List V} {H : Hp} {Q : VK} {E : XK} (hb : SndS K ⟨WF, none⟩ t body) (h : spOf K (fnOf0 n N.length body) vs H Q E) : t { nx := fun _ H' => Q .non H', rt := Q } (L2.start N vs) H := by
  obtain ⟨w, S, ds, rfl, st, r, h⟩ := h
  unfold fnOf0 at h
  obtain ⟨hl, h2⟩ := h.ite
  subst hl
  refine hb w w S _ _ _ (sim_start (W := ⟨WF, none⟩) st r) ?_
  revert h2
  cases body (ds.map (fun d => some (.v d)) ++ List.replicate (N.length - ds.length) none) S with
  | nx σ1 S1 => exact fun h2 w' σv' L s' => h2 w' _ s'.le s'.st .non
  | rt r S1 => exact fun h2 w' v L s' R => h2 w' v L s' R
  | bk σ1 S1 => exact fun h2 => h2.elim
  | ct σ1 S1 => exact fun h2 => h2.elim
  | ex e σ1 S1 => exact fun h2 => h2.elim
  | bad => exact fun h2 => h2
theorem fn_len0 {n k : Nat} {body : FS} {vs : List V} {H : Hp} {Q : VK} {E : XK} (h : spOf K (fnOf0 n k body) vs H Q E) : vs.length = n := by
  obtain ⟨w, S, ds, rfl, st, r, h⟩ := h
  unfold fnOf0 at h
  obtain ⟨hl, h2⟩ := h.ite
  rw [r.length, hl]
theorem tab_nil : TabOk K [] := fun C X b e => by simp at e
theorem tab_cons {C X : Str} {b : Bool} {tab : Tab} (h : PySem.W.exmOne K (.ref (He.ga K C)) (.ref (He.ga K X)) = some b) (r : TabOk K tab) : TabOk K (((C, X), b) :: tab) := fun C' X' b' e => by
  rw [List.lookup_cons] at e
  by_cases hc : ((C', X') == (C, X)) = true
  · have e2 : (C', X') = (C, X) := by simpa using hc
    cases e2
    simp at e
    subst e
    exact h
  · have hf : ((C', X') == (C, X)) = false := by simpa using hc
    rw [hf] at e
    exact r C' X' b' e
/-! ### sums, all, any -/
def bools : List Da → Option (List Bool)
  | [] => some []
  | .bl b :: ds => match bools ds with
    | some bs => some (b :: bs)
    | none => none
  | _ => none
theorem bools_of {w : Wd} : ∀ {ds : List Da} {vs : List V} {is : List Bool}, Reps K w ds vs → bools ds = some is → vs = is.map V.bl
  | _, _, is, .nil, e => by simp [bools] at e; subst e; rfl
  | _, _, is, .cons h r, e => by
    cases h with
    | bl i =>
      simp only [bools] at e
      split at e
      · rename_i e2; cases e; rw [bools_of r e2]; rfl
      · cases e
    | _ => simp [bools] at e
def bAll : FB
  | [r], S => match r.rd S with
    | .lst ds => match bools ds with
      | some bs => .ok (.v (.bl (bs.all id))) S
      | none => .bad
    | _ => .bad
  | _, _ => .bad
theorem sAll : CbS K W (rAll K) bAll := by
  intro wf w w2 S σd σv rs vs Q s L R h
  unfold bAll at h
  split at h
  · obtain ⟨v, rfl, R1⟩ := R.one
    split at h
    · rename_i ds e
      split at h
      · rename_i bs e2
        obtain ⟨a, us, rfl, g1, g2⟩ := lstOf s.st R1 e
        have := bools_of g2 e2
        subst this
        exact ⟨a, bs, rfl, SqL.of g1, h w2 _ L s.st (.bl _)⟩
      · exact h.elim
    · exact h.elim
  · exact h.elim
/-! ### texts -/
/-- z.join(xs) -/
def strsD : List Da → Option (List Str)
  | [] => some []
  | .str i :: ds => match strsD ds with
    | some is => some (i :: is)
    | none => none
  | _ => none
theorem strsD_of {w : Wd} : ∀ {ds : List Da} {vs : List V} {is : List Str}, Reps K w ds vs → strsD ds = some is → vs = is.map V.str
  | _, _, is, .nil, e => by simp [strsD] at e; subst e; rfl
  | _, _, is, .cons h r, e => by
    cases h with
    | str i =>
      simp only [strsD] at e
      split at e
      · rename_i e2; cases e; rw [strsD_of r e2]; rfl
      · cases e
    | _ => simp [strsD] at e
/-! ### try .. except X: (no name) -/
/-- a, b = e, f: new objects become the slots' own -/
def Rv.sx : Rv → Option Sx
  | .v d => some (.v d)
  | .fr d => some (.own d false)
  | .bo _ => none
end
end Cl
/-! ## Own -/
namespace Cl
open PySem PySem.Spec PyProof.Rows L2
/-! ## own __eq__, __str__ -/
def rOwnEq (C : Addr) (sp : Sp) : R2 := fun x y H Q => ∃ a b dx dy fs gs, x = .ref a ∧ y = .ref b ∧ H a = some (.ins C dx fs) ∧ H b = some (.ins C dy gs) ∧ sp [x, y] H (fun v H' => ∃ k, v = .bl k ∧ Q v H') E0
section
variable {X : Cx} {n : Nat} {ps : List Str} {sp : Sp} {C : Str}
theorem env_at {pins : List (Addr × Obj)} {σ : L2.St} {H : Hp} {s : Shared} {A : Around} (I : Inv X pins σ H s) (hf : A.frames = X.A.frames) : Env0 X.prog X.w X.K X.mg X.base A X.stack s H := by
  have e := I.env0
  exact ⟨by rw [hf]; exact e.frames, e.mod, e.bs, e.bsz, e.funs, e.frf, e.hok, e.bare⟩
theorem run_own {pins : List (Addr × Obj)} {σ : L2.St} {H : Hp} {s : Shared} {A : Around} {Q : VK} {us : List Value} {vs : List V} {f : Addr} {fd : FuncData} (F : FnOk X.prog X.w X.K X.mg X.base CX0 n f fd ps sp) (hr : Room n A) (hf : A.frames = X.A.frames) (hb : Binds X.K fd ps [])
    (I : Inv X pins σ H s) (r : Vals vs us) (h : sp vs H Q E0) : wpAny (model X.prog X.w) A (call (.ref f) us) (EP X pins σ Q) X.xe s := by
  have hl : us.length = ps.length := by rw [← r.length]; exact F.len _ _ _ _ h
  have b := hb s us I.kIn (by rw [List.append_nil]; exact hl)
  rw [List.append_nil] at b
  refine wpAny_call (codeAny_mono (F.run A X.stack s H ⟨us, []⟩ us vs Q E0 hr (env_at I hf) b r h) fun z s' hq => ?_)
  cases z with
  | error e => exact pass0 pins σ H s e s' I hq
  | ok fl =>
    cases fl with
    | ret u => exact I.after hq
    | next => exact False.elim hq
    | brk => exact False.elim hq
    | cont => exact False.elim hq
theorem op_ownEq (hm : Meth X.K (He.ga X.K C) "__eq__" (He.ma X.K (He.ga X.K C) "__eq__")) (F : FnX X.prog X.w X.K X.mg X.base CX0 n (C, some "__eq__") ps sp) (hr : Room n X.A) : OpR X (compareOp .Eq) (rOwnEq (He.ga X.K C) sp) := by
  obtain ⟨⟨fd, F, hb⟩, kp⟩ := F
  intro pins s σ H x y u v Q I rx ry h
  obtain ⟨a, b, dx, dy, fs, gs, rfl, rfl, ha, hb', hsp⟩ := h
  cases rx
  cases ry
  obtain ⟨mA, J, _⟩ := ins_get I.hok ha
  obtain ⟨mB, J', _⟩ := ins_get I.hok hb'
  obtain ⟨od, J, _⟩ := J.look
  obtain ⟨od', J', _⟩ := J'.look
  obtain ⟨m, hF⟩ := I.fr
  show wpAny (model X.prog X.w) X.A (richCompare .Eq (.ref a) (.ref b)) (EP X pins σ Q) X.xe s
  refine PySem.W.cmp_K (op := .Eq) (tb := .ref (He.ga X.K C)) hr.units0 hF I.ok.mod.kin J J'.type (by simp [PySem.W.notFirst]) hm.at_ hm.fn ?_
  refine thn (run_own (vs := [.ref a, .ref b]) F hr rfl hb I (.cons rfl (.cons rfl .nil)) hsp) fun z s' hz => ?_
  obtain ⟨v, H', I', rv, k, rfl, q⟩ := hz
  cases rv
  exact ⟨.bl k, H', I', rfl, q⟩
end
section
variable {K : PySem.W.Frag} {W : Cw}
def fOwnEq (C : Str) (f : Fn) (fa fb : FE) : FE := fun σ S => (fa σ S).bd fun r1 S1 => (fb σ S1).bd fun r2 S2 => match r1.rd S2, r2.rd S2 with
  | .obj C1 _ _, .obj C2 _ _ => if C1 = C ∧ C2 = C then onDs [r1, r2] fun ds => (f ds S2).noX.bd fun r S3 => onB r fun b => .ok (.v (.bl b)) S3 else .bad
  | _, _ => .bad
theorem snd_ownEq {C : Str} {f : Fn} {ta tb : TE} {fa fb : FE} (ha : SndE K W ta fa) (hb : SndE K W tb fb) : SndE K W (tOp (rOwnEq (He.ga K C) (spOf K f)) ta tb) (fOwnEq C f fa fb) := by
  intro wf w S σd σv Q s h
  refine ha.run (Le.refl w) s h fun r1 S1 w1 v1 L1 st1 R1 h1 => hb.run L1 (s.step L1 st1) h1 fun r2 S2 w2 v2 L2 st2 R2 h2 => ?_
  have L02 := L1.trans L2
  have R1' := R1.le L2
  have R2' := R2.back L1 st1
  revert h2
  split
  · rename_i C1 ns1 ds1 C2 ns2 ds2 e1 e2
    intro h2
    obtain ⟨⟨rfl, rfl⟩, h3⟩ := h2.ite
    obtain ⟨a, dx, fs, rfl, g1, _⟩ := objOf st2 R1' e1
    obtain ⟨b, dy, gs, rfl, k1, _⟩ := objOf st2 R2' e2
    obtain ⟨ds, e3, h4⟩ := onDs_of h3
    refine ⟨a, b, dx, dy, fs, gs, rfl, rfl, g1, k1, w.frz w2, S2, ds, rfl, st2.frz, RepRs.frz (rs := [r1, r2]) (xs := [.ref a, .ref b]) ⟨R1', R2', True.intro⟩ e3, ?_⟩
    revert h4
    cases f ds S2 with
    | ex e S2 => exact fun h2 => h2.elim
    | bad => exact fun h2 => h2
    | ok r S3 =>
      intro h4 w' v L st R
      obtain ⟨k, rfl, h5⟩ := onB_of R h4
      exact ⟨k, rfl, h5 w' _ (L02.frz.trans L) st (.bl _)⟩
  · intro h2; exact h2.elim
/-- isinstance(x, C), x an object of C -/
def fIsC (C : Str) (fe : FE) : FE := fun σ S => (fe σ S).bd fun r S1 => match r.rd S1 with
  | .obj C1 _ _ => if C1 = C then .ok (.v (.bl true)) S1 else .bad
  | _ => .bad
theorem snd_isC {C : Str} {te : TE} {fe : FE} (cl : Cls K (He.ga K C)) (i : IsC K (He.ga K C)) (hk : PySem.W.kitOne K (.ref (He.ga K C)) (.ref (He.ga K C)) = some true) (he : SndE K W te fe) : SndE K W (tCB (rIsi K) (tCons te (tCons (tC (.ref (He.ga K C))) tNil))) (fIsC C fe) := by
  intro wf w S σd σv Q s h
  refine he.run (Le.refl w) s h fun r S1 w1 v L1 st1 R1 h1 => ?_
  revert h1
  split
  · rename_i C1 ns ds e
    intro h1
    obtain ⟨rfl, h2⟩ := h1.ite
    obtain ⟨a, dx, fs, rfl, g1, _⟩ := objOf st1 R1 e
    exact ⟨.ref a, .ref (He.ga K C1), .ref (He.ga K C1), .ref (He.ga K C1), true, rfl, .own _, .base (.ins g1 cl i.ha i.hn i.ht i.hm), hk, h2 w1 _ L1 st1 (.bl _)⟩
  · intro h1; exact h1.elim
end
end Cl
/-! ## Fun9 -/
namespace Cl
open PySem PySem.Spec PyProof.Rows L2
/-! ## a slot's own list lent to a call: what comes back holds no list -/
mutual
def Da.noL : Da → Bool
  | .lst _ => false
  | .frl _ => false
  | .tup ds => noLs ds
  | .tupN ds => noLs ds
  | .obj _ _ ds => noLs ds
  | .dic _ ds => noLs ds
  | .dct _ ds => noLs ds
  | _ => true
def noLs : List Da → Bool
  | [] => true
  | d :: ds => d.noL && noLs ds
end
/-- an object's parts hold no list -/
def Da.noLc : Da → Bool
  | .lst ds => noLs ds
  | .obj _ _ ds => noLs ds
  | .dic _ ds => noLs ds
  | .dct _ ds => noLs ds
  | _ => false
def stoNoL : Sto → Bool
  | [] => true
  | d :: S => d.noLc && stoNoL S
theorem stoNoL_at : ∀ {S : Sto} {n : Nat} {d : Da}, stoNoL S = true → S[n]? = some d → d.noLc = true
  | [], n, d, _, e => by simp at e
  | x :: S, 0, d, h, e => by simp at e; subst e; simp only [stoNoL, Bool.and_eq_true] at h; exact h.1
  | x :: S, n + 1, d, h, e => by simp only [stoNoL, Bool.and_eq_true] at h; exact stoNoL_at h.2 (by simpa using e)
section
variable {K : PySem.W.Frag} {W : Cw} {wf w w1 w2 : Wd} {S S1 S2 : Sto} {σd : Env} {σv : L2.St}
/-- some lists are taken back -/
def Wd.back (w : Wd) (B : Addr → Prop) : Wd := { w with ow := fun b => w.ow b ∨ B b }
theorem rep_back {B : Addr → Prop} (hB : ∀ a, B a → ∃ vs, w.H a = some (.lst vs)) {d : Da} {v : V} (h : Rep K w d v) (hn : d.noL = true) : Rep K (w.back B) d v := by
  have nb : ∀ {a : Addr} {o : HO}, w.H a = some o → (∀ vs, o ≠ .lst vs) → w.fz a → (w.back B).fz a := fun e ho f => ⟨f.1, fun z => z.elim f.2 fun z => by
    obtain ⟨vs, e2⟩ := hB _ z
    rw [e] at e2; exact ho vs (Option.some.inj e2)⟩
  revert hn
  refine @Rep.rec K w (fun d v _ => d.noL = true → Rep K (w.back B) d v) (fun ds vs _ => noLs ds = true → Reps K (w.back B) ds vs) (fun _ => .non) (fun b _ => .bl b) (fun i _ => .int i) (fun s _ => .str s) ?_ ?_ ?_ ?_ ?_ ?_ ?_ ?_ (fun _ => .nil) ?_ d v h
  · intro a vs ds f _ ih hn
    simp only [Da.noL] at hn
    refine .tup ?_ (ih hn)
    rcases f with ⟨e | ⟨u, e⟩, f⟩ | f
    · exact .inl ⟨.inl e, nb e (by intro vs z; cases z) f⟩
    · exact .inl ⟨.inr ⟨u, e⟩, nb e (by intro vs z; cases z) f⟩
    · exact .inr f
  · intro a vs ds e f _ ih hn; simp [Da.noL] at hn
  · intro a ns f hn; simp [Da.noL] at hn
  · intro a dx C fs ns ds e f en _ ih hn
    simp only [Da.noL] at hn
    exact .obj e (nb e (by intro vs z; cases z) f) en (ih hn)
  · intro a kvs ks ds e f en _ ih hn
    simp only [Da.noL] at hn
    exact .dic e (nb e (by intro vs z; cases z) f) en (ih hn)
  · intro a kvs ks ds e f en _ ih hn
    simp only [Da.noL] at hn
    exact .dct e (nb e (by intro vs z; cases z) f) en (ih hn)
  · intro a n e hn
    exact .cell e
  · intro a o vs ds e hc hd f _ ih hn
    simp only [Da.noL] at hn
    exact .tupN e hc hd (nb e (by intro vs z; cases z) f) (ih hn)
  · intro d v ds vs _ _ i1 i2 hn
    simp only [noLs, Bool.and_eq_true] at hn
    exact .cons (i1 hn.1) (i2 hn.2)
theorem reps_back {B : Addr → Prop} (hB : ∀ a, B a → ∃ vs, w.H a = some (.lst vs)) : ∀ {ds : List Da} {vs : List V}, Reps K w ds vs → noLs ds = true → Reps K (w.back B) ds vs
  | _, _, .nil, _ => .nil
  | _, _, .cons h r, hn => by
    simp only [noLs, Bool.and_eq_true] at hn
    exact .cons (rep_back hB h hn.1) (reps_back hB r hn.2)
theorem con_back {B : Addr → Prop} (hB : ∀ a, B a → ∃ vs, w.H a = some (.lst vs)) {a : Addr} {d : Da} (h : ConR K w a d) (hn : d.noLc = true) : ConR K (w.back B) a d := by
  cases d with
  | lst ds => obtain ⟨vs, e, r⟩ := h; exact ⟨vs, e, reps_back hB r hn⟩
  | obj C ns ds => obtain ⟨dx, fs, e, en, r⟩ := h; exact ⟨dx, fs, e, en, reps_back hB r hn⟩
  | dic ks ds => obtain ⟨kvs, e, en, r⟩ := h; exact ⟨kvs, e, en, reps_back hB r hn⟩
  | dct ks ds => obtain ⟨kvs, e, en, r⟩ := h; exact ⟨kvs, e, en, reps_back hB r hn⟩
  | _ => exact h.elim
/-- while the lists of B are lent, all else that came since w is frozen -/
def Wd.lend (w w1 : Wd) (B : Addr → Prop) : Wd := { H := w1.H, m := w1.m, ow := fun a => w1.ow a ∧ w.H a ≠ none ∧ ¬ B a, x := w.x }
theorem lf_lend {B : Addr → Prop} : Lf w1 (w.lend w1 B) := ⟨List.prefix_refl _, fun _ _ e f => ⟨e, f.1, fun z => f.2 z.1⟩⟩
theorem sto_lend {B : Addr → Prop} (st : StoR K w1 S1) : StoR K (w.lend w1 B) S1 := ⟨st.len, st.nd, fun n a d e1 e2 => (st.at_ n a d e1 e2).lf lf_lend fun _ e => e, fun a z => st.own a z.1, fun a ha z => st.sep a ha z.1⟩
structure Lent (w w1 : Wd) (B : Addr → Prop) : Prop where
  lst : ∀ a, B a → ∃ vs, w1.H a = some (.lst vs)
  own : ∀ a, B a → w1.ow a
  nm : ∀ a, B a → a ∉ w1.m
  old : ∀ a, B a → w.H a ≠ none
theorem lent_lst {B : Addr → Prop} (hB : Lent w w1 B) (L : Le (w.lend w1 B) w2) : ∀ a, B a → ∃ vs, w2.H a = some (.lst vs) := fun a h => by
  obtain ⟨vs, e⟩ := hB.lst a h
  exact ⟨vs, (L.kp a _ e (hB.nm a h)).1⟩
theorem le_back {B : Addr → Prop} (hB : Lent w w1 B) (L1 : Le w w1) (L : Le (w.lend w1 B) w2) : Le w (w2.back B) := ⟨L1.pre.trans L.pre, fun a o e n => by
  obtain ⟨e1, n1, i1⟩ := L1.kp a o e n
  obtain ⟨e2, n2, i2⟩ := L.kp a o e1 n1
  refine ⟨e2, n2, ?_⟩
  show w2.ow a ∨ B a ↔ w.ow a
  constructor
  · intro z
    rcases z with z | z
    · exact i1.mp (i2.mp z).1
    · exact i1.mp (hB.own a z)
  · intro z
    by_cases hb : B a
    · exact .inr hb
    · exact .inl (i2.mpr ⟨i1.mpr z, by rw [e]; simp, hb⟩)⟩
theorem sto_back {B : Addr → Prop} (hB : Lent w w1 B) (L : Le (w.lend w1 B) w2) (st : StoR K w2 S2) (hn : stoNoL S2 = true) : StoR K (w2.back B) S2 := by
  have hl := lent_lst hB L
  refine ⟨st.len, st.nd, fun n a d e1 e2 => con_back hl (st.at_ n a d e1 e2) (stoNoL_at hn e2), fun a z => ?_, fun a ha z => ?_⟩
  · rcases z with z | z
    · exact st.own a z
    · obtain ⟨vs, e⟩ := hl a z
      show w2.H a ≠ none
      rw [e]; simp
  · rcases z with z | z
    · exact st.sep a ha z
    · obtain ⟨vs, e⟩ := hB.lst a z
      exact (L.kp a _ e (hB.nm a z)).2.1 ha
def Rv.noL : Rv → Bool
  | .v d => d.noL
  | .fr d => d.noLc
  | .bo _ => false
theorem ret_back {B : Addr → Prop} (hB : Lent w w1 B) (L0 : Le wf w) (L1 : Le w w1) (st1 : StoR K w1 S1) (L : Le (w.lend w1 B) w2) {r : Rv} {v : V} (R : RepR K (w.lend w1 B) (w.lend w1 B) w2 r v) (hn : r.noL = true) : RepR K wf w (w2.back B) r v := by
  have hl := lent_lst hB L
  cases r with
  | v d => exact rep_back hl R hn
  | fr d =>
    obtain ⟨a, e, n, c, ow, nm⟩ := R
    exact ⟨a, e, L1.none st1 n, con_back hl c hn, .inl ow, nm⟩
  | bo d => cases hn
/-! ### arguments, lent where they are a slot's own list -/
def lendD : Rv → Option Da
  | .v d => some d
  | .fr d => some d
  | .bo (.lst ds) => some (.lst ds)
  | _ => none
def lendDs : List Rv → Option (List Da)
  | [] => some []
  | r :: rs => match lendD r, lendDs rs with
    | some d, some ds => some (d :: ds)
    | _, _ => none
/-- the places of the lent lists -/
def lentAt (w : Wd) : List Rv → List V → Addr → Prop
  | .bo _ :: rs, v :: vs, a => (v = .ref a ∧ w.H a ≠ none) ∨ lentAt w rs vs a
  | _ :: rs, _ :: vs, a => lentAt w rs vs a
  | _, _, _ => False
theorem lent_of : ∀ {rs : List Rv} {vs : List V} {ds : List Da}, RepRs K wf w w1 rs vs → lendDs rs = some ds → Lent w w1 (lentAt w rs vs)
  | [], [], _, _, _ => ⟨fun a h => h.elim, fun a h => h.elim, fun a h => h.elim, fun a h => h.elim⟩
  | r :: rs, v :: vs, ds, h, e => by
    simp only [lendDs] at e
    split at e
    · rename_i d ds' e1 e2
      have ih := lent_of h.2 e2
      cases r with
      | v d => exact ih
      | fr d => exact ih
      | bo d =>
        cases d with
        | lst xs =>
          obtain ⟨a0, ev, n, ⟨us, c1, c2⟩, ow, nm⟩ := h.1
          refine ⟨fun a z => ?_, fun a z => ?_, fun a z => ?_, fun a z => ?_⟩
          · rcases z with ⟨z, _⟩ | z
            · rw [ev] at z; cases z; exact ⟨us, c1⟩
            · exact ih.lst a z
          · rcases z with ⟨z, _⟩ | z
            · rw [ev] at z; cases z; exact ow
            · exact ih.own a z
          · rcases z with ⟨z, _⟩ | z
            · rw [ev] at z; cases z; exact nm
            · exact ih.nm a z
          · rcases z with ⟨_, z⟩ | z
            · exact z
            · exact ih.old a z
        | _ => cases e1
    · cases e
  | [], _ :: _, _, h, _ => h.elim
  | _ :: _, [], _, h, _ => h.elim
theorem lend_reps {B : Addr → Prop} : ∀ {rs : List Rv} {vs : List V} {ds : List Da}, RepRs K wf w w1 rs vs → lendDs rs = some ds → (∀ a, lentAt w rs vs a → B a) → Reps K (w.lend w1 B) ds vs
  | [], [], _, _, e, _ => by cases e; exact .nil
  | r :: rs, v :: vs, ds, h, e, hB => by
    simp only [lendDs] at e
    split at e
    · rename_i d ds' e1 e2
      cases e
      cases r with
      | v d =>
        cases e1
        exact .cons (Rep.lf lf_lend h.1) (lend_reps h.2 e2 hB)
      | fr d =>
        cases e1
        obtain ⟨a, rfl, n, c, ow, nm⟩ := h.1
        exact .cons ((c.lf lf_lend fun _ e => e).rep ⟨nm, fun z => z.2.1 n⟩) (lend_reps h.2 e2 hB)
      | bo d =>
        cases d with
        | lst xs =>
          cases e1
          obtain ⟨a, rfl, n, c, ow, nm⟩ := h.1
          refine .cons ((c.lf lf_lend fun _ e => e).rep ⟨nm, fun z => z.2.2 (hB a (.inl ⟨rfl, z.2.1⟩))⟩) (lend_reps h.2 e2 fun a z => hB a (.inr z))
        | _ => cases e1
    · cases e
  | [], _ :: _, _, h, _, _ => h.elim
  | _ :: _, [], _, h, _, _ => h.elim
def exnNoL (e : Exn) : Bool := noLs e.ds
def chkL : Ev Rv → Ev Rv
  | .ok r S => if r.noL = true ∧ stoNoL S = true then .ok r S else .bad
  | .ex e S => if exnNoL e = true ∧ stoNoL S = true then .ex e S else .bad
  | .bad => .bad
def chkI : Ev Da → Ev Da
  | .ok d S => if d.noLc = true ∧ stoNoL S = true then .ok d S else .bad
  | .ex e S => if exnNoL e = true ∧ stoNoL S = true then .ex e S else .bad
  | .bad => .bad
def onLs {α : Type} (rs : List Rv) (f : List Da → Ev α) : Ev α := match lendDs rs with
  | some ds => f ds
  | none => .bad
theorem onLs_of {α : Type} {rs : List Rv} {f : List Da → Ev α} {P : α → Sto → Prop} {X : Exn → Sto → Prop} (h : Po P X (onLs rs f)) : ∃ ds, lendDs rs = some ds ∧ Po P X (f ds) := by
  unfold onLs at h
  cases e : lendDs rs with
  | none => rw [e] at h; exact h.elim
  | some ds => rw [e] at h; exact ⟨ds, rfl, h⟩
/-- f(..) -/
def fCallL (f : Fn) (fa : FA) : FE := fun σ S => (fa σ S).bd fun rs S1 => onLs rs fun ds => (chkL (f ds S1)).noX
theorem snd_callL {f : Fn} {ta : TA} {fa : FA} {E : XK} (ha : SndA K W ta fa) : SndE K W (tCall (spOf K f) [] E ta) (fCallL f fa) := by
  intro wf w S σd σv Q s h
  refine ha.run (Le.refl w) s h fun rs S1 w1 vs L1 st1 R1 h1 => ?_
  obtain ⟨ds, e, h2⟩ := onLs_of h1
  have hB := lent_of R1 e
  refine ⟨w.lend w1 (lentAt w rs vs), S1, ds, rfl, sto_lend st1, by rw [List.append_nil]; exact lend_reps R1 e fun a z => z, ?_⟩
  revert h2
  cases f ds S1 with
  | ok r S2 =>
    intro h2 w' v L st R
    have h3 : PostE K W wf w σv Q (Ev.noX (if r.noL = true ∧ stoNoL S2 = true then .ok r S2 else .bad)) := h2
    by_cases hc : r.noL = true ∧ stoNoL S2 = true
    · rw [if_pos hc] at h3
      exact h3 (w'.back (lentAt w rs vs)) v (le_back hB L1 L) (sto_back hB L st hc.2) (ret_back hB s.le L1 st1 L R hc.1)
    · rw [if_neg hc] at h3; exact h3.elim
  | ex e S2 =>
    intro h2
    have h3 : PostE K W wf w σv Q (Ev.noX (if exnNoL e = true ∧ stoNoL S2 = true then .ex e S2 else .bad)) := h2
    by_cases hc : exnNoL e = true ∧ stoNoL S2 = true
    · rw [if_pos hc] at h3; exact h3.elim
    · rw [if_neg hc] at h3; exact h3.elim
  | bad => exact fun h2 => h2
end
end Cl
/-! ## Dic -/
namespace Cl
open PySem PySem.Spec PyProof.Rows L2
/-! ## dicts -/
def Da.key : Da → Option Key
  | .int i => some (.inl i)
  | .str s => some (.inr s)
  | _ => none
section
variable {K : PySem.W.Frag} {W : Cw} {wf w w1 w2 : Wd} {S S1 : Sto} {σd : Env} {σv : L2.St} {D : Ends}
def onK {α : Type} (r : Rv) (f : Key → Ev α) : Ev α := match r with
  | .v d => match d.key with
    | some k => f k
    | none => .bad
  | _ => .bad
end
end Cl
/-! ## Fun10 -/
namespace Cl
open PySem PySem.Spec PyProof.Rows L2
/-! ## a slot's own object lent to a test: what comes back is True or False, the pools are flat -/
mutual
def Da.flat : Da → Bool
  | .lst _ => false
  | .frl _ => false
  | .obj _ _ _ => false
  | .dic _ _ => false
  | .dct _ _ => false
  | .tup ds => flats ds
  | .tupN ds => flats ds
  | _ => true
def flats : List Da → Bool
  | [] => true
  | d :: ds => d.flat && flats ds
end
def Da.flatC : Da → Bool
  | .lst ds => flats ds
  | .obj _ _ ds => flats ds
  | .dic _ ds => flats ds
  | .dct _ ds => flats ds
  | _ => false
def stoFlat : Sto → Bool
  | [] => true
  | d :: S => d.flatC && stoFlat S
theorem stoFlat_at : ∀ {S : Sto} {n : Nat} {d : Da}, stoFlat S = true → S[n]? = some d → d.flatC = true
  | [], n, d, _, e => by simp at e
  | x :: S, 0, d, h, e => by simp at e; subst e; simp only [stoFlat, Bool.and_eq_true] at h; exact h.1
  | x :: S, n + 1, d, h, e => by simp only [stoFlat, Bool.and_eq_true] at h; exact stoFlat_at h.2 (by simpa using e)
section
variable {K : PySem.W.Frag} {W : Cw} {wf w w1 w2 : Wd} {S S1 S2 : Sto} {σd : Env} {σv : L2.St}
theorem rep_backF {B : Addr → Prop} (hB : ∀ a, B a → ∃ o, w.H a = some o ∧ (∀ vs, Rd w.H a (.tup vs) → False)) {d : Da} {v : V} (h : Rep K w d v) (hn : d.flat = true) : Rep K (w.back B) d v := by
  revert hn
  refine @Rep.rec K w (fun d v _ => d.flat = true → Rep K (w.back B) d v) (fun ds vs _ => flats ds = true → Reps K (w.back B) ds vs) (fun _ => .non) (fun b _ => .bl b) (fun i _ => .int i) (fun s _ => .str s) ?_ ?_ ?_ ?_ ?_ ?_ ?_ ?_ (fun _ => .nil) ?_ d v h
  · intro a vs ds f _ ih hn
    simp only [Da.flat] at hn
    refine .tup ?_ (ih hn)
    rcases f with ⟨e, f⟩ | f
    · exact .inl ⟨e, f.1, fun z => z.elim f.2 fun z => (by
        obtain ⟨o, e2, h2⟩ := hB _ z
        exact h2 _ e)⟩
    · exact .inr f
  · intro a vs ds e f _ ih hn; simp [Da.flat] at hn
  · intro a ns f hn; simp [Da.flat] at hn
  · intro a dx C fs ns ds e f en _ ih hn; simp [Da.flat] at hn
  · intro a kvs ks ds e f en _ ih hn; simp [Da.flat] at hn
  · intro a kvs ks ds e f en _ ih hn; simp [Da.flat] at hn
  · intro a n e hn
    exact .cell e
  · intro a o vs ds e hc hd f _ ih hn
    simp only [Da.flat] at hn
    exact .tupN e hc hd ⟨f.1, fun z => z.elim f.2 fun z => (by
      obtain ⟨o2, e2, h2⟩ := hB _ z
      exact h2 _ (.inr ⟨_, e⟩))⟩ (ih hn)
  · intro d v ds vs _ _ i1 i2 hn
    simp only [flats, Bool.and_eq_true] at hn
    exact .cons (i1 hn.1) (i2 hn.2)
theorem reps_backF {B : Addr → Prop} (hB : ∀ a, B a → ∃ o, w.H a = some o ∧ (∀ vs, Rd w.H a (.tup vs) → False)) : ∀ {ds : List Da} {vs : List V}, Reps K w ds vs → flats ds = true → Reps K (w.back B) ds vs
  | _, _, .nil, _ => .nil
  | _, _, .cons h r, hn => by
    simp only [flats, Bool.and_eq_true] at hn
    exact .cons (rep_backF hB h hn.1) (reps_backF hB r hn.2)
theorem con_backF {B : Addr → Prop} (hB : ∀ a, B a → ∃ o, w.H a = some o ∧ (∀ vs, Rd w.H a (.tup vs) → False)) {a : Addr} {d : Da} (h : ConR K w a d) (hn : d.flatC = true) : ConR K (w.back B) a d := by
  cases d with
  | lst ds => obtain ⟨vs, e, r⟩ := h; exact ⟨vs, e, reps_backF hB r hn⟩
  | obj C ns ds => obtain ⟨dx, fs, e, en, r⟩ := h; exact ⟨dx, fs, e, en, reps_backF hB r hn⟩
  | dic ks ds => obtain ⟨kvs, e, en, r⟩ := h; exact ⟨kvs, e, en, reps_backF hB r hn⟩
  | dct ks ds => obtain ⟨kvs, e, en, r⟩ := h; exact ⟨kvs, e, en, reps_backF hB r hn⟩
  | _ => exact h.elim
/-- the world in which the object at a is frozen -/
abbrev Wd.one (w : Wd) (a : Addr) : Wd := w.lend w fun b => b = a
theorem con_rd {a : Addr} {d : Da} (h : ConR K w a d) (vs : List V) : ¬ Rd w.H a (.tup vs) := by
  intro z
  cases d with
  | lst ds => obtain ⟨us, e, r⟩ := h; rcases z with z | ⟨u, z⟩ <;> (rw [e] at z; cases z)
  | obj C ns ds => obtain ⟨dx, fs, e, en, r⟩ := h; rcases z with z | ⟨u, z⟩ <;> (rw [e] at z; cases z)
  | dic ks ds => obtain ⟨kvs, e, en, r⟩ := h; rcases z with z | ⟨u, z⟩ <;> (rw [e] at z; cases z)
  | dct ks ds => obtain ⟨kvs, e, en, r⟩ := h; rcases z with z | ⟨u, z⟩ <;> (rw [e] at z; cases z)
  | _ => exact h.elim
theorem le_one {a : Addr} (ow : w.ow a) (L : Le (w.one a) w2) : Le w (w2.back fun b => b = a) := ⟨L.pre, fun b o e n => by
  obtain ⟨e2, n2, i2⟩ := L.kp b o e n
  refine ⟨e2, n2, ?_⟩
  show w2.ow b ∨ b = a ↔ w.ow b
  constructor
  · intro z
    rcases z with z | z
    · exact (i2.mp z).1
    · exact z ▸ ow
  · intro z
    by_cases hb : b = a
    · exact .inr hb
    · exact .inl (i2.mpr ⟨z, by rw [e]; simp, hb⟩)⟩
theorem sto_one {a : Addr} {d : Da} (c : ConR K w a d) (nm : a ∉ w.m) (L : Le (w.one a) w2) (st : StoR K w2 S2) (hn : stoFlat S2 = true) : StoR K (w2.back fun b => b = a) S2 := by
  obtain ⟨o, eo⟩ := c.some
  have k := L.kp a o eo nm
  have hB : ∀ b, b = a → ∃ o, w2.H b = some o ∧ (∀ vs, Rd w2.H b (.tup vs) → False) := fun b hb => by
    subst hb
    refine ⟨o, k.1, fun vs z => con_rd c vs ?_⟩
    rcases z with z | ⟨u, z⟩
    · rw [k.1] at z; exact .inl (by rw [eo]; exact z)
    · rw [k.1] at z; exact .inr ⟨u, by rw [eo]; exact z⟩
  refine ⟨st.len, st.nd, fun n b d e1 e2 => con_backF hB (st.at_ n b d e1 e2) (stoFlat_at hn e2), fun b z => ?_, fun b hb z => ?_⟩
  · rcases z with z | z
    · exact st.own b z
    · obtain ⟨o, e, _⟩ := hB b z
      show w2.H b ≠ none
      rw [e]; simp
  · rcases z with z | z
    · exact st.sep b hb z
    · subst z
      exact k.2.1 hb
theorem Sim.one {i : Nat} {d : Da} {b : Bool} (s : Sim K W wf w S σd σv) (e : σd[i]? = some (some (.own d b))) : ∃ a, ConR K w a d ∧ a ∉ w.m ∧ w.ow a ∧ Sim K W wf (w.one a) S (σd.set i (some (.v d))) σv := by
  obtain ⟨v0, ev, ⟨a, rfl, n, c, ow, nm⟩, _⟩ := s.sl i _ e
  refine ⟨a, c, nm, ow, ⟨s.le.pre, fun a' o e' n' => ?_⟩, sto_lend s.st, by rw [List.length_set]; exact s.ln, fun j x ej => ?_, fun j k d1 d2 s1 s2 a' ne e1 e2 e3 => ?_, fun a' d' e' h => ?_⟩
  · obtain ⟨e1, n1, i1⟩ := s.le.kp a' o e' n'
    refine ⟨e1, n1, ?_⟩
    show w.ow a' ∧ w.H a' ≠ none ∧ ¬ a' = a ↔ wf.ow a'
    exact ⟨fun z => i1.mp z.1, fun z => ⟨i1.mpr z, by rw [e1]; simp, fun z2 => by rw [z2, n] at e'; cases e'⟩⟩
  · by_cases hj : i = j
    · subst hj
      rw [List.getElem?_set_self (by exact (List.getElem?_eq_some_iff.mp e).1)] at ej
      cases ej
      exact ⟨_, ev, (c.lf lf_lend fun _ e => e).rep ⟨nm, fun z => z.2.2 rfl⟩⟩
    · rw [List.getElem?_set_ne hj] at ej
      obtain ⟨v, e1, r⟩ := s.sl j x ej
      refine ⟨v, e1, ?_⟩
      cases x with
      | v d' => exact Rep.lf lf_lend r
      | own d' s' =>
        obtain ⟨⟨a', rfl, n', c', ow', nm'⟩, r2⟩ := r
        refine ⟨⟨a', rfl, n', c'.lf lf_lend fun _ e => e, ⟨ow', ?_, fun z => ?_⟩, nm'⟩, r2⟩
        · obtain ⟨o, eo⟩ := c'.some
          rw [eo]; simp
        · subst z
          exact s.dj i j d d' b s' _ hj e ej ev e1
      | exn => exact True.intro
  · have h1 : i ≠ j := fun z => by
      subst z
      rw [List.getElem?_set_self (by exact (List.getElem?_eq_some_iff.mp e).1)] at e1
      cases e1
    have h2 : i ≠ k := fun z => by
      subst z
      rw [List.getElem?_set_self (by exact (List.getElem?_eq_some_iff.mp e).1)] at e2
      cases e2
    rw [List.getElem?_set_ne h1] at e1
    rw [List.getElem?_set_ne h2] at e2
    exact s.dj j k d1 d2 s1 s2 a' ne e1 e2 e3
  · obtain ⟨h1, h2⟩ := s.cx a' d' e' h
    refine ⟨h1.lf lf_lend, fun j ej => ?_⟩
    by_cases hj : i = j
    · subst hj
      rw [List.getElem?_set_self (by exact (List.getElem?_eq_some_iff.mp e).1)] at ej
      cases ej
    · rw [List.getElem?_set_ne hj] at ej
      exact h2 j ej
def chkT : Ev Bool → Ev Bool
  | .ok r S => if stoFlat S = true then .ok r S else .bad
  | _ => .bad
end
end Cl
/-! ## Own2 -/
namespace Cl
open PySem PySem.Spec PyProof.Rows L2
/-! ## own __len__ -/
def rLenO (C : Addr) (sp : Sp) : List V → Hp → VK → Prop := fun xs H Q => ∃ a dx fs, xs = [.ref a] ∧ H a = some (.ins C dx fs) ∧ sp [.ref a] H (fun v H' => ∃ i : Int, v = .int i ∧ (0 ≤ i ∧ i < 2 ^ 63) ∧ Q v H') E0
section
variable {X : Cx} {n : Nat} {ps : List Str} {sp : Sp} {C : Str}
theorem cl_lenO (hm : Meth X.K (He.ga X.K C) "__len__" (He.ma X.K (He.ga X.K C) "__len__")) (F : FnX X.prog X.w X.K X.mg X.base CX0 n (C, some "__len__") ps sp) (hr : Room (n + 1) X.A) : CallR X (.builtin "len") (rLenO (He.ga X.K C) sp) := by
  obtain ⟨⟨fd, F, hb⟩, kp⟩ := F
  intro pins s σ H xs us Q I r h
  obtain ⟨a, dx, fs, rfl, ha, hsp⟩ := h
  cases r with
  | cons rx rr =>
    cases rr
    cases rx
    obtain ⟨mA, J, _⟩ := ins_get I.hok ha
    obtain ⟨od, J, _⟩ := J.look
    obtain ⟨m, hF⟩ := I.fr
    have hr2 : Room n X.A.in1 := hr.in1
    refine PySem.W.len_K hF I.ok.mod.kin J hm.at_ hm.fn ?_
    refine thn (run_own (A := X.A.in1) (vs := [.ref a]) F hr2 rfl hb I (.cons rfl .nil) hsp) fun z s' hz => ?_
    obtain ⟨v, H', I', rv, i, rfl, hi, q⟩ := hz
    obtain ⟨t, rfl⟩ := rv
    exact ⟨hi, .int i, H', I'.tok _, ⟨_, rfl⟩, q⟩
end
section
variable {K : PySem.W.Frag} {W : Cw}
def onLen (r : Rv) (S : Sto) : Ev Rv := match r with
  | .v (.int i) => if 0 ≤ i ∧ i < 9223372036854775808 then .ok (.v (.int i)) S else .bad
  | _ => .bad
def fLenO (C : Str) (f : Fn) (fe : FE) : FE := fun σ S => (fe σ S).bd fun r S1 => match r.rd S1 with
  | .obj C1 _ _ => if C1 = C then onDs [r] fun ds => (f ds S1).noX.bd onLen else .bad
  | _ => .bad
theorem snd_lenO {C : Str} {f : Fn} {te : TE} {fe : FE} (he : SndE K W te fe) : SndE K W (tCB (rLenO (He.ga K C) (spOf K f)) (tCons te tNil)) (fLenO C f fe) := by
  intro wf w S σd σv Q s h
  refine he.run (Le.refl w) s h fun r1 S1 w1 v1 L1 st1 R1 h1 => ?_
  revert h1
  split
  · rename_i C1 ns1 ds1 e1
    intro h2
    obtain ⟨rfl, h3⟩ := h2.ite
    obtain ⟨a, dx, fs, rfl, g1, _⟩ := objOf st1 R1 e1
    obtain ⟨ds, e3, h4⟩ := onDs_of h3
    refine ⟨a, dx, fs, rfl, g1, w.frz w1, S1, ds, rfl, st1.frz, RepRs.frz (rs := [r1]) (xs := [.ref a]) ⟨R1, True.intro⟩ e3, ?_⟩
    revert h4
    cases f ds S1 with
    | ex e S2 => exact fun h2 => h2.elim
    | bad => exact fun h2 => h2
    | ok r S3 =>
      intro h4 w' v L st R
      have h5 : PostE K W wf w σv Q (onLen r S3) := h4
      unfold onLen at h5
      split at h5
      · rename_i i
        cases R
        by_cases hc : 0 ≤ i ∧ i < 9223372036854775808
        · rw [if_pos hc] at h5
          exact ⟨i, rfl, ⟨hc.1, hc.2⟩, h5 w' _ (L1.frz.trans L) st (.int _)⟩
        · rw [if_neg hc] at h5; exact h5.elim
      · exact h5.elim
  · intro h2; exact h2.elim
end
end Cl
/-! ## Fun11 -/
namespace Cl
open PySem PySem.Spec PyProof.Rows L2
/-! ## a list or a tuple, walked -/
section
variable {K : PySem.W.Frag} {W : Cw}
/-! ## z.upper() -/
/-! ## xs.index(z), texts -/
def idxS (z : Str) : List Str → Option Nat
  | [] => none
  | y :: ys => if y = z then some 0 else (idxS z ys).map (· + 1)
theorem idxS_of {z : Str} : ∀ {ys : List Str} {j : Nat}, idxS z ys = some j → ys[j]? = some z ∧ ∀ m, m < j → ys[m]? ≠ some z
  | [], j, h => by simp [idxS] at h
  | y :: ys, j, h => by
    unfold idxS at h
    by_cases hy : y = z
    · rw [if_pos hy] at h
      cases h
      exact ⟨by rw [hy]; rfl, fun m hm => by omega⟩
    · rw [if_neg hy] at h
      cases e : idxS z ys with
      | none => rw [e] at h; cases h
      | some k =>
        rw [e, Option.map_some, Option.some.injEq] at h
        subst h
        obtain ⟨h1, h2⟩ := idxS_of e
        refine ⟨by simpa using h1, fun m hm => ?_⟩
        cases m with
        | zero => simpa using hy
        | succ m => simpa using h2 m (by omega)
/-! ## a tuple of texts, a constant of the module -/
def rIdxT (K : PySem.W.Frag) : V → List V → Hp → VK → Prop := fun x xs H Q => ∃ p, ∃ ys : List Str, ∃ z j, x = .ref p ∧ xs = [.str z] ∧ SqT K H p (ys.map V.str) ∧ ys[j]? = some z ∧ (∀ m, m < j → ys[m]? ≠ some z) ∧ Q (.int (j : Nat)) H
end
end Cl
/-! ## Fun12 -/
/-! ## MinD -/
/-! ## ZipM -/
/-! ## ZipT -/
/-! ## ZipZ -/
/-! ## EnQ -/
/-! ## StarD -/
/-! ## Fun13 -/
namespace Cl
open PySem PySem.Spec PyProof.Rows L2
/-! ## x in xs, data of any depth, in a list or a tuple -/
/-! ## defaults that are left out -/
section
variable {K : PySem.W.Frag} {W : Cw}
theorem RepRs.app {wf w w' : Wd} : ∀ {rs qs : List Rv} {vs us : List V}, RepRs K wf w w' rs vs → RepRs K wf w w' qs us → RepRs K wf w w' (rs ++ qs) (vs ++ us)
  | [], _, [], _, _, h => h
  | r :: rs, _, v :: vs, _, h, g => ⟨h.1, RepRs.app h.2 g⟩
  | [], _, _ :: _, _, h, _ => h.elim
  | _ :: _, _, [], _, h, _ => h.elim
/-! ### an empty tuple among the defaults -/
end
/-! ## the facts of the head about empty tuples -/
end Cl
/-! ## SetL -/
namespace Cl
/-! ## len(set(xs)), xs a list or a tuple of texts: how many are different -/
section
open PySem PySem.Spec PyProof.Rows
def ndR : List Str → Nat
  | [] => 0
  | x :: r => if x ∈ r then ndR r else ndR r + 1
/-- how many different texts -/
def nd (xs : List Str) : Nat := ndR xs.reverse
theorem nd_snoc (xs : List Str) (x : Str) : nd (xs ++ [x]) = if x ∈ xs then nd xs else nd xs + 1 := by
  unfold nd
  rw [List.reverse_append]
  show ndR (x :: xs.reverse) = _
  simp only [ndR, List.mem_reverse]
theorem ndR_le : ∀ r : List Str, ndR r ≤ r.length
  | [] => Nat.le_refl 0
  | x :: r => by
    have := ndR_le r
    simp only [ndR, List.length_cons]
    split <;> omega
theorem nd_le (xs : List Str) : nd xs ≤ xs.length := by
  have := ndR_le xs.reverse
  rwa [List.length_reverse] at this
theorem ndR_iff : ∀ r : List Str, ndR r = r.length ↔ r.Nodup
  | [] => by simp [ndR]
  | x :: r => by
    have ih := ndR_iff r
    have hl := ndR_le r
    rw [List.nodup_cons]
    simp only [ndR, List.length_cons]
    by_cases h : x ∈ r
    · rw [if_pos h]
      exact ⟨fun e => by omega, fun e => absurd h e.1⟩
    · rw [if_neg h]
      exact ⟨fun e => ⟨h, ih.mp (by omega)⟩, fun e => by rw [ih.mpr e.2]⟩
theorem nd_iff (xs : List Str) : nd xs = xs.length ↔ xs.Nodup := by
  have := ndR_iff xs.reverse
  rwa [List.length_reverse, (List.reverse_perm xs).nodup_iff] at this
abbrev eS (led : Bool) : Obj := { cls := .type "set", dict := none, data := .set #[] 0 (.fresh 0 0 led) }
abbrev StD (p : Program) (w : World) (h : Heap) (D : Addr) (xs : List Str) : Prop := h.SetOf (PySem.strKind p w) D (fun z => decide (z ∈ xs)) (nd xs)
theorem StD.keep {p : Program} {w : World} {h h' : Heap} {D : Addr} {xs : List Str} (r : StD p w h D xs) (k : ∀ o, h.get? D = some o → h'.get? D = some o) : StD p w h' D xs :=
  let ⟨o, es, ep, t, ho, rest⟩ := r
  ⟨o, es, ep, t, k o ho, rest⟩
section
variable {p : Program} {w : World} {B : Around} {R : Result → Shared → Prop} {J D : Addr} {fp wr : List Addr} {G : Array GenState → Array GenState → Prop} {n : Nat} {Pv : Nat → Value → Prop} {St : Nat → Shared → Prop}
/-- the turns of set.update over texts -/
theorem upd_texts (W : WalksS p w B.in1 J fp wr G n Pv St) (hD : D ∉ fp) (xs : List Str) (hn : n = xs.length) (hb : n + 1 < scanBound) (hv : ∀ i v, Pv i v → ∃ z t, xs[i]? = some z ∧ v = .str z t) :
    ∀ (m i : Nat) (q : Shared), i + m = n → St i q → StD p w q.heap D (xs.take i) → (∀ q', Moved (D :: wr) G q q' → StD p w q'.heap D xs → R (.ok (.ret .none)) q') →
      codeAny (model p w) B (.builtin "set.update.loop" ⟨[.ref D, .ref J], []⟩) R q := by
  have hDw : D ∉ wr := fun z => hD (W.sub _ z)
  have up : ∀ b ∈ wr, b ∈ D :: wr := fun b z => List.mem_cons_of_mem _ z
  intro m
  induction m with
  | zero =>
    intro i q hi hst hS hR
    have e : xs.take i = xs := List.take_of_length_le (by omega)
    rw [e] at hS
    have hin : i = n := by omega
    rw [hin] at hst
    refine codeAny_builtin PyProof.Rows.F.entry_set_update_loop ?_
    rw [Around.under_plainId PyProof.Rows.F.plain_set_update_loop _]
    exact wpAny_bind (W.done q _ _ hst fun q' mv => wpAny_pure (hR q' (mv.mono up) (hS.keep fun o z => mv.heap D o hDw z)))
  | succ m ih =>
    intro i q hi hst hS hR
    refine codeAny_builtin PyProof.Rows.F.entry_set_update_loop ?_
    rw [Around.under_plainId PyProof.Rows.F.plain_set_update_loop _]
    refine wpAny_bind (W.item i q _ _ (by omega) hst fun v q1 hP hst1 mv => ?_)
    obtain ⟨z, t, hz, rfl⟩ := hv i v hP
    have hS1 : StD p w q1.heap D (xs.take i) := hS.keep fun o y => mv.heap D o hDw y
    have hroom : nd (xs.take i) + 1 < scanBound := by
      have := nd_le (xs.take i)
      rw [List.length_take] at this
      omega
    refine wpAny_bind (wpAny_holding ?_)
    unfold setAdd
    refine wpAny_holding (wpAny_bind ((PySem.strKind p w).pyHash (k := z) (strKind_is _ _ _ _) ?_))
    refine wpAny_setAddHashed_of (knd := PySem.strKind p w) (s := { q1 with toks := q1.toks + 1 }) (strKind_is _ _ _ _) rfl hS1 hroom fun h2 same hS2 => ?_
    have hS3 : StD p w h2 D (xs.take (i + 1)) := by
      have e : xs.take (i + 1) = xs.take i ++ [z] := by rw [List.take_add_one, hz]; rfl
      rw [e]
      refine SetOf_congr hS2 (fun y => ?_) ?_
      · simp only [List.mem_append, List.mem_singleton, Bool.decide_or]
      · rw [nd_snoc]; simp only [decide_eq_true_eq]
    have ne : ∀ b, b ≠ D → ∀ o, q1.heap.get? b = some o → h2.get? b = some o := fun b hb o y => by rw [same.2 b hb]; exact y
    refine wpAny_pure ⟨plainId_quiet PyProof.Rows.F.plain_set_update_loop _, ih (i + 1) _ (by omega) (W.frame _ q1 _ _ hst1 (Nat.le_succ _) fun b hb o y => ne b (fun c => hD (c ▸ hb)) o y) hS3 fun q3 mv3 hS4 => ?_⟩
    exact hR q3 (Moved.trans W.gtrans ((mv.mono up).then_heap (Nat.le_succ _) fun b o hb y => ne b (fun c => hb (c ▸ List.mem_cons_self)) o y) mv3) hS4
end
section
variable {p : Program} {w : World} {B : Around} {E : Value → Shared → Prop} {q : Shared}
/-- what the new set is, and what stays -/
abbrev SetMade (p : Program) (w : World) (q : Shared) (xs : List Str) (q2 : Shared) : Prop := ∃ h2 k, q2 = { q with heap := h2, toks := k } ∧ StD p w h2 q.heap.objs.size xs ∧ ∀ b o, b < q.heap.objs.size → q.heap.get? b = some o → h2.get? b = some o
theorem made_end {q2 : Shared} {led : Bool} {io : Obj} {J : Addr} {xs : List Str} (hJ : J = q.heap.objs.size + 1)
    (mv : Moved (q.heap.objs.size :: [J]) (fun a b => b = a) { q with heap := (q.heap.push (eS led)).push io } q2) (hS : StD p w q2.heap q.heap.objs.size xs) : SetMade p w q xs q2 := by
  obtain ⟨h2, g2, d2, k2, o2⟩ := q2
  have a1 : g2 = q.gens := mv.gens
  have a2 : d2 = q.drawn := mv.drawn
  have a3 : o2 = q.os := mv.os
  subst a1; subst a2; subst a3
  refine ⟨h2, k2, rfl, hS, fun b o hb y => mv.heap b o ?_ (Heap.get?_push_of_some _ (Heap.get?_push_of_some _ y))⟩
  simp only [List.mem_cons, List.not_mem_nil, or_false, not_or]
  exact ⟨Nat.ne_of_lt hb, by rw [hJ]; exact Nat.ne_of_lt (Nat.lt_succ_of_lt hb)⟩
theorem texts_at {its : Array Value} {xs : List Str} (hi : StrsAre its.toList xs) : its.size = xs.length ∧ ∀ (i : Nat) (v : Value), its[i]? = some v → ∃ z t, xs[i]? = some z ∧ v = .str z t := by
  have hl : its.size = xs.length := by rw [← StrsAre.len_eq hi, Array.length_toList]
  refine ⟨hl, fun i v e => ?_⟩
  obtain ⟨t, rfl⟩ := SS.strs_at hi i v (by rw [Array.getElem?_toList]; exact e)
  have hk : i < xs.length := by rw [← hl]; exact (Array.getElem?_eq_some_iff.mp e).1
  exact ⟨xs[i], t, List.getElem?_eq_getElem hk, by rw [List.getD_eq_getElem?_getD, List.getElem?_eq_getElem hk] <;> rfl⟩
theorem call_set_texts {l : Addr} {its : Array Value} {xs : List Str} {Q : Value → Shared → Prop} (hh : B.handled = none) (hl : q.heap.IsList l its ∨ q.heap.IsTuple l its) (hi : StrsAre its.toList xs) (hb : xs.length + 1 < scanBound)
    (h : ∀ q2, SetMade p w q xs q2 → Q (.ref q.heap.objs.size) q2) : wpAny (model p w) B (call (.type "set") [.ref l]) Q E q := by
  obtain ⟨hsz, hv⟩ := texts_at hi
  obtain ⟨c, tl, hmro⟩ := PySem.F.called_set.mro
  have k1 := PySem.F.called_set.made
  have k2 := PySem.F.called_set.sub
  have k3 := PySem.F.called_set.notType
  have k4 := PySem.F.called_set.canCreate
  have k5 := PySem.F.typeCall_set_1 (.ref l)
  refine wpAny_call (codeAny_of_tree ?_)
  show wpAny _ _ (callAny (.type "set") _) _ _ _
  refine wpAny_pure ⟨Code.quiet_builtin _ (by decide +kernel), ?_⟩
  refine codeAny_builtin PySem.F.entry_type_call ?_
  rw [Around.under_plain (weight_type_call_type "set" [.ref l] []) rfl]
  repeat (any_goals (first | assumption | wp_step))
  refine codeAny_mono (code_set_new_1 (.ref l) (E := E) (Q₁ := fun v q1 => ∃ led, v = .ref q.heap.objs.size ∧ q1 = { q with heap := q.heap.push (eS led) }) fun led => ⟨led, rfl, rfl⟩) fun r q1 hr => ?_
  cases r with
  | error e => exact hr
  | ok fl => cases fl with
    | ret v =>
      obtain ⟨led, rfl, rfl⟩ := hr
      have g1 : (q.heap.push (eS led)).get? q.heap.objs.size = some (eS led) := Heap.get?_push_size _ rfl
      have g2 : Shared.TypeIs { q with heap := q.heap.push (eS led) } (.ref q.heap.objs.size) "set" := ⟨_, g1, rfl⟩
      have k6 := PySem.F.called_set.init.lookup
      have k7 := PySem.F.called_set.init.bind (.ref q.heap.objs.size)
      repeat (any_goals (first | assumption | wp_step))
      refine codeAny_mono (codeAny_call_builtin (R := wants (fun r q2 => r = .none ∧ SetMade p w q xs q2) E) PySem.F.called_set.init.plain PySem.F.entry_set_init (check_set_init_1 g2 ?_)) fun r2 q2 hr2 => ?_
      · have hz1 : (q.heap.push (eS led)).objs.size = q.heap.objs.size + 1 := Heap.size_push ..
        have hh3 : B.in1.in1.in1.handled = none := by simp [hh]
        rcases hl with hl | hl
        · obtain ⟨ol, y1, y2, y3, y4⟩ := hl
          obtain ⟨oc, od, oa, os⟩ := ol
          simp only at y2 y4
          subst y2; subst y4
          have hlS : l < q.heap.objs.size := Heap.lt_size y1
          have y5 := Heap.get?_push_of_some (eS led) y1
          have y6 : (q.heap.push (eS led)).IsList l its := ⟨_, y5, rfl, y3, rfl⟩
          have m1 := PySem.F.sub_list_set
          have m2 := PySem.F.sub_list_frozenset
          have m3 : (Value.type "list" == Value.type "dict") = false := by decide
          unfold Builtin.«set.__init__» noKeywords Builtin.Frozenset.updateFrom
          generalize hPI : pyIter = PI
          wp_walk
          subst hPI
          refine wpAny_pyIter_list y6 (wpAny_bind (wpAny_runValue ?_))
          have ne1 : l ≠ (q.heap.push (eS led)).objs.size := by rw [hz1]; exact Nat.ne_of_lt (Nat.lt_succ_of_lt hlS)
          have ne2 : q.heap.objs.size ∉ [(q.heap.push (eS led)).objs.size, l] := by
            rw [hz1]
            simp only [List.mem_cons, List.not_mem_nil, or_false, not_or]
            exact ⟨Nat.ne_of_lt (Nat.lt_succ_self _), Nat.ne_of_gt hlS⟩
          refine upd_texts ((Walks.list hh3 _ l ne1 its).toS) ne2 xs hsz (by rw [hsz]; exact hb) hv its.size 0 _ (Nat.zero_add _) ⟨⟨_, Heap.get?_push_size _ rfl, rfl, rfl⟩, y6.push _⟩ ?_ fun q2 mv hS => ?_
          · have z1 := Heap.get?_push_of_some { cls := .type "list_iterator", data := .fields #[.ref l, .int 0 0] } g1
            exact SetOf_congr ((setObjOf_fresh (knd := PySem.strKind p w) led).setOf z1 (by unfold scanBound; omega)) (fun _ => by simp) rfl
          · refine wpAny_pure ?_
            exact wpAny_pure ⟨rfl, made_end hz1 mv hS⟩
        · obtain ⟨ol, y1, y2, y3, y4⟩ := hl
          obtain ⟨oc, od, oa, os⟩ := ol
          simp only at y2 y4
          subst y2; subst y4
          have hlS : l < q.heap.objs.size := Heap.lt_size y1
          have y5 := Heap.get?_push_of_some (eS led) y1
          have y6 : (q.heap.push (eS led)).IsTuple l its := ⟨_, y5, rfl, y3, rfl⟩
          have m1 := PySem.F.sub_tuple_set
          have m2 := PySem.F.sub_tuple_frozenset
          have m3 : (Value.type "tuple" == Value.type "dict") = false := by decide
          unfold Builtin.«set.__init__» noKeywords Builtin.Frozenset.updateFrom
          generalize hPI : pyIter = PI
          wp_walk
          subst hPI
          refine wpAny_pyIter_tuple y6 (wpAny_bind (wpAny_runValue ?_))
          have ne1 : l ≠ (q.heap.push (eS led)).objs.size := by rw [hz1]; exact Nat.ne_of_lt (Nat.lt_succ_of_lt hlS)
          have ne2 : q.heap.objs.size ∉ [(q.heap.push (eS led)).objs.size, l] := by
            rw [hz1]
            simp only [List.mem_cons, List.not_mem_nil, or_false, not_or]
            exact ⟨Nat.ne_of_lt (Nat.lt_succ_self _), Nat.ne_of_gt hlS⟩
          refine upd_texts ((Walks.tuple hh3 _ l ne1 its).toS) ne2 xs hsz (by rw [hsz]; exact hb) hv its.size 0 _ (Nat.zero_add _) ⟨⟨_, Heap.get?_push_size _ rfl, rfl, rfl⟩, y6.push _⟩ ?_ fun q2 mv hS => ?_
          · have z1 := Heap.get?_push_of_some { cls := .type "tuple_iterator", data := .fields #[.ref l, .int 0 0] } g1
            exact SetOf_congr ((setObjOf_fresh (knd := PySem.strKind p w) led).setOf z1 (by unfold scanBound; omega)) (fun _ => by simp) rfl
          · refine wpAny_pure ?_
            exact wpAny_pure ⟨rfl, made_end hz1 mv hS⟩
      · cases r2 with
        | error e => exact hr2
        | ok f2 => cases f2 with
          | ret v =>
            obtain ⟨rfl, hm⟩ := hr2
            repeat (any_goals (first | assumption | wp_step))
            exact h _ hm
          | _ => exact hr2.elim
    | _ => exact hr.elim
end
end
/-! ## the reading of len(set(e)) -/
section
open PySem PySem.Spec PyProof.Rows L2
variable {X : Cx}
def tLenS (K : PySem.W.Frag) (ta : TE) : TE := fun σ H Q => ta σ H fun x H1 => ∃ l, ∃ xs : List Str, x = .ref l ∧ (SqL K H1 l (xs.map V.str) ∨ SqT K H1 l (xs.map V.str)) ∧ xs.length ≤ 4000 ∧ Q (.int (nd xs : Nat)) H1
theorem pe_lenS {a : Expr} {ta : TE} {p p2 q pos : Pos} (hc : X.calm = true) (hg : Gl X "len") (hm : X.mg "len" = none) (hg2 : Gl X "set") (hm2 : X.mg "set" = none) (ha : PE X a ta)
    (na : starEach [a] X.env = (false, eval a X.env) :: starEach [] X.env := by rfl) : PE X (.Call (.Name "len" p) [.Call (.Name "set" p2) [a] [] q] [] pos) (tLenS X.K ta) := by
  refine ⟨fun pins s σ H Q I h => ?_⟩
  refine Call_ (ld_blt I hg hm boot_len (callWith_builtin1 (args_cons ?_ rfl) rfl rfl))
  refine Call_ (ld_blt I hg2 hm2 boot_set (callWith_type1 (args_cons (thn (ha.run pins s σ H _ I h) fun v s1 ⟨x, H1, I1, r1, q1⟩ => args_nil ?_) na) na rfl))
  obtain ⟨l, xs, rfl, hq, hl, q1⟩ := q1
  cases r1
  obtain ⟨its, hk, ht⟩ : ∃ its : List Value, (s1.heap.IsList l its.toArray ∨ s1.heap.IsTuple l its.toArray) ∧ Vals (xs.map V.str) its := by
    rcases hq with hq | hq
    · obtain ⟨its, r, pl, _⟩ := I1.list hq
      exact ⟨its, .inl pl.isList, r⟩
    · obtain ⟨its, r, pl, _⟩ := I1.tuple hq
      exact ⟨its, .inr pl, r⟩
  refine call_set_texts (I1.ok.hd hc) hk (xs := xs) (by simpa using strsAre_of ht) (by unfold scanBound; omega) fun q2 hm => ?_
  obtain ⟨h2, k2, rfl, hS, keep⟩ := hm
  obtain ⟨o, es, ep, t, ho, hex, hd, _, _, _, hf, hn⟩ := hS
  have I2 : Inv X pins σ H1 { s1 with heap := h2, toks := k2 } := I1.kept fun b o e => keep b o (Heap.lt_size e) e
  have hle := nd_le xs
  exact args_nil (call_len_set ho hex hd hf (by rw [hn] <;> omega) ⟨.int (nd xs : Nat), H1, I2.tok _, ⟨_, by rw [hn]⟩, q1⟩)
end
end Cl
/-! ## Fun14 -/
namespace Cl
open PySem PySem.Spec PyProof.Rows L2
section
variable {K : PySem.W.Frag} {W : Cw}
/-! ## len(set(xs)) -/
def fLenS (fe : FE) : FE := fun σ S => (fe σ S).bd fun r S1 => match r.rd S1 with
  | .lst ds => match strsD ds with
    | some xs => if xs.length ≤ 4000 then .ok (.v (.int (nd xs : Nat))) S1 else .bad
    | none => .bad
  | .tup ds => match strsD ds with
    | some xs => if xs.length ≤ 4000 then .ok (.v (.int (nd xs : Nat))) S1 else .bad
    | none => .bad
  | _ => .bad
theorem snd_lenS {te : TE} {fe : FE} (he : SndE K W te fe) : SndE K W (tLenS K te) (fLenS fe) := by
  intro wf w S σd σv Q s h
  refine he.run (Le.refl w) s h fun r S1 w1 v L1 st1 R1 h1 => ?_
  revert h1
  split
  · rename_i ds e0
    split
    · rename_i xs e1
      intro h1
      obtain ⟨hz, h2⟩ := h1.ite
      obtain ⟨a, vs, rfl, g1, g2⟩ := lstOf st1 R1 e0
      have hv := strsD_of g2 e1
      subst hv
      exact ⟨a, xs, rfl, .inl (SqL.of g1), hz, h2 w1 _ L1 st1 (.int _)⟩
    · intro h1; exact h1.elim
  · rename_i ds e0
    split
    · rename_i xs e1
      intro h1
      obtain ⟨hz, h2⟩ := h1.ite
      obtain ⟨a, vs, rfl, g1, g2⟩ := tupOf st1 R1 e0
      have hv := strsD_of g2 e1
      subst hv
      exact ⟨a, xs, rfl, .inr g1.sq, hz, h2 w1 _ L1 st1 (.int _)⟩
    · intro h1; exact h1.elim
  · intro h1; exact h1.elim
end
end Cl
/-! ## Own3 -/
namespace Cl
open PySem PySem.Spec PyProof.Rows L2
/-! ## a slot's own object lent to an expression (self.m(..) in __init__): what comes back is flat, the pools are flat -/
section
variable {K : PySem.W.Frag} {W : Cw} {wf w w1 w2 : Wd} {S S1 S2 : Sto} {σd : Env} {σv : L2.St}
theorem one_back {a : Addr} {d : Da} (c : ConR K w a d) (nm : a ∉ w.m) (L : Le (w.one a) w2) : ∀ b, b = a → ∃ o, w2.H b = some o ∧ (∀ vs, Rd w2.H b (.tup vs) → False) := fun b hb => by
  obtain ⟨o, eo⟩ := c.some
  have k := L.kp a o eo nm
  subst hb
  refine ⟨o, k.1, fun vs z => con_rd c vs ?_⟩
  rcases z with z | ⟨u, z⟩
  · rw [k.1] at z; exact .inl (by rw [eo]; exact z)
  · rw [k.1] at z; exact .inr ⟨u, by rw [eo]; exact z⟩
def Rv.flatR : Rv → Bool
  | .v d => d.flat
  | _ => false
def chkE : Ev Rv → Ev Rv
  | .ok r S => if r.flatR = true ∧ stoFlat S = true then .ok r S else .bad
  | _ => .bad
theorem chkE_ok {r : Rv} : chkE (.ok r S) = if r.flatR = true ∧ stoFlat S = true then .ok r S else .bad := id rfl
def fLendE (i : Nat) (fe : FE) : FE := fun σ S => match σ[i]? with
  | some (some (.own d _)) => chkE (fe (σ.set i (some (.v d))) S)
  | some (some (.v _)) => fe σ S
  | _ => .bad
theorem snd_lendE {i : Nat} {te : TE} {fe : FE} (h : SndE K W te fe) : SndE K W te (fLendE i fe) := by
  intro wf w S σd σv Q s hp
  unfold fLendE at hp
  split at hp
  · rename_i d b e
    obtain ⟨a, c, nm, ow, s1⟩ := s.one e
    refine h wf (w.one a) S _ σv Q s1 ?_
    revert hp
    cases fe (σd.set i (some (.v d))) S with
    | ok r S2 =>
      intro hp w' v L st R
      have h3 : PostE K W wf w σv Q (if r.flatR = true ∧ stoFlat S2 = true then .ok r S2 else .bad) := hp
      by_cases hc : r.flatR = true ∧ stoFlat S2 = true
      · rw [if_pos hc] at h3
        refine h3 (w'.back fun b => b = a) v (le_one ow L) (sto_one c nm L st hc.2) ?_
        cases r with
        | v d2 => exact rep_backF (one_back c nm L) R hc.1
        | fr d2 => cases hc.1
        | bo d2 => cases hc.1
      · rw [if_neg hc] at h3; exact h3.elim
    | ex e S2 => exact fun hp => (hp : False).elim
    | bad => exact fun hp => hp
  · exact h wf w S σd σv Q s hp
  · exact hp.elim
end
end Cl
/-! ## Fun15 -/
namespace Cl
open PySem PySem.Spec PyProof.Rows L2
section
variable {K : PySem.W.Frag} {W : Cw}
/-! ## xs.clear(), xs.extend(ys) of a slot's own list -/
/-! ## z.find(y) -/
def qFind : V → List V → Hp → VK → Prop := fun x xs H Q => ∃ a b, x = .str a ∧ xs = [.str b] ∧ Q (.int (Txt.find a b)) H
def fFind (fo fe : FE) : FE := fun σ S => (fo σ S).bd fun r S1 => match r with
  | .v (.str a) => (fe σ S1).bd fun q S2 => match q with
    | .v (.str b) => .ok (.v (.int (Txt.find a b))) S2
    | _ => .bad
  | _ => .bad
theorem snd_find {to te : TE} {fo fe : FE} (ho : SndE K W to fo) (he : SndE K W te fe) : SndE K W (tBM K "str" qFind to (tCons te tNil)) (fFind fo fe) := by
  intro wf w S σd σv Q s h
  refine ho.run (Le.refl w) s h fun r S1 w1 v L1 st1 R1 h1 => ?_
  revert h1
  split
  · rename_i a
    intro h1
    cases R1
    refine ⟨rfl, he.run L1 (s.step L1 st1) h1 fun q S2 w2 u L2 st2 R2 h2 => ?_⟩
    revert h2
    split
    · rename_i b
      intro h2
      cases R2
      exact ⟨a, b, rfl, rfl, h2 w2 _ (L1.trans L2) st2 (.int _)⟩
    · intro h2; exact h2.elim
  · intro h1; exact h1.elim
end
end Cl
/-! ## MinP -/
/-! ## Fun16 -/
namespace Cl
open PySem PySem.Spec PyProof.Rows L2
/-! ## stores into cells that an expression tells; dicts copied, by comprehension; sorted -/
section
variable {K : PySem.W.Frag} {W : Cw} {wf w w1 w2 : Wd} {S S1 : Sto} {σd : Env} {σv : L2.St} {D : Ends}
/-- xs.append(e), xs an expression that tells a cell -/
def fAppE (fo fe : FE) : FS := fun σ S => (fo σ S).so σ fun ro S0 => match ro with
  | .v (.cell n) => match S0[n]? with
    | some (.lst _) => (fe σ S0).so σ fun r S1 => match r.toD, S1[n]? with
      | some d, some (.lst ds) => if ds.length < 1000000 then .nx σ (S1.set n (.lst (ds ++ [d]))) else .bad
      | _, _ => .bad
    | _ => .bad
  | _ => .bad
theorem snd_appE {to te : TE} {fo fe : FE} (ho : SndE K W to fo) (he : SndE K W te fe) : SndS K W (tDrop (tBM K "list" rAppend to (tCons te tNil))) (fAppE fo fe) := by
  intro wf w S σd σv D s h
  refine ho.runS (Lf.refl w) s h fun ro S0 w0 v0 L0 st0 R0 h0 => ?_
  revert h0
  split
  · rename_i n
    split
    · rename_i ds0 hS
      intro h0
      cases R0 with
      | cell hm =>
        rename_i a
        obtain ⟨vs0, g0, _⟩ := st0.at_ n a _ hm hS
        have s0 := s.step L0 st0
        refine ⟨.inl ⟨rfl, vs0, SqL.of g0⟩, he.runS L0.lf s0 h0 fun r S1 w1 v L1 st1 R1 h1 => ?_⟩
        revert h1
        split
        · rename_i d ds ed eS
          intro h1
          obtain ⟨hz, h2⟩ := h1.ite
          have hm1 : (w0.frz w1).m[n]? = some a := pre_at L1.pre hm
          have st2 : StoR K (w0.frz w1) S1 := st1.frz
          obtain ⟨vs, g1, g2⟩ := st2.at_ n a _ hm1 eS
          refine ⟨a, vs, v, rfl, rfl, g1, sz_lt (by rw [g2.length]; omega), ?_⟩
          refine h2 { w0.frz w1 with H := L2.upd (w0.frz w1).H a (.lst (vs ++ [v])) } σv ((L0.trans L1.frz).lf.trans (lf_putC hm1)) ?_
          exact (s0.step L1.frz st2).putC hm1 ⟨vs ++ [v], upd_same, (g2.app (.cons (R1.frz ed) .nil)).lf (lf_putC hm1)⟩
        · intro h1; exact h1.elim
    · intro h0; exact h0.elim
  · intro h0; exact h0.elim
/-! ### dict(d) -/
/-! ### sorted(xs) of ints -/
/-! ### {k: v for x in xs} -/
end
end Cl
/-! ## Fun17 -/
namespace Cl
open PySem PySem.Spec PyProof.Rows L2
/-! ## walks over a list that is a cell: it must stay as it is -/
section
variable {K : PySem.W.Frag} {W : Cw} {wf w w1 w2 : Wd} {S S1 : Sto} {σd : Env} {σv : L2.St} {D : Ends}
open Classical in
noncomputable def isC {α : Type} (S : Sto) (n : Nat) (L : List Da) (x y : α) : α := if S[n]? = some (.lst L) then x else y
theorem isC_of {α : Type} {S : Sto} {n : Nat} {L : List Da} {x y : α} (h : S[n]? = some (.lst L)) : isC S n L x y = x := by unfold isC; rw [if_pos h]
theorem isC_no {α : Type} {S : Sto} {n : Nat} {L : List Da} {x y : α} (h : ¬ S[n]? = some (.lst L)) : isC S n L x y = y := by unfold isC; rw [if_neg h]
noncomputable def foldForC (n : Nat) (L : List Da) (fg : FG) (fb : FS) : List Da → Env → Sto → So
  | [], σ, S => isC S n L (.nx σ S) .bad
  | d :: ds, σ, S => isC S n L (match fg d σ with
    | none => .bad
    | some σ1 => match fb σ1 S with
      | .nx σ2 S2 => foldForC n L fg fb ds σ2 S2
      | .ct σ2 S2 => foldForC n L fg fb ds σ2 S2
      | .bk σ2 S2 => .nx σ2 S2
      | .rt r S2 => .rt r S2
      | .ex e σ2 S2 => .ex e σ2 S2
      | .bad => .bad) .bad
noncomputable def fForC (fe : FE) (fg : FG) (fb : FS) : FS := fun σ S => (fe σ S).so σ fun r S1 => match r with
  | .v (.cell n) => match S1[n]? with
    | some (.lst ds) => foldForC n ds fg fb ds σ S1
    | _ => .bad
  | _ => .bad
def YC (K : PySem.W.Frag) (a : Addr) : Nat → Hp → V → Hp → Prop := fun i H x H' => H' = H ∧ ∀ xs, SqL K H a xs → xs[i]? = some x
theorem walk_listC {a : Addr} {n : Nat} : Walk (Itl K a) n (fun H => ∃ xs, xs.length = n ∧ SqL K H a xs) (YC K a) :=
  ⟨fun i _ hi q => let ⟨xs, e, q⟩ := q; ⟨xs, xs[i]'(by omega), q, by simp [show i < xs.length by omega]⟩, fun _ q => let ⟨xs, e, q⟩ := q; ⟨xs, q, by omega⟩, fun _ _ _ _ _ q y => ⟨y.1, y.2⟩⟩
/-! ### comprehensions -/
noncomputable def foldLcC (n : Nat) (L : List Da) (fg : FG) (ft : FT) (fe : FE) (σ : Env) : List Da → List Da → Sto → Ev (List Da)
  | [], acc, S => isC S n L (.ok acc S) .bad
  | d :: ds, acc, S => isC S n L (match fg d σ with
    | none => .bad
    | some σ1 => (ft σ1 S).noX.bd fun b S1 => if b = true then (fe σ1 S1).noX.bd fun r S2 => onD r fun y => if acc.length < 1000000 then foldLcC n L fg ft fe σ ds (acc ++ [y]) S2 else .bad else foldLcC n L fg ft fe σ ds acc S1) .bad
noncomputable def fLcC (fc : FE) (fg : FG) (ft : FT) (fe : FE) (vs : List Nat) : FE := fun σ S => (fc σ S).bd fun r S1 => match r with
  | .v (.cell n) => match S1[n]? with
    | some (.lst ds) => (foldLcC n ds fg ft fe (wipeD σ vs) ds [] S1).bd fun acc S2 => .ok (.fr (.lst acc)) S2
    | _ => .bad
  | _ => .bad
theorem snd_lcC {tc : TE} {fc : FE} {g : TG} {fg : FG} {js vs : List Nat} {tt : TT} {ft : FT} {te : TE} {fe : FE} (hc : SndE K W tc fc) (hg : SndG K W g fg js) (hj : ∀ j ∈ js, j ∈ vs) (ht : SndT K W tt ft) (he : SndE K W te fe) : SndE K W (tLc (iList K tc) g tt te vs) (fLcC fc fg ft fe vs) := by
  intro wf w S σd σv Q s h
  refine hc.run (Le.refl w) s h fun r S1 w1 v L1 st1 R1 h1 => ?_
  revert h1
  split
  · rename_i n
    split
    · rename_i items eS
      intro h'
      cases R1 with
      | cell hm =>
        rename_i a
        obtain ⟨vs0, g0, r0⟩ := st1.at_ n a _ hm eS
        refine ⟨a, rfl, ⟨vs0, SqL.of g0⟩, fun Dl hD => ?_⟩
        have wk := walk_listC (K := K) (a := a) (n := items.length)
        have here : ∀ {w' : Wd} {S' : Sto} {o : Ev (List Da)}, Le w1 w' → StoR K w' S' → PostE K W wf w σv Q ((isC S' n items o .bad).bd fun acc S2 => .ok (.fr (.lst acc)) S2) → PostE K W wf w σv Q (o.bd fun acc S2 => .ok (.fr (.lst acc)) S2) ∧ ∃ us, w'.H a = some (.lst us) ∧ Reps K w' items us := by
          intro w' S' o L st hp
          by_cases hcc : S'[n]? = some (.lst items)
          · rw [isC_of hcc] at hp
            exact ⟨hp, st.at_ n a _ (pre_at L.pre hm) hcc⟩
          · rw [isC_no hcc] at hp; exact hp.elim
        have chk : ∀ {i : Nat} {acc : List Da} {S' : Sto}, ∃ o, foldLcC n items fg ft fe (wipeD σd vs) (items.drop i) acc S' = isC S' n items o .bad := by
          intro i acc S'
          cases items.drop i with
          | nil => exact ⟨_, rfl⟩
          | cons d ds => exact ⟨_, rfl⟩
        refine lc_it wk (fun i H' => ∃ w' S' acc us, w'.H = H' ∧ Le w1 w' ∧ StoR K w' S' ∧ w'.H Dl = some (.lst us) ∧ Reps K w' acc us ∧ w'.ow Dl ∧ Dl ∉ w'.m ∧ PostE K W wf w σv Q ((foldLcC n items fg ft fe (wipeD σd vs) (items.drop i) acc S').bd fun acc S2 => .ok (.fr (.lst acc)) S2)) ?_ ?_ ?_ ?_
        · exact ⟨w1.new Dl (.lst []) True, S1, [], [], rfl, le_new hD, st1.new hD, upd_same, .nil, .inl ⟨rfl, True.intro⟩, (st1.fresh hD).1, h'⟩
        · rintro i H' hi ⟨w', S', acc, us, rfl, L, st, hl, hr, ho, hm', hp⟩
          obtain ⟨o, eo⟩ := chk (i := i) (acc := acc) (S' := S')
          rw [eo] at hp
          obtain ⟨_, us', g1, g2⟩ := here L st hp
          exact ⟨us', g2.length, SqL.of g1⟩
        · rintro i x H' H'' hi ⟨w', S', acc, us, rfl, L, st, hl, hr, ho, hm', hp⟩ y
          obtain ⟨rfl, y2⟩ := y
          have e : items.drop i = items[i] :: items.drop (i + 1) := List.drop_eq_getElem_cons hi
          rw [e] at hp
          obtain ⟨hp, us', g1, g2⟩ := here L st hp
          have ex := y2 us' (SqL.of g1)
          obtain ⟨d, ed, r3⟩ := g2.at' ex
          rw [List.getElem?_eq_getElem hi] at ed
          cases ed
          cases e1 : fg items[i] (wipeD σd vs) with
          | none => rw [e1] at hp; exact hp.elim
          | some σ1 =>
            rw [e1] at hp
            refine hg wf w' S' (wipeD σd vs) (wipe σv vs) items[i] x _ ((s.step (L1.trans L) st).wipe vs) r3 ⟨σ1, e1, fun σv1 s1 e2 l2 => ⟨wipe_same e2 l2 hj, ht wf w' S' σ1 σv1 _ s1 ?_⟩⟩
            have hp0 : PostE K W wf w σv Q (Ev.bd ((ft σ1 S').noX.bd fun b S1 => if b = true then (fe σ1 S1).noX.bd fun r S2 => onD r fun y => if acc.length < 1000000 then foldLcC n items fg ft fe (wipeD σd vs) (items.drop (i + 1)) (acc ++ [y]) S2 else .bad else foldLcC n items fg ft fe (wipeD σd vs) (items.drop (i + 1)) acc S1) fun acc S2 => .ok (.fr (.lst acc)) S2) := hp
            clear hp
            revert hp0
            cases ft σ1 S' with
            | ex e S4 => exact fun hp => False.elim hp
            | bad => exact fun hp => hp
            | ok b S4 =>
              intro hp w4 L4 st4
              obtain ⟨m1, m2, m3⟩ := L4.kp Dl _ hl hm'
              have L14 := L.trans L4
              cases b with
              | false => exact iteF ⟨w4, S4, acc, us, rfl, L14, st4, m1, hr.le L4, m3.mpr ho, m2, hp⟩
              | true =>
                refine iteT (he wf w4 S4 σ1 σv1 _ (s1.step L4 st4) ?_)
                have hp' : PostE K W wf w σv Q (Ev.bd ((fe σ1 S4).noX.bd fun r S2 => onD r fun y => if acc.length < 1000000 then foldLcC n items fg ft fe (wipeD σd vs) (items.drop (i + 1)) (acc ++ [y]) S2 else .bad) fun acc S2 => .ok (.fr (.lst acc)) S2) := hp
                revert hp'
                cases fe σ1 S4 with
                | ex e S5 => exact fun hp => False.elim hp
                | bad => exact fun hp => hp
                | ok r S5 =>
                  intro hp w5 v5 L5 st5 R5
                  have hp2 : PostE K W wf w σv Q (Ev.bd (onD r fun y => if acc.length < 1000000 then foldLcC n items fg ft fe (wipeD σd vs) (items.drop (i + 1)) (acc ++ [y]) S5 else .bad) fun acc S2 => .ok (.fr (.lst acc)) S2) := hp
                  unfold onD at hp2
                  cases ey : r.toD with
                  | none => rw [ey] at hp2; exact hp2.elim
                  | some y =>
                    rw [ey] at hp2
                    by_cases hz : acc.length < 1000000
                    · simp only [hz, if_true] at hp2
                      obtain ⟨n1, n2, n3⟩ := L5.kp Dl _ m1 m2
                      have how : (w4.frz w5).ow Dl := ⟨n3.mpr (m3.mpr ho), by rw [m1]; simp⟩
                      refine ⟨us, n1, sz_lt (by rw [hr.length]; omega), { w4.frz w5 with H := upd w5.H Dl (.lst (us ++ [v5])) }, S5, acc ++ [y], us ++ [v5], rfl, le_put (w := w4.frz w5) (L14.trans L5.frz) hD, sto_put (w := w4.frz w5) st5.frz how, upd_same, ?_, how, n2, hp2⟩
                      exact (((hr.le L4).le L5.frz).app (.cons (R5.frz ey) .nil)).lf (own_put (w := w4.frz w5) how)
                    · simp only [hz, if_false] at hp2
                      exact hp2.elim
        · rintro H' ⟨w', S', acc, us, rfl, L, st, hl, hr, ho, hm', hp⟩
          rw [List.drop_length] at hp
          exact (here L st hp).1 w' _ (L1.trans L) st ⟨Dl, rfl, L1.none st1 hD, ⟨us, hl, hr⟩, ho, hm'⟩
    · intro h; exact h.elim
  · intro h; exact h.elim
end
end Cl
/-! ## Fun18 -/
/-! ## Fun19 -/
/-! ## SetI -/
/-! ## Fun20 -/
/-! ## Fun21 -/
/-! ## Fun22 -/
/-! ## Fun23 -/
/-! ## Fun24 -/
/-! ## Fun25 -/
namespace Cl
open PySem PySem.Spec PyProof.Rows L2
/-! ## isinstance(e, C), isinstance(e, (C, D, ..)) in an except suite: e with fields or without -/
section
variable {K : PySem.W.Frag}
def rIsX2 (K : PySem.W.Frag) (D a : Addr) (cls : Value) (d : Option Addr) : List V → Hp → VK → Prop := fun xs H Q => ∃ (c : V) (cv : Value) (b : Bool), xs = [.ref a, c] ∧ cls = .ref D ∧ ((∃ dd fs, d = some dd ∧ H dd = some (.xd fs)) ∨ d = none) ∧ (∀ u, RelV c u → u = cv) ∧ PySem.W.kitOne K (.ref D) cv = some b ∧ Q (.bl b) H
theorem call_isX2 {X : Cx} {a D : Addr} {oe : Obj} {cls : Value} {d : Option Addr} {pn : List (Addr × Obj)} (C : ExcC X.K D) (hz : Zc cls d oe) (hf : ∃ vs, oe.data = .fields vs) : CallR (X.suite a ((a, oe) :: pn)) (.builtin "isinstance") (rIsX2 X.K D a cls d) := by
  intro pins s σ H xs us Q I r h
  obtain ⟨c, cv, b, rfl, ecl, hd, hcv, e, q⟩ := h
  subst ecl
  rcases hd with ⟨dd, fs, rfl, hH⟩ | rfl
  · exact call_isX C hz hf pins s σ H _ us Q I r ⟨c, cv, b, dd, fs, rfl, rfl, rfl, hH, hcv, e, q⟩
  · exact call_isE C hz hf pins s σ H _ us Q I r ⟨c, cv, b, rfl, hcv, e, q⟩
def fIsE (C : Str) (b : Bool) (e : Exn) (i : Nat) : FE := fun σ S => match σ[i]? with
  | some (some .exn) => if e.C = C then .ok (.v (.bl b)) S else .bad
  | _ => .bad
theorem snd_isE {Wo : WX} {a : Addr} {d : Option Addr} {e : Exn} {C : Str} {b : Bool} {i : Nat} {c : V} {cv : Value} (hc : ∀ u, RelV c u → u = cv) (hk : PySem.W.kitOne K (.ref (He.ga K C)) cv = some b) : SndE K ⟨Wo, some (a, d, e)⟩ (tCB (rIsX2 K (He.ga K C) a (.ref (He.ga K e.C)) d) (tCons (tVar i) (tCons (tC c) tNil))) (fIsE C b e i) := by
  intro wf w S σd σv Q s h
  unfold fIsE at h
  split at h
  · rename_i e1
    obtain ⟨hC, h2⟩ := h.ite
    subst hC
    obtain ⟨hx, hs⟩ := s.cx a d e rfl
    exact ⟨_, hs i e1, c, cv, b, rfl, rfl, xdR_or hx, hc, hk, h2 w _ (Le.refl _) s.st (.bl _)⟩
  · exact h.elim
end
end Cl
/-! ## OwnOp -/
namespace Cl
open PySem PySem.Spec PyProof.Rows L2
/-! ## own operators: o + p, o * n, o[i], o[i] = v, x in o, truth, abs, o += p -/
section
variable {K : PySem.W.Frag} {W : Cw}
def nox (f : Fn) : Fn := fun ds S => (f ds S).noX
end
end Cl
/-! ## LzT -/
namespace Cl
open PySem PySem.Spec PyProof.Rows L2
/-! ## list(zip(xs, ys)) of two lists -/
def SqQ (q : Addr) (K : PySem.W.Frag) (H : Hp) (a : Addr) (xs : List V) : Prop := (a ≠ q ∧ Rd H a (.lst xs)) ∨ KL K a xs
theorem SqQ.sq {q : Addr} {K : PySem.W.Frag} {H : Hp} {a : Addr} {xs : List V} (h : SqQ q K H a xs) : SqL K H a xs := h.elim (fun h => .inl h.2) .inr
theorem rd_upd {H : Hp} {a T : Addr} {u o : HO} (h : Rd H a u) (n : a ≠ T) : Rd (upd H T o) a u := by
  rcases h with h | ⟨v, h⟩
  · exact .inl (by rw [upd_ne n]; exact h)
  · exact .inr ⟨v, by rw [upd_ne n]; exact h⟩
structure ZSt (z TI TO i1 i2 a b q : Addr) (i : Nat) (h : Heap) : Prop where
  zip : IsZip h z TI TO .none ∨ ∃ T f oT, IsZipHeld h z TI TO T f ∧ h.get? T = some oT ∧ T ≠ z ∧ T ≠ i1 ∧ T ≠ i2 ∧ T ≠ q
  ti : IsPair h TI (.ref i1) (.ref i2)
  to : ∃ x y, IsPair h TO x y
  i1 : h.IsListIter i1 a i
  i2 : h.IsListIter i2 b i
section
variable {z TI TO i1 i2 a b q : Addr} {i : Nat} {h h' : Heap}
theorem ZSt.keep (s : ZSt z TI TO i1 i2 a b q i h) (hq : ∀ c ∈ [z, TI, TO, i1, i2], c ≠ q) (k : ∀ c, c ≠ q → ∀ o, h.get? c = some o → h'.get? c = some o) : ZSt z TI TO i1 i2 a b q i h' := by
  obtain ⟨s1, s2, ⟨x, y, s3⟩, s4, s5⟩ := s
  refine ⟨?_, k _ (hq _ (by simp)) _ s2, ⟨x, y, k _ (hq _ (by simp)) _ s3⟩, s4.at fun o e => k _ (hq _ (by simp)) o e, s5.at fun o e => k _ (hq _ (by simp)) o e⟩
  rcases s1 with s1 | ⟨T, f, oT, h1, h2, h3, h4, h5, h6⟩
  · exact .inl (k _ (hq _ (by simp)) _ s1)
  · exact .inr ⟨T, f, oT, k _ (hq _ (by simp)) _ h1, k _ h6 _ h2, h3, h4, h5, h6⟩
theorem ZSt.lt (s : ZSt z TI TO i1 i2 a b q i h) : ∀ c ∈ [z, TI, TO, i1, i2], c < h.objs.size := by
  obtain ⟨s1, s2, ⟨x, y, s3⟩, ⟨_, s4, _⟩, ⟨_, s5, _⟩⟩ := s
  intro c hc
  have e : c = z ∨ c = TI ∨ c = TO ∨ c = i1 ∨ c = i2 := by simpa using hc
  rcases e with e | e | e | e | e
  · rw [e]
    rcases s1 with s1 | ⟨T, f, oT, h1, _⟩
    · exact Heap.lt_size s1
    · exact Heap.lt_size h1
  · rw [e]; exact Heap.lt_size s2
  · rw [e]; exact Heap.lt_size s3
  · rw [e]; exact Heap.lt_size s4
  · rw [e]; exact Heap.lt_size s5
end
section
variable {X : Cx} {pins : List (Addr × Obj)} {σ : L2.St} {z TI TO i1 i2 a b q : Addr} {H : Hp} {s : Shared} {A : Around} {E : Value → Shared → Prop} {xs ys : List V} {x y : V} {i : Nat}
theorem ZSt.type (st : ZSt z TI TO i1 i2 a b q i s.heap) : s.TypeIs (.ref z) "zip" := by
  rcases st.zip with h | ⟨T, f, oT, h, _⟩
  · exact ⟨_, h, rfl⟩
  · exact ⟨_, h, rfl⟩
end
end Cl
/-! ## OwnR -/
/-! ## OwnL -/
namespace Cl
open PySem PySem.Spec PyProof.Rows L2
/-! ## abs(o); __iter__ that gives iter(self.f), and list(o) by it -/
section
variable {X : Cx} {pins : List (Addr × Obj)} {σ : L2.St} {H : Hp} {s : Shared} {A : Around} {E : Value → Shared → Prop} {it l q p : Addr} {xs : List V} {x : V} {i : Nat}
/-- the list at l holds xs, whatever stands at q and at it -/
def SqI (q it : Addr) (K : PySem.W.Frag) (H : Hp) (l : Addr) (xs : List V) : Prop := (l ≠ q ∧ l ≠ it ∧ Rd H l (.lst xs)) ∨ KL K l xs
theorem SqI.at {K : PySem.W.Frag} {o o' : HO} (h : SqI q it K H l xs) : SqL K (upd (upd H it o) q o') l xs := h.elim (fun h => .inl (rd_upd (rd_upd h.2.2 h.2.1) h.1)) .inr
end
end Cl
/-! ## StM -/
namespace Cl
open PySem PySem.Spec PyProof.Rows L2
/-! ## staticmethods and classmethods, called on the class; the class in a slot, called -/
section
variable {K : PySem.W.Frag} {W : Cw}
abbrev exC : Exn := ⟨"", [], []⟩
end
/-! ## o += p by the own __iadd__, o a name -/
end Cl
/-! ## AugI -/
/-! ## GeL -/
/-! ## LeT -/
/-! ## ClsC -/
/-! ## DisN -/
namespace Cl
open PySem PySem.Spec PyProof.Rows L2
/-! ## a dict display with several texts as keys -/
def SndP (K : PySem.W.Frag) (W : Cw) (ks : List Str) (trs : List (TE × TE)) (fa : FA) : Prop := ∀ wf w S σd σv (R : List (V × V) → Hp → Prop), Sim K W wf w S σd σv → PostA K W wf w σv (fun vs H => R ((ks.map V.str).zip vs) H) (fa σd S) → tPairs trs σv w.H R
section
variable {K : PySem.W.Frag} {W : Cw}
theorem SndP.run {wf w w0 : Wd} {S : Sto} {σd : Env} {σv : L2.St} {β : Type} {P : β → Sto → Prop} {ks : List Str} {trs : List (TE × TE)} {fa : FA} {R : List (V × V) → Hp → Prop} (ha : SndP K W ks trs fa) (L0 : Le w0 w) (s : Sim K W wf w S σd σv) {k : List Rv → Sto → Ev β} (h : Po P (XP K W w0 σv) ((fa σd S).bd k))
    (hk : ∀ r S1 w1 v, Le w w1 → StoR K w1 S1 → RepRs K wf w w1 r v → Po P (XP K W w0 σv) (k r S1) → R ((ks.map V.str).zip v) w1.H) : tPairs trs σv w.H R := by
  refine ha wf w S σd σv R s ?_
  revert h
  cases fa σd S with
  | ok r S1 => exact fun h w1 v L st R => hk r S1 w1 v L st R h
  | ex e S1 => exact fun h => XP.mono L0 h
  | bad => exact fun h => h
end
end Cl
/-! ## SortT -/
/-! ## SortD -/
/-! ## DctF -/
/-! ## KwO -/
/-! ## Min3 -/
/-! ## PropF -/
/-! ## SrtT -/
/-! ## RevT -/
/-! ## AugX -/
/-! ## RepT -/
/-! ## LendM -/
/-! ## NT -/
namespace Cl
open PySem PySem.Spec PyProof.Rows L2
/-! ## tuples that are known to have no dict of their own: t.index(x) -/
def rTupN (K : PySem.W.Frag) : List V → Hp → VK → Prop := fun xs H Q => ∃ p ys, xs = [.ref p] ∧ SqL K H p ys ∧ ∀ (l : Addr) (ob : Obj), H l = none → ob.cls = .type "tuple" → ob.dict = none → Q (.ref l) (upd H l (.frz ob (.tup ys)))
section
variable {X : Cx}
theorem cl_tupleN : CallR X (.type "tuple") (rTupN X.K) := by
  intro pins s σ H xs us Q I r h
  obtain ⟨p, ys, rfl, hq, q⟩ := h
  obtain ⟨u, rfl, rx⟩ := vals1 r
  cases rx
  obtain ⟨its, r', pl, hz⟩ := I.list hq
  have hlen := r'.length
  refine call_tuple_list pl.isList (fun h' kp => ?_) (by simp only [List.size_toArray] <;> omega)
  have I1 : Inv X pins σ H { s with heap := h' } := I.kept (t' := s.toks) kp
  have I2 : Inv X pins σ (upd H h'.objs.size (.frz { cls := .type "tuple", data := .seq its.toArray } (.tup ys))) { s with heap := h'.push { cls := .type "tuple", data := .seq its.toArray } } :=
    I1.laid (t' := s.toks) (fun b o e => Heap.get?_push_of_some _ e) (Nat.le_refl _) (show ObjOk X.prog X.w _ _ _ (.frz _ (.tup ys)) from ⟨Heap.get?_push_size _ rfl, hz, its, r', IsTup.new _ _⟩)
  exact ⟨.ref h'.objs.size, _, I2, rfl, q _ _ (I1.hok.fresh (Nat.le_refl _)) rfl rfl⟩
def tBMN (K : PySem.W.Frag) (r : V → List V → Hp → VK → Prop) (to : TE) (t : TA) : TE := fun σ H Q => to σ H fun x H1 => (∃ (p : Addr) (o : Obj) (xs : List V), x = .ref p ∧ H1 p = some (.frz o (.tup xs)) ∧ o.cls = .type "tuple" ∧ o.dict = none) ∧ t σ H1 fun xs H2 => r x xs H2 Q
variable {o e : Expr} {es : List Expr} {to : TE} {t : TA} {name : Str} {apos cpos : Pos} {id : String} {r : V → List V → Hp → VK → Prop}
theorem pe_bmN (pa : PlainAttrs "tuple") (slot : Slot "tuple" name id) (hty : typeOf (.builtin id) = pure (.type "method_descriptor")) (hm : MtR X id r) (ho : PE X o to) (ha : PA X (e :: es) t)
    (hbase : attributeBase o name X.env (eval o X.env) = eval o X.env := by rfl)
    (hfew : ((backTo cpos (starEach (e :: es) X.env)).all (fun x => !x.1) && (backToKw cpos (keywordEach [] X.env)).all (fun x => x.1.isSome)
      && decide ((e :: es).length + ([] : List Keyword).length + (if ([] : List Keyword).isEmpty then 0 else 1) < 30)) = true := by rfl)
    (hline : (apos.endLine == cpos.line) = true := by rfl) (hs : starEach (e :: es) X.env = (false, eval e X.env) :: starEach es X.env := by rfl) (hplain : (backTo cpos (starEach es X.env)).any (·.1) = false := by rfl) :
    PE X (.Call (.Attribute o name apos) (e :: es) [] cpos) (tBMN X.K r to t) := by
  refine ⟨fun pins s σ H Q I h => ?_⟩
  refine wpAny_Call_method_late hbase hfew hline rfl (thn (ho.run pins s σ H _ I h) fun v s1 ⟨x, H1, I1, r1, ty, q1⟩ => ?_)
  obtain ⟨p, ob, ys, rfl, hH, hc, hd⟩ := ty
  cases r1
  have eo : s1.heap.get? p = some ob := (I1.hok p _ hH).1
  refine ⟨"tuple", id, pa, slot, hty, ⟨ob, eo, hc⟩, fun a ea => ?_, ?_⟩
  · cases ea
    exact ⟨ob, eo, hd⟩
  have hA := ha.run cpos pins s1 σ H1 _ I1 q1
  rw [hs] at hA ⊢
  refine Calls.callWith_builtin (by show (false || (backTo cpos (starEach es X.env)).any (·.1)) = false; rw [hplain] <;> rfl) (Calls.evalArgs_plain ?_)
  exact thn hA fun us s2 ⟨vs, H2, I2, r2, q2⟩ => hm pins s2 σ H2 (.ref p) vs (.ref p) us Q I2 rfl r2 q2
end
section
variable {K : PySem.W.Frag} {W : Cw}
def bTupN : FB
  | [r], S => match r.rd S with
    | .lst ds => .ok (.v (.tupN ds)) S
    | _ => .bad
  | _, _ => .bad
theorem sTupN : CbS K W (rTupN K) bTupN := by
  intro wf w w2 S σd σv rs vs Q s L R h
  unfold bTupN at h
  split at h
  · obtain ⟨v, rfl, R1⟩ := R.one
    split at h
    · rename_i ds e
      obtain ⟨a, us, rfl, g1, g2⟩ := lstOf s.st R1 e
      refine ⟨a, us, rfl, SqL.of g1, fun p ob hp hc hd => ?_⟩
      have L2 : Le w2 (w2.new p (.frz ob (.tup us)) False) := le_new hp
      refine h (w2.new p (.frz ob (.tup us)) False) _ (L.trans L2) (s.st.new hp) (.tupN upd_same hc hd ⟨(s.st.fresh hp).1, fun z => z.elim (·.2) fun z => z.1 rfl⟩ (g2.le L2))
    · exact h.elim
  · exact h.elim
/-- a tuple without a dict, read as a tuple -/
def fUn (fe : FE) : FE := fun σ S => (fe σ S).bd fun r S1 => match r with
  | .v (.tupN ds) => .ok (.v (.tup ds)) S1
  | _ => .bad
theorem snd_un {te : TE} {fe : FE} (he : SndE K W te fe) : SndE K W te (fUn fe) := by
  intro wf w S σd σv Q s h
  refine he.run (Le.refl w) s h fun r S1 w1 v L1 st1 R1 h1 => ?_
  revert h1
  split
  · rename_i ds
    intro h1
    cases R1 with
    | tupN e hc hd f r => exact h1 w1 _ L1 st1 (.tup (.inl ⟨.inr ⟨_, e⟩, f⟩) r)
  · intro h1; exact h1.elim
def fIdxN (fo fe : FE) : FE := fun σ S => (fo σ S).bd fun r S1 => match r with
  | .v (.tupN ds) => (fe σ S1).bd fun q S2 => match q with
    | .v (.str z) => match strsD ds with
      | some ys => match idxS z ys with
        | some j => .ok (.v (.int (j : Nat))) S2
        | none => .bad
      | none => .bad
    | _ => .bad
  | _ => .bad
theorem snd_idxN {to te : TE} {fo fe : FE} (ho : SndE K W to fo) (he : SndE K W te fe) : SndE K W (tBMN K (rIdxT K) to (tCons te tNil)) (fIdxN fo fe) := by
  intro wf w S σd σv Q s h
  refine ho.run (Le.refl w) s h fun r S1 w1 v L1 st1 R1 h1 => ?_
  revert h1
  split
  · rename_i ds
    intro h1
    cases R1 with
    | tupN e hc hd f rr =>
      rename_i a o vs
      refine ⟨⟨a, o, vs, rfl, e, hc, hd⟩, he.run L1 (s.step L1 st1) h1 fun q S2 w2 u L2 st2 R2 h2 => ?_⟩
      revert h2
      split
      · rename_i z
        split
        · rename_i ys e3
          split
          · rename_i j e4
            intro h2
            have hv := strsD_of rr e3
            subst hv
            cases R2
            obtain ⟨i1, i2⟩ := idxS_of e4
            obtain ⟨e', f'⟩ := L2.fz e f
            exact ⟨a, ys, z, j, rfl, rfl, .inl (.inr ⟨o, e'⟩), i1, i2, h2 w2 _ (L1.trans L2) st2 (.int _)⟩
          · intro h2; exact h2.elim
        · intro h2; exact h2.elim
      · intro h2; exact h2.elim
  · intro h1; exact h1.elim
end
end Cl
/-! ## CallI -/
/-! ## EqC -/
/-! ## InsE -/
namespace Cl
open PySem PySem.Spec PyProof.Rows L2
/-! ## xs.insert(i, e), xs an expression that tells a cell -/
def rInsert : V → List V → Hp → VK → Prop := fun x vs H Q => ∃ (l : Addr) (xs : List V) (i : Int) (y : V), x = .ref l ∧ vs = [.int i, y] ∧ H l = some (.lst xs) ∧ xs.length < sizeLine ∧ 0 ≤ i ∧ i < 2 ^ 63 ∧
    Q .non (upd H l (.lst (xs.take i.toNat ++ [y] ++ xs.drop i.toNat)))
theorem mt_insE {X : Cx} : MtR X "list.insert" rInsert := mt_insert
section
variable {K : PySem.W.Frag} {W : Cw}
def fInsE (fo fi fe : FE) : FS := fun σ S => (fo σ S).so σ fun ro S0 => match ro with
  | .v (.cell n) => match S0[n]? with
    | some (.lst _) => (fi σ S0).so σ fun q S1 => (fe σ S1).so σ fun r S2 => match q, r.toD, S2[n]? with
      | .v (.int i), some d, some (.lst ds) => if ds.length < 1000000 ∧ 0 ≤ i ∧ i < 1000000 then .nx σ (S2.set n (.lst (ds.take i.toNat ++ [d] ++ ds.drop i.toNat))) else .bad
      | _, _, _ => .bad
    | _ => .bad
  | _ => .bad
theorem snd_insE {to ti te : TE} {fo fi fe : FE} (ho : SndE K W to fo) (hi : SndE K W ti fi) (he : SndE K W te fe) : SndS K W (tDrop (tBM K "list" rInsert to (tCons ti (tCons te tNil)))) (fInsE fo fi fe) := by
  intro wf w S σd σv D s h
  refine ho.runS (Lf.refl w) s h fun ro S0 w0 v0 L0 st0 R0 h0 => ?_
  revert h0
  split
  · rename_i n
    split
    · rename_i ds0 hS
      intro h0
      cases R0 with
      | cell hm =>
        rename_i a
        obtain ⟨vs0, g0, _⟩ := st0.at_ n a _ hm hS
        have s0 := s.step L0 st0
        refine ⟨.inl ⟨rfl, vs0, SqL.of g0⟩, hi.runS L0.lf s0 h0 fun q S1 w1 u L1 st1 R1 h1 => ?_⟩
        have s1 := s0.step L1 st1
        refine he.runS (L0.trans L1).lf s1 h1 fun r S2 w2 v L2' st2 R2 h2 => ?_
        revert h2
        split
        · rename_i i d ds ed eS
          intro h2
          obtain ⟨hz, h3⟩ := h2.ite
          cases R1 with
          | int i =>
            have hm2 : (w1.frz w2).m[n]? = some a := pre_at L2'.pre (pre_at L1.pre hm)
            have st3 : StoR K (w1.frz w2) S2 := st2.frz
            obtain ⟨vs, g1, g2⟩ := st3.at_ n a _ hm2 eS
            refine ⟨a, vs, i, v, rfl, rfl, g1, sz_lt (by rw [g2.length]; omega), hz.2.1, by omega, ?_⟩
            refine h3 { w1.frz w2 with H := L2.upd (w1.frz w2).H a (.lst (vs.take i.toNat ++ [v] ++ vs.drop i.toNat)) } σv (((L0.trans L1).trans L2'.frz).lf.trans (lf_putC hm2)) ?_
            exact (s1.step L2'.frz st3).putC hm2 ⟨_, upd_same, (((g2.take i.toNat).app (.cons (R2.frz ed) .nil)).app (g2.drop i.toNat)).lf (lf_putC hm2)⟩
        · intro h2; exact h2.elim
    · intro h0; exact h0.elim
  · intro h0; exact h0.elim
end
end Cl
/-! ## LendD -/
namespace Cl
open PySem PySem.Spec PyProof.Rows L2
/-! ## an own dict lent to a value: what comes back holds no dict and no object -/
mutual
def Da.noDi : Da → Bool
  | .lst ds => noDis ds
  | .tup ds => noDis ds
  | .tupN ds => noDis ds
  | .frl _ => false
  | .obj _ _ _ => false
  | .dic _ _ => false
  | .dct _ _ => false
  | _ => true
def noDis : List Da → Bool
  | [] => true
  | d :: ds => d.noDi && noDis ds
end
section
variable {K : PySem.W.Frag} {W : Cw} {wf w w1 w2 : Wd} {S S1 S2 : Sto} {σd : Env} {σv : L2.St}
def chkD : Ev Rv → Ev Rv
  | .ok r S => match r.toD with
    | some x => if x.noDi = true ∧ stoFlat S = true then .ok (.v x) S else .bad
    | none => .bad
  | _ => .bad
theorem chkD_ok {r : Rv} : chkD (.ok r S) = match r.toD with
  | some x => if x.noDi = true ∧ stoFlat S = true then .ok (.v x) S else .bad
  | none => .bad := id rfl
end
end Cl
/-! ## CellX -/
namespace Cl
open PySem PySem.Spec PyProof.Rows L2
/-! ## walks over a list that is a cell or not, told or numbered: a cell must stay as it is -/
section
variable {K : PySem.W.Frag} {W : Cw} {wf w w1 w2 : Wd} {S S1 : Sto} {σd : Env} {σv : L2.St} {D : Ends}
noncomputable def fForCE (fa : FA) (fg : FG) (fb : FS) : FS := fun σ S => (fa σ S).so σ fun rs S1 => match rs with
  | [.v (.cell n)] => match S1[n]? with
    | some (.lst ds) => foldForC n ds fg fb (enD 0 ds) σ S1
    | _ => .bad
  | _ => .bad
def YEC (K : PySem.W.Frag) (a : Addr) : Nat → Hp → V → Hp → Prop := fun i H v H' => ∃ T x, v = .ref T ∧ H T = none ∧ H' = upd H T (.tup [.int (i : Nat), x]) ∧ ∀ xs, SqL K H a xs → xs[i]? = some x
theorem walk_enumC {a : Addr} {n : Nat} : Walk (Ite K a) n (fun H => ∃ xs, xs.length = n ∧ SqL K H a xs) (YEC K a) :=
  ⟨fun i _ hi q => let ⟨xs, e, q⟩ := q; ⟨xs, xs[i]'(by omega), q, by simp [show i < xs.length by omega]⟩, fun _ q => let ⟨xs, e, q⟩ := q; ⟨xs, q, by omega⟩, fun _ _ _ _ _ _ y => y⟩
theorem snd_forCE {ta : TA} {fa : FA} {g : TG} {fg : FG} {js : List Nat} {tb : TS} {fb : FS} (ha : SndA K W ta fa) (hg : SndG K W g fg js) (hb : SndS K W tb fb) : SndS K W (tFor (iEnum K ta) g tb) (fForCE fa fg fb) := by
  intro wf w S σd σv D s h
  refine ha.runS (Lf.refl w) s h fun rs S1 w1 vs L1 st1 R1 h1 => ?_
  revert h1
  split
  · rename_i n
    split
    · rename_i items eS
      intro h
      obtain ⟨v, rfl, R2⟩ := R1.one
      have r : Rep K w1 (.cell n) v := R2
      cases r with
      | cell hm =>
        rename_i a
        obtain ⟨vs0, g0, r0⟩ := st1.at_ n a _ hm eS
        refine ⟨a, vs0, rfl, SqL.of g0, ?_⟩
        have wk := walk_enumC (K := K) (a := a) (n := items.length)
        have here : ∀ {w' : Wd} {S' : Sto} {σ' : L2.St} {σd' : Env} {o : So}, Lf w1 w' → Sim K W wf w' S' σd' σ' → PostS K W wf w D (isC S' n items o .bad) → PostS K W wf w D o ∧ ∃ vs, w'.H a = some (.lst vs) ∧ Reps K w' items vs := by
          intro w' S' σ' σd' o L s' hp
          by_cases hc : S'[n]? = some (.lst items)
          · rw [isC_of hc] at hp
            exact ⟨hp, s'.st.at_ n a _ (pre_at L.pre hm) hc⟩
          · rw [isC_no hc] at hp; exact hp.elim
        have chk : ∀ {i : Nat} {σ' : Env} {S' : Sto}, ∃ o, foldForC n items fg fb ((enD 0 items).drop i) σ' S' = isC S' n items o .bad := by
          intro i σ' S'
          cases (enD 0 items).drop i with
          | nil => exact ⟨_, rfl⟩
          | cons d ds => exact ⟨_, rfl⟩
        refine for_it wk (fun i σ' H' => ∃ w' S' σd', w'.H = H' ∧ Lf w1 w' ∧ Sim K W wf w' S' σd' σ' ∧ PostS K W wf w D (foldForC n items fg fb ((enD 0 items).drop i) σd' S')) ⟨w1, S1, σd, rfl, Lf.refl _, s.step L1 st1, h⟩ ?_ ?_ ?_
        · rintro i σ' H' hi ⟨w', S', σd', rfl, L, s', hp⟩
          obtain ⟨o, eo⟩ := chk (i := i) (σ' := σd') (S' := S')
          rw [eo] at hp
          obtain ⟨_, vs, g1, g2⟩ := here L s' hp
          exact ⟨vs, g2.length, SqL.of g1⟩
        · rintro i x σ' H' H'' hi ⟨w', S', σd', rfl, L, s', hp⟩ y
          have hi' : i < (enD 0 items).length := by rw [enD_len]; exact hi
          have e : (enD 0 items).drop i = (enD 0 items)[i] :: (enD 0 items).drop (i + 1) := List.drop_eq_getElem_cons hi'
          rw [e] at hp
          obtain ⟨hp, vs, g1, g2⟩ := here L s' hp
          obtain ⟨T, x0, y1, y2, y3, y4⟩ := y
          have ex := y4 vs (SqL.of g1)
          obtain ⟨d, ed, r⟩ := g2.at' ex
          obtain ⟨w3, q1, L3, st3, r3⟩ := pair_yield (f := fun i => some (.int (i : Nat))) (g := fun j => vs[j]?) (d := .int (i : Nat)) (e := d) (Y := fun _ _ _ _ => True) s'.st (⟨T, .int (i : Nat), x0, y1, y2, y3, rfl, ex⟩ : YPair (fun i => some (.int (i : Nat))) (fun j => vs[j]?) i w'.H x H'') (fun u eu => by cases eu; exact .int _) (fun u eu => by rw [ex] at eu; cases eu; exact r)
          subst q1
          have ed2 := enD_at 0 items i d ed
          rw [Nat.zero_add, List.getElem?_eq_getElem hi'] at ed2
          have ed3 := Option.some.inj ed2
          rw [ed3] at hp
          have hp' : PostS K W wf w D (match fg (.tup [.int (i : Nat), d]) σd' with
            | none => .bad
            | some σ1 => match fb σ1 S' with
              | .nx σ2 S2 => foldForC n items fg fb ((enD 0 items).drop (i + 1)) σ2 S2
              | .ct σ2 S2 => foldForC n items fg fb ((enD 0 items).drop (i + 1)) σ2 S2
              | .bk σ2 S2 => .nx σ2 S2
              | .rt r S2 => .rt r S2
              | .ex e σ2 S2 => .ex e σ2 S2
              | .bad => .bad) := hp
          cases e1 : fg (.tup [.int (i : Nat), d]) σd' with
          | none => rw [e1] at hp'; exact hp'.elim
          | some σ1 =>
            rw [e1] at hp'
            refine hg wf w3 S' σd' σ' (.tup [.int (i : Nat), d]) x _ (s'.step L3 st3) r3 ⟨σ1, e1, fun σv1 s1 _ _ => hb wf w3 S' σ1 σv1 _ s1 ?_⟩
            have L13 : Lf w1 w3 := L.trans L3.lf
            have L03 : Lf w w3 := L1.lf.trans L13
            revert hp'
            show PostS K W wf w D (match fb σ1 S' with
              | .nx σ2 S2 => foldForC n items fg fb ((enD 0 items).drop (i + 1)) σ2 S2
              | .ct σ2 S2 => foldForC n items fg fb ((enD 0 items).drop (i + 1)) σ2 S2
              | .bk σ2 S2 => .nx σ2 S2
              | .rt r S2 => .rt r S2
              | .ex e σ2 S2 => .ex e σ2 S2
              | .bad => .bad) → _
            cases fb σ1 S' with
            | nx σ2 S2 => exact fun hp w4 σv4 L4 s4 => ⟨w4, S2, σ2, rfl, L13.trans L4, s4, hp⟩
            | ct σ2 S2 => exact fun hp w4 σv4 L4 s4 => ⟨w4, S2, σ2, rfl, L13.trans L4, s4, hp⟩
            | bk σ2 S2 => exact fun hp w4 σv4 L4 s4 => hp w4 σv4 (L03.trans L4) s4
            | rt r S2 => exact fun hp => hp
            | ex e σ2 S2 => exact fun hp w4 σv4 c dd L4 s4 R => hp w4 σv4 c dd (L03.trans L4) s4 R
            | bad => exact fun hp => hp
        · rintro σ' H' ⟨w', S', σd', rfl, L, s', hp⟩
          rw [show items.length = (enD 0 items).length by rw [enD_len], List.drop_length] at hp
          exact (here L s' hp).1 w' σ' (L1.lf.trans L) s'
    · intro h; exact h.elim
  · intro h; exact h.elim
/-! ### a cell or not -/
noncomputable def fForXE (fa : FA) (fg : FG) (fb : FS) : FS := fun σ S => match fa σ S with
  | .ok [.v (.cell _)] _ => fForCE fa fg fb σ S
  | _ => fFor (fiE fa) fg fb σ S
theorem snd_forXE {ta : TA} {fa : FA} {g : TG} {fg : FG} {js : List Nat} {tb : TS} {fb : FS} (ha : SndA K W ta fa) (hg : SndG K W g fg js) (hb : SndS K W tb fb) : SndS K W (tFor (iEnum K ta) g tb) (fForXE fa fg fb) := by
  intro wf w S σd σv D s h
  unfold fForXE at h
  split at h
  · exact snd_forCE ha hg hb wf w S σd σv D s h
  · exact snd_for (snd_iE ha) hg hb wf w S σd σv D s h
noncomputable def fLcX (fc : FE) (fg : FG) (ft : FT) (fe : FE) (vs : List Nat) : FE := fun σ S => match fc σ S with
  | .ok (.v (.cell _)) _ => fLcC fc fg ft fe vs σ S
  | _ => fLc (fiB fc) fg ft fe vs σ S
theorem snd_lcX {tc : TE} {fc : FE} {g : TG} {fg : FG} {js vs : List Nat} {tt : TT} {ft : FT} {te : TE} {fe : FE} (hc : SndE K W tc fc) (hg : SndG K W g fg js) (hj : ∀ j ∈ js, j ∈ vs) (ht : SndT K W tt ft) (he : SndE K W te fe) : SndE K W (tLc (iList K tc) g tt te vs) (fLcX fc fg ft fe vs) := by
  intro wf w S σd σv Q s h
  unfold fLcX at h
  split at h
  · exact snd_lcC hc hg hj ht he wf w S σd σv Q s h
  · exact snd_lc (snd_iB hc) hg hj ht he wf w S σd σv Q s h
end
end Cl
/-! ## MinT -/
/-! ## EqTO -/
/-! ## Evl -/
namespace Cl
open PySem PySem.Spec PyProof.Rows L2
theorem e_fVar (i : Nat) (σ : Env) (S : Sto) : fVar i σ S = (match σ[i]? with
  | some (some (.v d)) => .ok (.v d) S
  | some (some (.own d _)) => .ok (.bo d) S
  | _ => .bad) := id rfl
theorem e_fC (d : Da) (σ : Env) (S : Sto) : fC d σ S = (.ok (.v d) S) := id rfl
theorem e_fOp (o : FO2) (fa fb : FE) (σ : Env) (S : Sto) : fOp o fa fb σ S = ((fa σ S).bd fun r1 S1 => (fb σ S1).bd fun r2 S2 => o r1 r2 S2) := id rfl
theorem e_fNotV (fa : FE) (σ : Env) (S : Sto) : fNotV fa σ S = ((fa σ S).bd fun r S1 => onB r fun b => .ok (.v (.bl (!b))) S1) := id rfl
theorem e_fAndV (fa fb : FE) (σ : Env) (S : Sto) : fAndV fa fb σ S = ((fa σ S).bd fun r S1 => onB r fun b => if b = true then fb σ S1 else .ok (.v (.bl false)) S1) := id rfl
theorem e_fIf (ft : FT) (fa fb : FE) (σ : Env) (S : Sto) : fIf ft fa fb σ S = ((ft σ S).bd fun b S1 => if b = true then fa σ S1 else fb σ S1) := id rfl
theorem e_fChain (o o' : FO2) (fa fb fc : FE) (σ : Env) (S : Sto) : fChain o o' fa fb fc σ S = ((fa σ S).bd fun r1 S1 => (fb σ S1).bd fun r2 S2 => (o r1 r2 S2).bd fun z S3 => onB z fun k => if k = true then (fc σ S3).bd fun r3 S4 => o' r2 r3 S4 else .ok (.v (.bl false)) S3) := id rfl
theorem e_fNil (σ : Env) (S : Sto) : fNil  σ S = (.ok [] S) := id rfl
theorem e_fCons (fe : FE) (fa : FA) (σ : Env) (S : Sto) : fCons fe fa σ S = ((fe σ S).bd fun r S1 => (fa σ S1).bd fun rs S2 => .ok (r :: rs) S2) := id rfl
theorem e_fTup (fa : FA) (σ : Env) (S : Sto) : fTup fa σ S = ((fa σ S).bd fun rs S1 => onDs rs fun ds => if ds.length ≤ 1000000 then .ok (.v (.tup ds)) S1 else .bad) := id rfl
theorem e_fLst (fa : FA) (σ : Env) (S : Sto) : fLst fa σ S = ((fa σ S).bd fun rs S1 => onDs rs fun ds => if ds.length ≤ 1000000 then .ok (.fr (.lst ds)) S1 else .bad) := id rfl
theorem e_fCell (fe : FE) (σ : Env) (S : Sto) : fCell fe σ S = ((fe σ S).bd fun r S1 => match r with
  | .fr d => .ok (.v (.cell S1.length)) (S1 ++ [d])
  | _ => .bad) := id rfl
theorem e_fNoP (σ : Env) (S : Sto) : fNoP  σ S = (.ok none S) := id rfl
theorem e_fPart (fe : FE) (σ : Env) (S : Sto) : fPart fe σ S = ((fe σ S).bd fun r S1 => match r with
  | .v (.int i) => .ok (some i) S1
  | _ => .bad) := id rfl
theorem e_fRev (fe : FE) (σ : Env) (S : Sto) : fRev fe σ S = ((fe σ S).bd fun r S1 => match r.rd S1 with
  | .lst ds => .ok (.fr (.lst ds.reverse)) S1
  | _ => .bad) := id rfl
theorem e_fFld (C f : Str) (fe : FE) (σ : Env) (S : Sto) : fFld C f fe σ S = ((fe σ S).bd fun r S1 => match r.rd S1 with
  | .obj C' ns ds => match getF ns ds f with
    | some d => if C' = C then .ok (.v d) S1 else .bad
    | none => .bad
  | _ => .bad) := id rfl
theorem e_fCB (b : FB) (fa : FA) (σ : Env) (S : Sto) : fCB b fa σ S = ((fa σ S).bd fun rs S1 => b rs S1) := id rfl
theorem e_fTest (fe : FE) (σ : Env) (S : Sto) : fTest fe σ S = ((fe σ S).bd fun r S1 => onB r fun b => .ok b S1) := id rfl
theorem e_fAnd (f g : FT) (σ : Env) (S : Sto) : fAnd f g σ S = ((f σ S).bd fun b S1 => if b = true then g σ S1 else .ok false S1) := id rfl
theorem e_fOr (f g : FT) (σ : Env) (S : Sto) : fOr f g σ S = ((f σ S).bd fun b S1 => if b = true then .ok true S1 else g σ S1) := id rfl
theorem e_fNot (f : FT) (σ : Env) (S : Sto) : fNot f σ S = ((f σ S).bd fun b S1 => .ok (!b) S1) := id rfl
theorem e_fYes (σ : Env) (S : Sto) : fYes  σ S = (.ok true S) := id rfl
theorem e_fCall (f : Fn) (fa : FA) (σ : Env) (S : Sto) : fCall f fa σ S = ((fa σ S).bd fun rs S1 => onDs rs fun ds => (f ds S1).noX) := id rfl
theorem e_fCallS (f : Fn) (fa : FA) (σ : Env) (S : Sto) : fCallS f fa σ S = ((fa σ S).bd fun rs S1 => onDs rs fun ds => f ds S1) := id rfl
theorem e_fMeth (C m : Str) (f : Fn) (fo : FE) (fa : FA) (σ : Env) (S : Sto) : fMeth C m f fo fa σ S = ((fo σ S).bd fun r S1 => match r.rd S1 with
  | .obj C' ns _ => if C' = C ∧ m ∉ ns then (fa σ S1).bd fun rs S2 => onDs (r :: rs) fun ds => (f ds S2).noX else .bad
  | _ => .bad) := id rfl
theorem e_fNext (σ : Env) (S : Sto) : fNext  σ S = (.nx σ S) := id rfl
theorem e_fRet (fe : FE) (σ : Env) (S : Sto) : fRet fe σ S = ((fe σ S).so σ fun r S1 => .rt r.out S1) := id rfl
theorem e_fDrop (fe : FE) (σ : Env) (S : Sto) : fDrop fe σ S = ((fe σ S).so σ fun _ S1 => .nx σ S1) := id rfl
theorem e_fIfS (ft : FT) (f g : FS) (σ : Env) (S : Sto) : fIfS ft f g σ S = ((ft σ S).so σ fun b S1 => if b = true then f σ S1 else g σ S1) := id rfl
theorem e_fSet (i : Nat) (fe : FE) (σ : Env) (S : Sto) : fSet i fe σ S = ((fe σ S).so σ fun r S1 => match r with
  | .v d => .nx (σ.set i (some (.v d))) S1
  | .fr d => .nx (σ.set i (some (.own d false))) S1
  | .bo _ => .bad) := id rfl
theorem e_fSetD (i : Nat) (fe : FE) (σ : Env) (S : Sto) : fSetD i fe σ S = ((fe σ S).so σ fun r S1 => match r.toD with
  | some d => .nx (σ.set i (some (.v d))) S1
  | none => .bad) := id rfl
theorem e_fPar (i j : Nat) (fa : FA) (σ : Env) (S : Sto) : fPar i j fa σ S = ((fa σ S).so σ fun rs S1 => match rs with
  | [.v d, .v e] => .nx ((σ.set i (some (.v d))).set j (some (.v e))) S1
  | _ => .bad) := id rfl
theorem e_fFrz (i : Nat) (f : FS) (σ : Env) (S : Sto) : fFrz i f σ S = (match σ[i]? with
  | some (some (.own d false)) => f (σ.set i (some (.v d))) S
  | some (some (.v _)) => f σ S
  | _ => .bad) := id rfl
theorem e_fAppS (i : Nat) (fe : FE) (σ : Env) (S : Sto) : fAppS i fe σ S = (match σ[i]? with
  | some (some (.own (.lst ds) b)) => (fe σ S).so σ fun r S1 => match r.toD with
    | some d => if ds.length < 1000000 then .nx (σ.set i (some (.own (.lst (ds ++ [d])) b))) S1 else .bad
    | none => .bad
  | some (some (.v (.cell n))) => match S[n]? with
    | some (.lst _) => (fe σ S).so σ fun r S1 => match r.toD, S1[n]? with
      | some d, some (.lst ds) => if ds.length < 1000000 then .nx σ (S1.set n (.lst (ds ++ [d]))) else .bad
      | _, _ => .bad
    | _ => .bad
  | _ => .bad) := id rfl
theorem e_fSetI (i : Nat) (fe fi : FE) (σ : Env) (S : Sto) : fSetI i fe fi σ S = (match σ[i]? with
  | some (some (.own (.lst ds) b)) => (fe σ S).so σ fun r S1 => (fi σ S1).so σ fun q S2 => match q, r.toD with
    | .v (.int k), some d => match ixN ds.length k with
      | some j => .nx (σ.set i (some (.own (.lst (ds.set j d)) b))) S2
      | none => .bad
    | _, _ => .bad
  | some (some (.v (.cell n))) => (fe σ S).so σ fun r S1 => (fi σ S1).so σ fun q S2 => match q, r.toD, S2[n]? with
    | .v (.int k), some d, some (.lst ds) => match ixN ds.length k with
      | some j => .nx σ (S2.set n (.lst (ds.set j d)))
      | none => .bad
    | _, _, _ => .bad
  | _ => .bad) := id rfl
theorem e_fSFld (i : Nat) (C f : Str) (fe : FE) (σ : Env) (S : Sto) : fSFld i C f fe σ S = ((fe σ S).so σ fun r S1 => match σ[i]?, r.toD with
  | some (some (.own (.obj C' ns ds) b)), some d => if C' = C ∧ ns.length < 1000 then .nx (σ.set i (some (.own (.obj C (putN ns ds f d).1 (putN ns ds f d).2) b))) S1 else .bad
  | some (some (.v (.cell n))), some d => match S1[n]? with
    | some (.obj C' ns ds) => if C' = C ∧ ns.length < 1000 then .nx σ (S1.set n (.obj C (putN ns ds f d).1 (putN ns ds f d).2)) else .bad
    | _ => .bad
  | _, _ => .bad) := id rfl
theorem e_fiL (fe : FE) (σ : Env) (S : Sto) : fiL fe σ S = ((fe σ S).bd fun r S1 => match r.toD with
  | some (.lst ds) => .ok ds S1
  | _ => .bad) := id rfl
theorem e_fiB (fe : FE) (σ : Env) (S : Sto) : fiB fe σ S = ((fe σ S).bd fun r S1 => match r with
  | .v (.lst ds) => .ok ds S1
  | .fr (.lst ds) => .ok ds S1
  | .bo (.lst ds) => .ok ds S1
  | _ => .bad) := id rfl
theorem e_fiR1 (fa : FA) (σ : Env) (S : Sto) : fiR1 fa σ S = ((fa σ S).bd fun rs S1 => match rs with
  | [.v (.int j)] => if -4611686018427387904 ≤ j ∧ j < 4611686018427387904 then .ok (rgD j) S1 else .bad
  | _ => .bad) := id rfl
theorem e_fiS (fe : FE) (σ : Env) (S : Sto) : fiS fe σ S = ((fe σ S).bd fun r S1 => match r with
  | .v (.str z) => .ok (chD z) S1
  | _ => .bad) := id rfl
theorem e_fiE (fa : FA) (σ : Env) (S : Sto) : fiE fa σ S = ((fa σ S).bd fun rs S1 => onDs rs fun ds => match ds with
  | [.lst ds] => .ok (enD 0 ds) S1
  | _ => .bad) := id rfl
theorem e_fiET (fa : FA) (σ : Env) (S : Sto) : fiET fa σ S = ((fa σ S).bd fun rs S1 => onDs rs fun ds => match ds with
  | [.tup ds] => .ok (enD 0 ds) S1
  | _ => .bad) := id rfl
theorem e_fFor (fi : FI) (fg : FG) (fb : FS) (σ : Env) (S : Sto) : fFor fi fg fb σ S = ((fi σ S).so σ fun items S1 => foldFor fg fb items σ S1) := id rfl
theorem e_fLc (fi : FI) (fg : FG) (ft : FT) (fe : FE) (vs : List Nat) (σ : Env) (S : Sto) : fLc fi fg ft fe vs σ S = ((fi σ S).bd fun items S1 => (foldLc fg ft fe (wipeD σ vs) items [] S1).bd fun acc S2 => .ok (.fr (.lst acc)) S2) := id rfl
theorem e_fRaise (C : Str) (ns : List Str) (fa : FA) (σ : Env) (S : Sto) : fRaise C ns fa σ S = ((fa σ S).so σ fun rs S1 => match toDs rs with
  | some ds => if ds.length = ns.length ∧ ds.length ≤ 1000 ∧ ds.all Da.fmt = true then .ex ⟨C, ns.reverse, ds.reverse⟩ σ S1 else .bad
  | none => .bad) := id rfl
theorem e_fTry (tab : Tab) (fb : FS) (hs : List Fh) (σ : Env) (S : Sto) : fTry tab fb hs σ S = (match fb σ S with
  | .ex e σ1 S1 => fHand tab hs e σ1 S1
  | o => o) := id rfl
theorem e_fXf (C f : Str) (e : Exn) (i : Nat) (σ : Env) (S : Sto) : fXf C f e i σ S = (match σ[i]?, getF e.ns e.ds f with
  | some (some .exn), some d => if e.C = C then .ok (.v d) S else .bad
  | _, _ => .bad) := id rfl
theorem e_fNeg (fe : FE) (σ : Env) (S : Sto) : fNeg fe σ S = ((fe σ S).bd fun r S1 => match r with
  | .v (.int i) => .ok (.v (.int (-i))) S1
  | _ => .bad) := id rfl
theorem e_fMethX (C m : Str) (f : Fn) (fo : FE) (fa : FA) (σ : Env) (S : Sto) : fMethX C m f fo fa σ S = ((fo σ S).bd fun r S1 => match r.rd S1 with
  | .obj C' ns _ => if C' = C ∧ m ∉ ns then (fa σ S1).bd fun rs S2 => onDs (r :: rs) fun ds => f ds S2 else .bad
  | _ => .bad) := id rfl
theorem e_fMakeX (f : FIn) (fa : FA) (σ : Env) (S : Sto) : fMakeX f fa σ S = ((fa σ S).bd fun rs S1 => onDs rs fun ds => (f ds S1).bd fun d S2 => .ok (.fr d) S2) := id rfl
theorem e_fOwnEq (C : Str) (f : Fn) (fa fb : FE) (σ : Env) (S : Sto) : fOwnEq C f fa fb σ S = ((fa σ S).bd fun r1 S1 => (fb σ S1).bd fun r2 S2 => match r1.rd S2, r2.rd S2 with
  | .obj C1 _ _, .obj C2 _ _ => if C1 = C ∧ C2 = C then onDs [r1, r2] fun ds => (f ds S2).noX.bd fun r S3 => onB r fun b => .ok (.v (.bl b)) S3 else .bad
  | _, _ => .bad) := id rfl
theorem e_fIsC (C : Str) (fe : FE) (σ : Env) (S : Sto) : fIsC C fe σ S = ((fe σ S).bd fun r S1 => match r.rd S1 with
  | .obj C1 _ _ => if C1 = C then .ok (.v (.bl true)) S1 else .bad
  | _ => .bad) := id rfl
theorem e_fCallL (f : Fn) (fa : FA) (σ : Env) (S : Sto) : fCallL f fa σ S = ((fa σ S).bd fun rs S1 => onLs rs fun ds => (chkL (f ds S1)).noX) := id rfl
theorem e_fLenO (C : Str) (f : Fn) (fe : FE) (σ : Env) (S : Sto) : fLenO C f fe σ S = ((fe σ S).bd fun r S1 => match r.rd S1 with
  | .obj C1 _ _ => if C1 = C then onDs [r] fun ds => (f ds S1).noX.bd onLen else .bad
  | _ => .bad) := id rfl
theorem e_fLenS (fe : FE) (σ : Env) (S : Sto) : fLenS fe σ S = ((fe σ S).bd fun r S1 => match r.rd S1 with
  | .lst ds => match strsD ds with
    | some xs => if xs.length ≤ 4000 then .ok (.v (.int (nd xs : Nat))) S1 else .bad
    | none => .bad
  | .tup ds => match strsD ds with
    | some xs => if xs.length ≤ 4000 then .ok (.v (.int (nd xs : Nat))) S1 else .bad
    | none => .bad
  | _ => .bad) := id rfl
theorem e_fLendE (i : Nat) (fe : FE) (σ : Env) (S : Sto) : fLendE i fe σ S = (match σ[i]? with
  | some (some (.own d _)) => chkE (fe (σ.set i (some (.v d))) S)
  | some (some (.v _)) => fe σ S
  | _ => .bad) := id rfl
theorem e_fFind (fo fe : FE) (σ : Env) (S : Sto) : fFind fo fe σ S = ((fo σ S).bd fun r S1 => match r with
  | .v (.str a) => (fe σ S1).bd fun q S2 => match q with
    | .v (.str b) => .ok (.v (.int (Txt.find a b))) S2
    | _ => .bad
  | _ => .bad) := id rfl
theorem e_fAppE (fo fe : FE) (σ : Env) (S : Sto) : fAppE fo fe σ S = ((fo σ S).so σ fun ro S0 => match ro with
  | .v (.cell n) => match S0[n]? with
    | some (.lst _) => (fe σ S0).so σ fun r S1 => match r.toD, S1[n]? with
      | some d, some (.lst ds) => if ds.length < 1000000 then .nx σ (S1.set n (.lst (ds ++ [d]))) else .bad
      | _, _ => .bad
    | _ => .bad
  | _ => .bad) := id rfl
theorem e_fForC (fe : FE) (fg : FG) (fb : FS) (σ : Env) (S : Sto) : fForC fe fg fb σ S = ((fe σ S).so σ fun r S1 => match r with
  | .v (.cell n) => match S1[n]? with
    | some (.lst ds) => foldForC n ds fg fb ds σ S1
    | _ => .bad
  | _ => .bad) := id rfl
theorem e_fLcC (fc : FE) (fg : FG) (ft : FT) (fe : FE) (vs : List Nat) (σ : Env) (S : Sto) : fLcC fc fg ft fe vs σ S = ((fc σ S).bd fun r S1 => match r with
  | .v (.cell n) => match S1[n]? with
    | some (.lst ds) => (foldLcC n ds fg ft fe (wipeD σ vs) ds [] S1).bd fun acc S2 => .ok (.fr (.lst acc)) S2
    | _ => .bad
  | _ => .bad) := id rfl
theorem e_fIsE (C : Str) (b : Bool) (e : Exn) (i : Nat) (σ : Env) (S : Sto) : fIsE C b e i σ S = (match σ[i]? with
  | some (some .exn) => if e.C = C then .ok (.v (.bl b)) S else .bad
  | _ => .bad) := id rfl
theorem e_fUn (fe : FE) (σ : Env) (S : Sto) : fUn fe σ S = ((fe σ S).bd fun r S1 => match r with
  | .v (.tupN ds) => .ok (.v (.tup ds)) S1
  | _ => .bad) := id rfl
theorem e_fIdxN (fo fe : FE) (σ : Env) (S : Sto) : fIdxN fo fe σ S = ((fo σ S).bd fun r S1 => match r with
  | .v (.tupN ds) => (fe σ S1).bd fun q S2 => match q with
    | .v (.str z) => match strsD ds with
      | some ys => match idxS z ys with
        | some j => .ok (.v (.int (j : Nat))) S2
        | none => .bad
      | none => .bad
    | _ => .bad
  | _ => .bad) := id rfl
theorem e_fInsE (fo fi fe : FE) (σ : Env) (S : Sto) : fInsE fo fi fe σ S = ((fo σ S).so σ fun ro S0 => match ro with
  | .v (.cell n) => match S0[n]? with
    | some (.lst _) => (fi σ S0).so σ fun q S1 => (fe σ S1).so σ fun r S2 => match q, r.toD, S2[n]? with
      | .v (.int i), some d, some (.lst ds) => if ds.length < 1000000 ∧ 0 ≤ i ∧ i < 1000000 then .nx σ (S2.set n (.lst (ds.take i.toNat ++ [d] ++ ds.drop i.toNat))) else .bad
      | _, _, _ => .bad
    | _ => .bad
  | _ => .bad) := id rfl
def So.sq (o : So) (g : FS) : So := match o with
  | .nx σ S => g σ S
  | o => o
section
variable {α β : Type} {σ : Env} {S : Sto} {r : Rv} {e : Exn} {a : α} {g : FS}
theorem e_fSeq (f g : FS) (σ : Env) (S : Sto) : fSeq f g σ S = (f σ S).sq g := id rfl
theorem sq_nx : (So.nx σ S).sq g = g σ S := id rfl
theorem sq_rt : (So.rt r S).sq g = .rt r S := id rfl
theorem sq_bk : (So.bk σ S).sq g = .bk σ S := id rfl
theorem sq_ct : (So.ct σ S).sq g = .ct σ S := id rfl
theorem sq_ex : (So.ex e σ S).sq g = .ex e σ S := id rfl
theorem sq_bad : So.bad.sq g = .bad := id rfl
theorem bd_ok {f : α → Sto → Ev β} : (Ev.ok a S).bd f = f a S := id rfl
theorem bd_ex {f : α → Sto → Ev β} : (Ev.ex e S).bd f = .ex e S := id rfl
theorem bd_bad {f : α → Sto → Ev β} : (Ev.bad : Ev α).bd f = .bad := id rfl
theorem so_ok {f : α → Sto → So} : (Ev.ok a S).so σ f = f a S := id rfl
theorem so_ex {f : α → Sto → So} : (Ev.ex e S).so σ f = .ex e σ S := id rfl
theorem so_bad {f : α → Sto → So} : (Ev.bad : Ev α).so σ f = .bad := id rfl
theorem noX_ok : (Ev.ok a S).noX = .ok a S := id rfl
theorem noX_ex : (Ev.ex e S : Ev α).noX = .bad := id rfl
theorem noX_bad : (Ev.bad : Ev α).noX = .bad := id rfl
theorem onB_bl {b : Bool} {f : Bool → Ev α} : onB (.v (.bl b)) f = f b := id rfl
theorem onD_v {d : Da} {f : Da → Ev α} : onD (.v d) f = f d := id rfl
theorem onD_fr {d : Da} {f : Da → Ev α} : onD (.fr d) f = f d := id rfl
theorem toDs_v {d : Da} {rs : List Rv} : toDs (.v d :: rs) = (toDs rs).map (d :: ·) := by
  show (match some d, toDs rs with | some d, some ds => some (d :: ds) | _, _ => none) = _
  cases toDs rs <;> rfl
theorem toDs_fr {d : Da} {rs : List Rv} : toDs (.fr d :: rs) = (toDs rs).map (d :: ·) := by
  show (match some d, toDs rs with | some d, some ds => some (d :: ds) | _, _ => none) = _
  cases toDs rs <;> rfl
theorem toDs_0 : toDs [] = some [] := id rfl
theorem ofString_inj {a b : String} : (Str.ofString a = Str.ofString b) = (a = b) := by
  refine propext ⟨fun h => ?_, fun h => h ▸ rfl⟩
  have h1 : cpsOfBytes 0 0 a.toByteArray.data.toList = cpsOfBytes 0 0 b.toByteArray.data.toList := by have h2 := congrArg Array.toList (Str.mk.inj h); simpa using h2
  rw [cpsOfBytes_string, cpsOfBytes_string] at h1
  have h2 : a.toList = b.toList := by
    have inj : ∀ (x y : List Char), x.map Char.toNat = y.map Char.toNat → x = y := by
      intro x
      induction x with
      | nil => intro y h; cases y <;> simp_all
      | cons c x ih =>
        intro y h
        cases y with
        | nil => simp at h
        | cons d y =>
          simp only [List.map_cons, List.cons.injEq] at h
          rw [ih y h.2, Char.toNat_inj.mp h.1]
    exact inj _ _ h1
  exact String.toList_inj.mp h2
theorem getF_cons {n f : Str} {ns : List Str} {d : Da} {ds : List Da} : getF (n :: ns) (d :: ds) f = if f = n then some d else getF ns ds f := by
  unfold getF
  rw [List.zip_cons_cons, List.lookup_cons]
  by_cases h : f = n
  · subst h; simp
  · rw [if_neg h, beq_eq_false_iff_ne.mpr h]
def onO (o : Option β) (f : β → Ev α) : Ev α := match o with
  | some x => f x
  | none => .bad
theorem e_onDs {rs : List Rv} {f : List Da → Ev α} : onDs rs f = onO (toDs rs) f := by unfold onDs onO; cases toDs rs <;> rfl
theorem e_onLs {rs : List Rv} {f : List Da → Ev α} : onLs rs f = onO (lendDs rs) f := by unfold onLs onO; cases lendDs rs <;> rfl
theorem lendDs_v {d : Da} {rs : List Rv} : lendDs (.v d :: rs) = (lendDs rs).map (d :: ·) := by
  show (match some d, lendDs rs with | some d, some ds => some (d :: ds) | _, _ => none) = _
  cases lendDs rs <;> rfl
theorem lendDs_fr {d : Da} {rs : List Rv} : lendDs (.fr d :: rs) = (lendDs rs).map (d :: ·) := by
  show (match some d, lendDs rs with | some d, some ds => some (d :: ds) | _, _ => none) = _
  cases lendDs rs <;> rfl
theorem lendDs_bo {l : List Da} {rs : List Rv} : lendDs (.bo (.lst l) :: rs) = (lendDs rs).map (.lst l :: ·) := by
  show (match some (Da.lst l), lendDs rs with | some d, some ds => some (d :: ds) | _, _ => none) = _
  cases lendDs rs <;> rfl
theorem lendDs_0 : lendDs [] = some [] := id rfl
theorem chkL_ok : chkL (.ok r S) = if r.noL = true ∧ stoNoL S = true then .ok r S else .bad := id rfl
theorem chkT_ok {b : Bool} : chkT (.ok b S) = if stoFlat S = true then .ok b S else .bad := id rfl
theorem onK_int {i : Int} {f : Key → Ev α} : onK (.v (.int i)) f = f (.inl i) := id rfl
theorem onK_str {s : Str} {f : Key → Ev α} : onK (.v (.str s)) f = f (.inr s) := id rfl
theorem onO_some {x : β} {f : β → Ev α} : onO (some x) f = f x := id rfl
theorem omap_some {f : α → β} : Option.map f (some a) = some (f a) := id rfl
theorem e_endO (i : Nat) : endO i (.nx σ S) = if noExn (σ.set i none) = true then .nx (σ.set i none) S else .bad := id rfl
theorem e_endOr (i : Nat) : endO i (.rt r S) = .rt r S := id rfl
/-- a def's body at its arguments -/
def So.fin : So → Ev Rv
  | .nx _ S' => .ok (.v .non) S'
  | .rt r S' => .ok r S'
  | .ex e _ S' => .ex e S'
  | _ => .bad
def So.fin0 : So → Ev Rv
  | .nx _ S' => .ok (.v .non) S'
  | .rt r S' => .ok r S'
  | _ => .bad
theorem fin_nx : (So.nx σ S).fin = .ok (.v .non) S := id rfl
theorem fin_rt : (So.rt r S).fin = .ok r S := id rfl
theorem fin_ex : (So.ex e σ S).fin = .ex e S := id rfl
theorem fin0_nx : (So.nx σ S).fin0 = .ok (.v .non) S := id rfl
theorem fin0_rt : (So.rt r S).fin0 = .ok r S := id rfl
theorem e_fnOf (n k : Nat) (body : FS) (ds : List Da) (S : Sto) : fnOf n k body ds S = if ds.length = n then (body (ds.map (fun d => some (.v d)) ++ List.replicate (k - n) none) S).fin else .bad := by
  unfold fnOf So.fin; rfl
theorem e_fnOf0 (n k : Nat) (body : FS) (ds : List Da) (S : Sto) : fnOf0 n k body ds S = if ds.length = n then (body (ds.map (fun d => some (.v d)) ++ List.replicate (k - n) none) S).fin0 else .bad := by
  unfold fnOf0 So.fin0; rfl
end
end Cl
/-! ## Evm -/
namespace Cl
open PySem PySem.Spec PyProof.Rows L2
/-! ## comprehensions, loops -/
section
variable {α : Type} {fg : FG} {ft : FT} {fe : FE} {σ : Env} {fb : FS}
/-- a comprehension whose parts change nothing -/
theorem lc_pure (F : α → Da) (g : α → Bool) (h : α → Da) (σ1 : α → Env) {S : Sto} : ∀ {l : List α} {acc : List Da}, (∀ x ∈ l, fg (F x) σ = some (σ1 x) ∧ ft (σ1 x) S = .ok (g x) S ∧ (g x = true → ∃ r, fe (σ1 x) S = .ok r S ∧ r.toD = some (h x))) → acc.length + l.length ≤ 1000000 →
    foldLc fg ft fe σ (l.map F) acc S = .ok (acc ++ (l.filter g).map h) S
  | [], acc, _, _ => by simp [foldLc]
  | x :: l, acc, hx, hz => by
    obtain ⟨h1, h2, h3⟩ := hx x (by simp)
    have hr := fun y hy => hx y (List.mem_cons_of_mem x hy)
    simp only [List.map_cons, foldLc, h1, h2, Ev.noX, Ev.bd]
    cases hg : g x with
    | true =>
      obtain ⟨r, h4, h5⟩ := h3 hg
      have hl : acc.length < 1000000 := by simp at hz; omega
      simp only [if_true, h4, Ev.noX, Ev.bd, onD, h5, hl]
      rw [lc_pure F g h σ1 hr (by simp at hz ⊢; omega)]
      simp [hg]
    | false =>
      simp only [Bool.false_eq_true, if_false]
      rw [lc_pure F g h σ1 hr (by simp at hz ⊢; omega)]
      simp [hg]
/-- a comprehension by an invariant -/
theorem lc_inv (P : Nat → List Da → Sto → Prop) : ∀ {items : List Da} {n : Nat} {acc : List Da} {S : Sto}, P n acc S → acc.length + items.length ≤ 1000000 →
    (∀ (i : Nat) d acc S, items[i]? = some d → P (n + i) acc S → ∃ σ1 b S1, fg d σ = some σ1 ∧ ft σ1 S = .ok b S1 ∧ (b = false → P (n + i + 1) acc S1) ∧ (b = true → ∃ r y S2, fe σ1 S1 = .ok r S2 ∧ r.toD = some y ∧ P (n + i + 1) (acc ++ [y]) S2)) →
    ∃ acc' S', foldLc fg ft fe σ items acc S = .ok acc' S' ∧ P (n + items.length) acc' S'
  | [], n, acc, S, h0, _, _ => ⟨acc, S, rfl, h0⟩
  | d :: items, n, acc, S, h0, hz, hs => by
    obtain ⟨σ1, b, S1, h1, h2, h3, h4⟩ := hs 0 d acc S rfl h0
    have hr : ∀ (i : Nat) d acc S, items[i]? = some d → P (n + 1 + i) acc S → _ := fun i d acc S e hp => hs (i + 1) d acc S (by simpa using e) (by rw [show n + (i + 1) = n + 1 + i by omega]; exact hp)
    have hr' : ∀ (i : Nat) d acc S, items[i]? = some d → P (n + 1 + i) acc S → ∃ σ1 b S1, fg d σ = some σ1 ∧ ft σ1 S = .ok b S1 ∧ (b = false → P (n + 1 + i + 1) acc S1) ∧ (b = true → ∃ r y S2, fe σ1 S1 = .ok r S2 ∧ r.toD = some y ∧ P (n + 1 + i + 1) (acc ++ [y]) S2) := fun i d acc S e hp => by
      have := hr i d acc S e hp
      rw [show n + (i + 1) + 1 = n + 1 + i + 1 by omega] at this
      exact this
    have el : n + (d :: items).length = n + 1 + items.length := by simp; omega
    rw [el]
    cases b with
    | true =>
      obtain ⟨r, y, S2, h5, h6, h7⟩ := h4 rfl
      have hl : acc.length < 1000000 := by simp at hz; omega
      obtain ⟨acc', S', h8, h9⟩ := lc_inv P (items := items) (n := n + 1) (acc := acc ++ [y]) (S := S2) h7 (by simp at hz ⊢; omega) hr'
      refine ⟨acc', S', ?_, h9⟩
      simp only [foldLc, h1, h2, Ev.noX, Ev.bd, if_true, h5, onD, h6, hl]
      exact h8
    | false =>
      obtain ⟨acc', S', h8, h9⟩ := lc_inv P (items := items) (n := n + 1) (acc := acc) (S := S1) (h3 rfl) (by simp at hz ⊢; omega) hr'
      refine ⟨acc', S', ?_, h9⟩
      simp only [foldLc, h1, h2, Ev.noX, Ev.bd, Bool.false_eq_true, if_false]
      exact h8
/-- a for that goes through -/
theorem for_inv (P : Nat → Env → Sto → Prop) : ∀ {items : List Da} {n : Nat} {σ : Env} {S : Sto}, P n σ S →
    (∀ (i : Nat) d σ S, items[i]? = some d → P (n + i) σ S → ∃ σ1 σ2 S2, fg d σ = some σ1 ∧ (fb σ1 S = .nx σ2 S2 ∨ fb σ1 S = .ct σ2 S2) ∧ P (n + i + 1) σ2 S2) →
    ∃ σ' S', foldFor fg fb items σ S = .nx σ' S' ∧ P (n + items.length) σ' S'
  | [], n, σ, S, h0, _ => ⟨σ, S, rfl, h0⟩
  | d :: items, n, σ, S, h0, hs => by
    obtain ⟨σ1, σ2, S2, h1, h2, h3⟩ := hs 0 d σ S rfl h0
    have hr : ∀ (i : Nat) d σ S, items[i]? = some d → P (n + 1 + i) σ S → ∃ σ1 σ2 S2, fg d σ = some σ1 ∧ (fb σ1 S = .nx σ2 S2 ∨ fb σ1 S = .ct σ2 S2) ∧ P (n + 1 + i + 1) σ2 S2 := fun i d σ S e hp => by
      have := hs (i + 1) d σ S (by simpa using e) (by rw [show n + (i + 1) = n + 1 + i by omega]; exact hp)
      rw [show n + (i + 1) + 1 = n + 1 + i + 1 by omega] at this
      exact this
    obtain ⟨σ', S', h4, h5⟩ := for_inv P (items := items) (n := n + 1) (σ := σ2) (S := S2) h3 hr
    refine ⟨σ', S', ?_, by rw [show n + (d :: items).length = n + 1 + items.length by simp; omega]; exact h5⟩
    rcases h2 with h2 | h2 <;> simp only [foldFor, h1, h2] <;> exact h4
/-- a turn goes on, and then Q holds -/
def NxP (Q : Env → Sto → Prop) : So → Prop
  | .nx σ S => Q σ S
  | .ct σ S => Q σ S
  | _ => False
theorem nx_of {Q : Env → Sto → Prop} {o : So} {σ : Env} {S : Sto} (h : o = .nx σ S) (q : Q σ S) : NxP Q o := by rw [h]; exact q
theorem for_in (P : Nat → Env → Sto → Prop) {items : List Da} {σ : Env} {S : Sto} (h0 : P 0 σ S)
    (hs : ∀ (i : Nat) d σ S, items[i]? = some d → P i σ S → ∃ σ1, fg d σ = some σ1 ∧ NxP (P (i + 1)) (fb σ1 S)) :
    ∃ σ' S', foldFor fg fb items σ S = .nx σ' S' ∧ P items.length σ' S' := by
  have := for_inv (fg := fg) (fb := fb) P (items := items) (n := 0) (σ := σ) (S := S) h0 (fun i d σ S e hp => by
    rw [Nat.zero_add] at hp
    obtain ⟨σ1, h1, h2⟩ := hs i d σ S e hp
    rw [Nat.zero_add]
    revert h2
    cases h3 : fb σ1 S with
    | nx σ2 S2 => exact fun h2 => ⟨σ1, σ2, S2, h1, .inl h3, h2⟩
    | ct σ2 S2 => exact fun h2 => ⟨σ1, σ2, S2, h1, .inr h3, h2⟩
    | rt r S2 => exact fun h2 => h2.elim
    | bk σ2 S2 => exact fun h2 => h2.elim
    | ex e σ2 S2 => exact fun h2 => h2.elim
    | bad => exact fun h2 => h2.elim)
  rw [Nat.zero_add] at this
  exact this
end
section
variable {α : Type}
theorem bools_map (p : α → Bool) : ∀ l : List α, bools (l.map fun x => .bl (p x)) = some (l.map p)
  | [] => rfl
  | x :: l => by simp [bools, bools_map p l]
theorem strsD_map (p : α → Str) : ∀ l : List α, strsD (l.map fun x => .str (p x)) = some (l.map p)
  | [] => rfl
  | x :: l => by simp [strsD, strsD_map p l]
theorem rgD_at {n : Int} {i : Nat} {d : Da} (h : (rgD n)[i]? = some d) : d = .int (i : Nat) ∧ (i : Int) < n := by
  unfold rgD at h
  rw [List.getElem?_map] at h
  cases e : (List.range n.toNat)[i]? with
  | none => rw [e] at h; cases h
  | some k =>
    rw [e] at h
    have hi := (List.getElem?_eq_some_iff.mp e).1
    rw [List.length_range] at hi
    rw [List.getElem?_range hi] at e
    cases e; cases h
    exact ⟨rfl, by omega⟩
theorem rgD_len (n : Int) : (rgD n).length = n.toNat := by unfold rgD; simp
end
end Cl
/-! ## ComTx -/
namespace Cl
open PySem PySem.Spec PyProof.Rows L2
abbrev N_l_same : List Str := ["_law_got", "_law_due", "_law_k"]
def t_l_same (K : PySem.W.Frag) (sp : Sp) : TS :=
  (tSeq (tIfS (tOr (tB (tCB (rIsi K) (tCons (tVar 0) (tCons (tC (.ty "bool")) tNil)))) (tB (tCB (rIsi K) (tCons (tVar 1) (tCons (tC (.ty "bool")) tNil))))) (tRet (tAndV (tCB (rIsi K) (tCons (tVar 0) (tCons (tC (.ty "bool")) tNil))) (tAndV (tCB (rIsi K) (tCons (tVar 1) (tCons (tC (.ty "bool")) tNil))) (tOp rEq (tVar 0) (tVar 1))))) tNext)
    (tSeq (tIfS (tOr (tTest (tOp rIsN (tVar 0) (tC .non))) (tTest (tOp rIsN (tVar 1) (tC .non)))) (tRet (tAndV (tOp rIsN (tVar 0) (tC .non)) (tOp rIsN (tVar 1) (tC .non)))) tNext)
    (tSeq (tIfS (tB (tCB (rIsi K) (tCons (tVar 1) (tCons (tC (.ty "int")) tNil)))) (tRet (tAndV (tCB (rIsi K) (tCons (tVar 0) (tCons (tC (.ty "int")) tNil))) (tOp rEq (tVar 0) (tVar 1)))) tNext)
    (tSeq (tIfS (tB (tCB (rIsi K) (tCons (tVar 1) (tCons (tC (.ty "str")) tNil)))) (tRet (tAndV (tCB (rIsi K) (tCons (tVar 0) (tCons (tC (.ty "str")) tNil))) (tOp rEq (tVar 0) (tVar 1)))) tNext)
    (tSeq (tIfS (tAnd (tB (tCB (rIsi K) (tCons (tVar 1) (tCons (tC (.ty "list")) tNil)))) (tNot (tB (tCB (rIsi K) (tCons (tVar 0) (tCons (tC (.ty "list")) tNil)))))) (tRet (tC (.bl false))) tNext)
    (tSeq (tIfS (tAnd (tB (tCB (rIsi K) (tCons (tVar 1) (tCons (tC (.ty "tuple")) tNil)))) (tNot (tB (tCB (rIsi K) (tCons (tVar 0) (tCons (tC (.ty "tuple")) tNil)))))) (tRet (tC (.bl false))) tNext)
    (tSeq (tIfS (tTest (tOp rNe (tCB (rLen K) (tCons (tVar 0) tNil)) (tCB (rLen K) (tCons (tVar 1) tNil)))) (tRet (tC (.bl false))) tNext)
    (tSeq (tFor (iRng1 (tCons (tCB (rLen K) (tCons (tVar 1) tNil)) tNil)) (gName 2) (tIfS (tNot (tB (tCall (sp) [] E0 (tCons (tOp (rIx K) (tVar 0) (tVar 2)) (tCons (tOp (rIx K) (tVar 1) (tVar 2)) tNil))))) (tRet (tC (.bl false))) tNext))
    (tRet (tC (.bl true)))))))))))
end Cl
/-! ## Same -/
namespace Cl
open PySem PySem.Spec PyProof.Rows L2
/-! ### the walk's own lines: "c" a side condition, "h" what stands at an address, "s" a list that is read, "at" an item, "v" a value, "a" an answer, "ar" arguments -/
local macro_rules | `(tactic| walk_at "c") => `(tactic| first | assumption | (with_reducible rfl) | decide | omega | exact Or.inr ⟨by first | decide | omega, by first | decide | omega⟩ | exact Or.inl ⟨by first | decide | omega, by first | decide | omega⟩ | exact ⟨by first | decide | omega, by first | decide | omega⟩ | exact ⟨by decide, by decide, by decide⟩)
local macro_rules | `(tactic| walk_at "ne") => `(tactic| first | assumption | (exact Ne.symm (by assumption)) | (exact ne_of_none (by assumption) (by assumption)) | (exact Ne.symm (ne_of_none (by assumption) (by assumption))))
local macro_rules | `(tactic| walk_at "h") => `(tactic| first | assumption | exact upd_same | (refine Eq.trans (upd_ne ?_) ?_; walk_at "ne"; walk_at "h"))
local macro_rules | `(tactic| walk_at "s") => `(tactic| first | assumption | (exact SqL.of (by walk_at "h")) | (exact SqT.of (by walk_at "h")))
local macro_rules | `(tactic| walk_at "at") => `(tactic| first | rfl | exact atI_ints (by omega) (by omega))
local macro_rules | `(tactic| walk_at "ty") => `(tactic| first | assumption | exact .base (.int _) | exact .base (.bl _) | exact .base .non | exact .base (.str _) | exact .base (.lst (by walk_at "h")) | exact .base (.tup (by walk_at "h")))
local macro_rules | `(tactic| walk_at "v") => `(tactic| first
  | (with_reducible exact val_c)
  | ((with_reducible apply val_var); rfl)
  | ((with_reducible apply v_I0); walk_at "v"; walk_at "v")
  | ((with_reducible apply v_I); walk_at "v"; walk_at "v"; walk_at "c")
  | ((with_reducible apply v_U); walk_at "v")
  | ((with_reducible apply v_eq); walk_at "v"; walk_at "v"; rfl)
  | ((with_reducible apply v_ne); walk_at "v"; walk_at "v"; rfl)
  | ((with_reducible apply v_ixL); walk_at "v"; walk_at "v"; walk_at "s"; walk_at "at")
  | ((with_reducible apply v_ixT); walk_at "v"; walk_at "v"; walk_at "s"; walk_at "at")
  | ((with_reducible apply v_ixS); walk_at "v"; walk_at "v"; assumption; walk_at "at")
  | ((with_reducible apply v_fld); walk_at "v"; walk_at "h"; assumption; assumption; walk_at "fl")
  | ((with_reducible apply v_len); walk_at "ar"; walk_at "s")
  | ((with_reducible apply v_lenS); walk_at "ar"; assumption)
  | ((with_reducible apply v_lenT); walk_at "ar"; walk_at "s")
  | ((with_reducible apply v_abs); walk_at "ar")
  | ((with_reducible apply v_max2); walk_at "ar")
  | ((with_reducible apply v_min2); walk_at "ar")
  | ((with_reducible apply v_intI); walk_at "ar")
  | ((with_reducible apply v_intB); walk_at "ar")
  | ((with_reducible apply v_chain); walk_at "v"; walk_at "v"; walk_at "v"; exact i_B0; exact i_B0)
  | ((with_reducible apply v_chain3); walk_at "v"; walk_at "v"; walk_at "v"; walk_at "v"; exact i_B0; exact i_B0; exact i_B0)
  | ((with_reducible apply v_andV); walk_at "v"; (intro _; walk_at "v"))
  | ((with_reducible apply v_orV); walk_at "v"; (intro _; walk_at "v"))
  | ((with_reducible apply v_notV); walk_at "v")
  | ((with_reducible apply v_isN); walk_at "v")
  | ((with_reducible apply v_notN); walk_at "v")
  | ((with_reducible apply v_isiT); walk_at "ar"; walk_at "ty"; decide +kernel)
  | ((with_reducible apply v_isiF); walk_at "ar"; walk_at "ty"; decide +kernel)
  | ((with_reducible apply v_if); walk_at "a"; (intro _; walk_at "v"); (intro _; walk_at "v")))
local macro_rules | `(tactic| walk_at "ar") => `(tactic| first
  | (with_reducible exact ar_nil)
  | ((with_reducible apply ar_cons); walk_at "v"; walk_at "ar"))
local macro_rules | `(tactic| walk_at "a") => `(tactic| first
  | ((with_reducible apply a_test); walk_at "v")
  | ((with_reducible apply a_B); walk_at "v")
  | ((with_reducible apply a_not); walk_at "a")
  | ((with_reducible apply a_and); walk_at "a"; (intro _; walk_at "a"))
  | ((with_reducible apply a_or); walk_at "a"; (intro _; walk_at "a")))
local macro_rules | `(tactic| walk_at "fl") => `(tactic| first | exact fl_events _ _ _ | exact fl_spans _ _ _ | exact fl_round _ _ _)
local macro_rules | `(tactic| walk_at "call") => `(tactic| refine g_call (g_args (by walk_at "ar") ?_))
/-! ## _law_same of the same data -/
def Da.dep : Nat → Da → Bool
  | _, .non => true
  | _, .bl _ => true
  | _, .int _ => true
  | _, .str _ => true
  | n + 1, .lst ds => decide (ds.length ≤ 1000000) && ds.all (Da.dep n)
  | n + 1, .tup ds => decide (ds.length ≤ 1000000) && ds.all (Da.dep n)
  | _, _ => false
mutual
/-- what stands there now, to be read only -/
inductive RepO (K : PySem.W.Frag) (H : Hp) : Da → V → Prop
  | non : RepO K H .non .non
  | bl (b : Bool) : RepO K H (.bl b) (.bl b)
  | int (i : Int) : RepO K H (.int i) (.int i)
  | str (s : Str) : RepO K H (.str s) (.str s)
  | tup {a : Addr} {vs : List V} {ds : List Da} : (Rd H a (.tup vs) ∨ KT K a vs) → RepOs K H ds vs → RepO K H (.tup ds) (.ref a)
  | lst {a : Addr} {vs : List V} {ds : List Da} : H a = some (.lst vs) → RepOs K H ds vs → RepO K H (.lst ds) (.ref a)
inductive RepOs (K : PySem.W.Frag) (H : Hp) : List Da → List V → Prop
  | nil : RepOs K H [] []
  | cons {d : Da} {v : V} {ds : List Da} {vs : List V} : RepO K H d v → RepOs K H ds vs → RepOs K H (d :: ds) (v :: vs)
end
theorem RepOs.length {K : PySem.W.Frag} {H : Hp} : ∀ {ds : List Da} {vs : List V}, RepOs K H ds vs → vs.length = ds.length
  | _, _, .nil => rfl
  | _, _, .cons _ r => by simp [RepOs.length r]
theorem RepOs.at' {K : PySem.W.Frag} {H : Hp} : ∀ {ds : List Da} {vs : List V}, RepOs K H ds vs → ∀ {i : Nat} {v : V}, vs[i]? = some v → ∃ d, ds[i]? = some d ∧ RepO K H d v
  | _, _, .nil, i, d, e => by simp at e
  | _, _, .cons h r, 0, d, e => by simp at e; subst e; exact ⟨_, rfl, h⟩
  | _, _, .cons h r, i + 1, d, e => by simpa using RepOs.at' r (i := i) (by simpa using e)
/-- cells read through -/
def res (S : Sto) : Nat → Da → Da
  | 0, d => d
  | k + 1, .cell n => res S k (S.getD n .non)
  | k + 1, .lst ds => .lst (ds.map (res S k))
  | k + 1, .tup ds => .tup (ds.map (res S k))
  | _, d => d
theorem res_dep {S : Sto} : ∀ {n : Nat} {d : Da} {k : Nat}, d.dep n = true → res S k d = d
  | n, .non, k, _ => by cases k <;> rfl
  | n, .bl _, k, _ => by cases k <;> rfl
  | n, .int _, k, _ => by cases k <;> rfl
  | n, .str _, k, _ => by cases k <;> rfl
  | 0, .lst _, k, h => by cases h
  | 0, .tup _, k, h => by cases h
  | n + 1, .lst ds, 0, _ => rfl
  | n + 1, .tup ds, 0, _ => rfl
  | n + 1, .lst ds, k + 1, h => by
    simp only [Da.dep, Bool.and_eq_true, decide_eq_true_eq, List.all_eq_true] at h
    have : ds.map (res S k) = ds := by
      conv => rhs; rw [← List.map_id ds]
      exact List.map_congr_left fun d hd => res_dep (n := n) (h.2 d hd)
    simp only [res, this]
  | n + 1, .tup ds, k + 1, h => by
    simp only [Da.dep, Bool.and_eq_true, decide_eq_true_eq, List.all_eq_true] at h
    have : ds.map (res S k) = ds := by
      conv => rhs; rw [← List.map_id ds]
      exact List.map_congr_left fun d hd => res_dep (n := n) (h.2 d hd)
    simp only [res, this]
  | n, .frl _, k, h => by cases n <;> cases h
  | n, .obj _ _ _, k, h => by cases n <;> cases h
  | n, .dic _ _, k, h => by cases n <;> cases h
  | n, .dct _ _, k, h => by cases n <;> cases h
  | n, .cell _, k, h => by cases n <;> cases h
  | n, .tupN _, k, h => by cases n <;> cases h
section
variable {K : PySem.W.Frag} {w : Wd} {S : Sto}
theorem reps_o {f : Da → Da} {n : Nat} : ∀ {ds : List Da} {vs : List V}, Reps K w ds vs → (∀ d v, Rep K w d v → (f d).dep n = true → RepO K w.H (f d) v) → (ds.map f).all (Da.dep n) = true → RepOs K w.H (ds.map f) vs
  | _, _, .nil, _, _ => .nil
  | _, _, .cons h r, hf, hd => by
    simp only [List.map_cons, List.all_cons, Bool.and_eq_true] at hd
    exact .cons (hf _ _ h hd.1) (reps_o r hf hd.2)
theorem rep_o0 : ∀ {n : Nat} {d : Da} {v : V}, Rep K w d v → d.dep n = true → RepO K w.H d v := by
  intro n
  induction n with
  | zero =>
    intro d v h hd
    cases h with
    | non => exact .non
    | bl b => exact .bl b
    | int i => exact .int i
    | str s => exact .str s
    | _ => cases hd
  | succ n ih =>
    intro d v h hd
    cases h with
    | non => exact .non
    | bl b => exact .bl b
    | int i => exact .int i
    | str s => exact .str s
    | tup f r =>
      rename_i a vs ds
      simp only [Da.dep, Bool.and_eq_true, decide_eq_true_eq] at hd
      have := reps_o (f := id) r (fun d v h hd => ih h hd) (by rw [List.map_id]; exact hd.2)
      rw [List.map_id] at this
      exact .tup (f.elim (fun z => .inl z.1) .inr) this
    | lst e f r =>
      rename_i a vs ds
      simp only [Da.dep, Bool.and_eq_true, decide_eq_true_eq] at hd
      have := reps_o (f := id) r (fun d v h hd => ih h hd) (by rw [List.map_id]; exact hd.2)
      rw [List.map_id] at this
      exact .lst e this
    | _ => cases hd
theorem rep_o (st : StoR K w S) : ∀ {k n : Nat} {d : Da} {v : V}, Rep K w d v → (res S k d).dep n = true → RepO K w.H (res S k d) v := by
  intro k
  induction k using Nat.strongRecOn with
  | ind k ih =>
    intro n d v h hd
    cases k with
    | zero => exact rep_o0 h hd
    | succ k =>
      cases h with
      | non => exact .non
      | bl b => exact .bl b
      | int i => exact .int i
      | str s => exact .str s
      | tup f r =>
        rename_i a vs ds
        cases n with
        | zero => cases hd
        | succ n =>
          simp only [res, Da.dep, Bool.and_eq_true, decide_eq_true_eq] at hd
          exact .tup (f.elim (fun z => .inl z.1) .inr) (reps_o (f := res S k) r (fun d v h hd => ih k (Nat.lt_succ_self k) h hd) hd.2)
      | lst e f r =>
        rename_i a vs ds
        cases n with
        | zero => cases hd
        | succ n =>
          simp only [res, Da.dep, Bool.and_eq_true, decide_eq_true_eq] at hd
          exact .lst e (reps_o (f := res S k) r (fun d v h hd => ih k (Nat.lt_succ_self k) h hd) hd.2)
      | cell e =>
        rename_i a j
        have hj : j < S.length := by rw [← st.len]; exact (List.getElem?_eq_some_iff.mp e).1
        have hg : S[j]? = some (S.getD j .non) := by simp [List.getD_eq_getElem?_getD, hj]
        have c := st.at_ j a _ e hg
        show RepO K w.H (res S k (S.getD j .non)) (.ref a)
        have hd' : (res S k (S.getD j .non)).dep n = true := hd
        generalize S.getD j .non = x at c hd'
        cases x with
        | lst ds =>
          obtain ⟨vs, e2, r⟩ := c
          cases n with
          | zero => cases k <;> cases hd'
          | succ n =>
            cases k with
            | zero =>
              simp only [res, Da.dep, Bool.and_eq_true, decide_eq_true_eq] at hd'
              have := reps_o (f := id) r (fun d v h hd => rep_o0 h hd) (by rw [List.map_id]; exact hd'.2)
              rw [List.map_id] at this
              exact .lst e2 this
            | succ k =>
              simp only [res, Da.dep, Bool.and_eq_true, decide_eq_true_eq] at hd'
              exact .lst e2 (reps_o (f := res S k) r (fun d v h hd => ih k (by omega) h hd) hd'.2)
        | obj C ns ds => cases k <;> cases n <;> cases hd'
        | dic ks ds => cases k <;> cases n <;> cases hd'
        | dct ks ds => cases k <;> cases n <;> cases hd'
        | _ => exact c.elim
      | _ => cases n <;> cases hd
end
def sp_l_same2_n (K : PySem.W.Frag) (n : Nat) : Sp := fun vs H Q _ => ∃ (x y : V) (d : Da), vs = [x, y] ∧ RepO K H d x ∧ RepO K H d y ∧ d.dep n = true ∧ Q (.bl true) H
def sp_l_same2_r (K : PySem.W.Frag) : Nat → Sp
  | 0 => fun _ _ _ _ => False
  | n + 1 => sp_l_same2_n K n
def sp_l_same2 (K : PySem.W.Frag) : Sp := fun vs H Q E => ∃ n, n < 8 ∧ sp_l_same2_n K n vs H Q E
theorem len_l_same2 {K : PySem.W.Frag} {n vs H Q E} (h : sp_l_same2_n K n vs H Q E) : vs.length = 2 := by obtain ⟨_, _, _, rfl, _⟩ := h; rfl
open Classical in
noncomputable def f_l_same : Fn := fun ds S => match ds with
  | [x, y] => if res S 12 x = res S 12 y ∧ (res S 12 x).dep 7 = true then .ok (.v (.bl true)) S else .bad
  | _ => .bad
theorem same_ok {x : Da} {S : Sto} (h : x.dep 7 = true) : f_l_same [x, x] S = .ok (.v (.bl true)) S := by
  simp [f_l_same, h, res_dep h]
theorem same_res {x y z : Da} {S : Sto} (h1 : res S 12 x = z) (h2 : res S 12 y = z) (h : z.dep 7 = true) : f_l_same [x, y] S = .ok (.v (.bl true)) S := by
  simp [f_l_same, h, h1, h2]
open Classical in
theorem same_of {K : PySem.W.Frag} {vs H Q E} (h : spOf K f_l_same vs H Q E) : sp_l_same2 K vs H Q E := by
  obtain ⟨w, S, ds, e, st, r, h⟩ := h
  unfold f_l_same at h
  split at h
  · rename_i x y
    obtain ⟨⟨hxy, hd⟩, h2⟩ := h.ite
    cases r with
    | cons r1 r2 =>
      cases r2 with
      | cons r2 r3 =>
        cases r3
        subst e
        exact ⟨7, by decide, _, _, res S 12 x, rfl, rep_o st r1 hd, by rw [hxy] at hd ⊢; exact rep_o st r2 hd, hd, h2 w _ (Le.refl _) st (.bl _)⟩
  · exact h.elim
theorem tyT {K : PySem.W.Frag} {H : Hp} {a : Addr} {vs : List V} (h : Rd H a (.tup vs) ∨ KT K a vs) : TyX K H (.ref a) (.type "tuple") := by
  rcases h with (h1 | ⟨o, h1⟩) | ⟨o, its, n, h1, h2, _⟩
  · exact .base (.tup h1)
  · exact .fTuple h1
  · exact .kTuple h1 h2
theorem same2_scal {K : PySem.W.Frag} {H : Hp} {Q : VK} {sp : Sp} {x : V} {A : String} (ht : TyX K H x (.type A)) (hq : Q (.bl true) H) (hA : (x = .non ∧ A = "NoneType") ∨ ((∃ b, x = .bl b) ∧ A = "bool") ∨ ((∃ i, x = .int i) ∧ A = "int") ∨ ((∃ s, x = .str s) ∧ A = "str")) :
    t_l_same K sp { nx := fun _ H' => Q .non H', rt := Q } [some x, some x, none] H := by
  rcases hA with ⟨rfl, rfl⟩ | ⟨⟨b, rfl⟩, rfl⟩ | ⟨⟨i, rfl⟩, rfl⟩ | ⟨⟨s, rfl⟩, rfl⟩
  · refine q_no (by walk_at "a") (by rfl) (q_yes (by walk_at "a") (by rfl) (g_ret (g_val (by walk_at "v") ?_)))
    simpa using hq
  · refine q_yes (by walk_at "a") (by rfl) (g_ret (g_val (by walk_at "v") ?_))
    simpa using hq
  · refine q_no (by walk_at "a") (by rfl) (q_no (by walk_at "a") (by rfl) (q_yes (by walk_at "a") (by rfl) (g_ret (g_val (by walk_at "v") ?_))))
    simpa using hq
  · refine q_no (by walk_at "a") (by rfl) (q_no (by walk_at "a") (by rfl) (q_no (by walk_at "a") (by rfl) (q_yes (by walk_at "a") (by rfl) (g_ret (g_val (by walk_at "v") ?_)))))
    simpa using hq
theorem same2_seq {K : PySem.W.Frag} {n : Nat} {H0 : Hp} {Q : VK} {a b : Addr} {us ws : List V} {ds : List Da} (hz : ds.length ≤ 1000000) (hd : ds.all (Da.dep n) = true) (ra : RepOs K H0 ds us) (rb : RepOs K H0 ds ws) (sa : SqL K H0 a us ∨ SqT K H0 a us) (sb : SqL K H0 b ws ∨ SqT K H0 b ws) (q : Q (.bl true) H0) :
    (tSeq (tIfS (tTest (tOp rNe (tCB (rLen K) (tCons (tVar 0) tNil)) (tCB (rLen K) (tCons (tVar 1) tNil)))) (tRet (tC (.bl false))) tNext)
    (tSeq (tFor (iRng1 (tCons (tCB (rLen K) (tCons (tVar 1) tNil)) tNil)) (gName 2) (tIfS (tNot (tB (tCall (sp_l_same2_n K n) [] E0 (tCons (tOp (rIx K) (tVar 0) (tVar 2)) (tCons (tOp (rIx K) (tVar 1) (tVar 2)) tNil))))) (tRet (tC (.bl false))) tNext))
    (tRet (tC (.bl true))))) { nx := fun _ H' => Q .non H', rt := Q } [some (.ref a), some (.ref b), none] H0 := by
  have la := ra.length
  have lb := rb.length
  have el : us.length = ws.length := la.trans lb.symm
  refine q_no (a_test (v_ne (v_lenS (ar_cons (val_var rfl) ar_nil) sa) (v_lenS (ar_cons (val_var rfl) ar_nil) sb) rfl)) ?_ ?_
  · simp [el]
  refine q_forR (ar_cons (v_lenS (ar_cons (val_var rfl) ar_nil) sb) ar_nil) ?_ (fun i σ' H' => H' = H0 ∧ ∃ k, σ' = [some (.ref a), some (.ref b), k]) ⟨rfl, _, rfl⟩ ?_ ?_
  · omega
  · rintro i σ' H' hi ⟨rfl, k, rfl⟩
    have h1 : i < us.length := by omega
    have h2 : i < ws.length := by omega
    have h3 : i < ds.length := by omega
    refine g_no (b := !true) (a_not ?_) rfl ⟨rfl, _, rfl⟩
    intro Q' q'
    refine g_B (g_call (g_args (ar_cons (v_ixS (v := us[i]) (val_var rfl) (val_var rfl) sa (atI_nat (List.getElem?_eq_getElem h1))) (ar_cons (v_ixS (v := ws[i]) (val_var rfl) (val_var rfl) sb (atI_nat (List.getElem?_eq_getElem h2))) ar_nil)) ?_))
    obtain ⟨d, e1, r1⟩ := ra.at' (List.getElem?_eq_getElem h1)
    obtain ⟨d', e2, r2⟩ := rb.at' (List.getElem?_eq_getElem h2)
    rw [e1] at e2; cases e2
    exact ⟨_, _, d, rfl, r1, r2, List.all_eq_true.mp hd d (List.mem_of_getElem? e1), true, rfl, q'⟩
  · rintro σ' H' ⟨rfl, k, rfl⟩
    exact q
theorem pure_l_same2 {K : PySem.W.Frag} {n : Nat} {vs H Q E} (h : sp_l_same2_n K n vs H Q E) : t_l_same K (sp_l_same2_r K n) { nx := fun _ H' => Q .non H', rt := Q } (L2.start N_l_same vs) H := by
  obtain ⟨x, y, d, rfl, hx, hy, hd, q⟩ := h
  show t_l_same K (sp_l_same2_r K n) _ [some x, some y, none] H
  cases d with
  | non => cases hx; cases hy; exact same2_scal (.base .non) q (.inl ⟨rfl, rfl⟩)
  | bl b => cases hx; cases hy; exact same2_scal (.base (.bl _)) q (.inr (.inl ⟨⟨_, rfl⟩, rfl⟩))
  | int b => cases hx; cases hy; exact same2_scal (.base (.int _)) q (.inr (.inr (.inl ⟨⟨_, rfl⟩, rfl⟩)))
  | str b => cases hx; cases hy; exact same2_scal (.base (.str _)) q (.inr (.inr (.inr ⟨⟨_, rfl⟩, rfl⟩)))
  | lst ds =>
    cases n with
    | zero => cases hd
    | succ n =>
      simp only [Da.dep, Bool.and_eq_true, decide_eq_true_eq] at hd
      cases hx with
      | lst ha ra =>
        rename_i a us
        cases hy with
        | lst hb rb =>
          rename_i b ws
          have tx : TyX K H (.ref a) (.type "list") := .base (.lst ha)
          have ty : TyX K H (.ref b) (.type "list") := .base (.lst hb)
          refine q_no (by walk_at "a") (by rfl) (q_no (by walk_at "a") (by rfl) (q_no (by walk_at "a") (by rfl) (q_no (by walk_at "a") (by rfl) (q_no (by walk_at "a") (by rfl) (q_no (by walk_at "a") (by rfl) ?_)))))
          exact same2_seq hd.1 hd.2 ra rb (.inl (SqL.of ha)) (.inl (SqL.of hb)) q
  | tup ds =>
    cases n with
    | zero => cases hd
    | succ n =>
      simp only [Da.dep, Bool.and_eq_true, decide_eq_true_eq] at hd
      cases hx with
      | tup ha ra =>
        rename_i a us
        cases hy with
        | tup hb rb =>
          rename_i b ws
          have tx : TyX K H (.ref a) (.type "tuple") := tyT ha
          have ty : TyX K H (.ref b) (.type "tuple") := tyT hb
          refine q_no (by walk_at "a") (by rfl) (q_no (by walk_at "a") (by rfl) (q_no (by walk_at "a") (by rfl) (q_no (by walk_at "a") (by rfl) (q_no (by walk_at "a") (by rfl) (q_no (by walk_at "a") (by rfl) ?_)))))
          exact same2_seq hd.1 hd.2 ra rb (.inr ha) (.inr hb) q
  | _ => cases n <;> cases hd
end Cl
/-! ## Fx -/
namespace Cl
open PySem PySem.Spec PyProof.Rows L2
def tab : Tab := [(("BadBook", "UnknownName"), false), (("BadBook", "UnknownPage"), false), (("UnknownPage", "UnknownName"), false), (("UnknownPage", "UnknownPage"), true), (("UnknownName", "UnknownName"), true), (("UnknownName", "UnknownPage"), false)]
abbrev N_l_cell : List Str := ["_law_script", "_law_k"]
noncomputable def fb_l_cell : FS :=
  (fSeq (fIfS (fTest (fOp xLt (fVar 1) (fCB bLen (fCons (fVar 0) fNil)))) (fRet (fCB bAbs (fCons (fOp (xIx true false) (fVar 0) (fVar 1)) fNil))) fNext)
    (fRet (fC (.int 0))))
noncomputable def f_l_cell : Fn := fnOf0 2 N_l_cell.length fb_l_cell
abbrev N_l_pool : List Str := ["_law_script", "_law_k", "_law_cell_here"]
noncomputable def fb_l_pool : FS :=
  (fSeq (fSetD 2 (fCall f_l_cell (fCons (fVar 0) (fCons (fVar 1) fNil))))
    (fRet (fCell (fLst (fCons (fVar 2) (fCons (fCB bInt1 (fCons (fOp xGe (fVar 2) (fOp xPow (fC (.int 10)) (fC (.int 18)))) fNil)) (fCons (fOp xMul (fC (.int 1000)) (fVar 1)) fNil)))))))
noncomputable def f_l_pool : Fn := fnOf0 2 N_l_pool.length fb_l_pool
abbrev N_l_take : List Str := ["_law_pool_here", "_law_many", "_law_mixed", "_law_drawn"]
noncomputable def fb_l_take : FS :=
  (fSeq (fIfS (fAnd (fTest (fOp (xEq false) (fOp (xIx true false) (fVar 0) (fC (.int 1))) (fC (.int 1)))) (fTest (fOp xGt (fOp (xIx true false) (fVar 0) (fC (.int 0))) (fC (.int 1))))) (fSeq (fSetD 3 (fOp xMod (fCB bInt1 (fCons (fOp (xIx true false) (fVar 0) (fC (.int 0))) fNil)) (fVar 1)))
    (fSeq (fSetI 0 (fOp xDiv (fOp (xIx true false) (fVar 0) (fC (.int 0))) (fVar 1)) (fC (.int 0)))
    (fRet (fVar 3)))) fNext)
    (fSeq (fSetI 0 (fOp xAdd (fOp (xIx true false) (fVar 0) (fC (.int 2))) (fC (.int 1))) (fC (.int 2)))
    (fSeq (fSetD 2 (fOp xMod (fCB bInt1 (fCons (fOp xAdd (fOp xMul (fOp xAdd (fOp (xIx true false) (fVar 0) (fC (.int 0))) (fC (.int 7))) (fC (.int 48271))) (fOp xMul (fOp (xIx true false) (fVar 0) (fC (.int 2))) (fC (.int 69621)))) fNil)) (fC (.int 2147483629))))
    (fSeq (fSetD 2 (fOp xMod (fCB bInt1 (fCons (fOp xAdd (fOp xMul (fVar 2) (fC (.int 16807))) (fOp xMul (fOp (xIx true false) (fVar 0) (fC (.int 2))) (fC (.int 7919)))) fNil)) (fC (.int 2147483587))))
    (fSeq (fIfS (fTest (fOp xGt (fOp (xIx true false) (fVar 0) (fC (.int 0))) (fC (.int 15)))) (fSetD 2 (fOp xMod (fCB bInt1 (fCons (fOp xMul (fOp xDiv (fVar 2) (fC (.int 7))) (fOp xAdd (fOp xAdd (fOp xDiv (fVar 2) (fC (.int 1009))) (fOp (xIx true false) (fVar 0) (fC (.int 2)))) (fC (.int 3)))) fNil)) (fC (.int 2147483563)))) fNext)
    (fRet (fOp xMod (fCB bInt1 (fCons (fOp xDiv (fVar 2) (fC (.int 11))) fNil)) (fVar 1))))))))
noncomputable def f_l_take : Fn := fnOf0 2 N_l_take.length fb_l_take
abbrev N_l_word : List Str := ["_law_pool_here", "_law_others", "_law_letters", "_law_code", "_law_way", "_law_size", "_law_word_here", "_law_k", "_law_at"]
noncomputable def fl_l_word_0 : FS :=
  (fSeq (fSetD 6 (fOp xAddS (fVar 6) (fOp xIxS (fVar 2) (fOp xMod (fCB bInt1 (fCons (fVar 3) fNil)) (fC (.int 26))))))
    (fSetD 3 (fOp xDiv (fVar 3) (fC (.int 26)))))
noncomputable def fl_l_word_1 : FS :=
  (fIfS (fTest (fOp (xIn false) (fVar 6) (fVar 1))) (fSetD 6 (fOp xAddS (fOp xIxS (fVar 2) (fOp xMod (fCB bInt1 (fCons (fOp xAdd (fFind (fVar 2) (fOp xIxS (fVar 6) (fC (.int 0)))) (fC (.int 1))) fNil)) (fC (.int 26)))) (fSl xSlS (fVar 6) (fPart (fC (.int 1))) fNoP))) fNext)
noncomputable def fb_l_word : FS :=
  (fSeq (fSetD 2 (fC (.str "abcdefghijklmnopqrstuvwxyz")))
    (fSeq (fSetD 3 (fCall f_l_take (fCons (fVar 0) (fCons (fOp xMul (fC (.int 24)) (fOp xPow (fC (.int 26)) (fC (.int 8)))) fNil))))
    (fSeq (fSetD 4 (fOp xMod (fCB bInt1 (fCons (fVar 3) fNil)) (fC (.int 3))))
    (fSeq (fSetD 5 (fOp xAdd (fC (.int 1)) (fOp xMod (fCB bInt1 (fCons (fOp xDiv (fVar 3) (fC (.int 3))) fNil)) (fC (.int 8)))))
    (fSeq (fSetD 3 (fOp xDiv (fVar 3) (fC (.int 24))))
    (fSeq (fSetD 6 (fC (.str "")))
    (fSeq (fIfS (fAnd (fTest (fOp (xEq false) (fVar 4) (fC (.int 0)))) (fTest (fOp (xEqD true) (fVar 1) (fLst fNil)))) (fSeq (fSetD 6 (fOp (xIx true false) (fVar 1) (fNeg (fC (.int 1)))))
    (fSeq (fSetD 8 (fOp xMod (fCB bInt1 (fCons (fVar 5) fNil)) (fCB bLenS (fCons (fVar 6) fNil))))
    (fSetD 6 (fOp xAddS (fOp xAddS (fSl xSlS (fVar 6) fNoP (fPart (fVar 8))) (fOp xIxS (fVar 2) (fOp xMod (fCB bInt1 (fCons (fVar 3) fNil)) (fC (.int 26))))) (fSl xSlS (fVar 6) (fPart (fOp xAdd (fVar 8) (fC (.int 1)))) fNoP))))) (fFor (fiR1 (fCons (fVar 5) fNil)) (fgName 7) fl_l_word_0))
    (fSeq (fFor (fiR1 (fCons (fC (.int 26)) fNil)) (fgName 7) fl_l_word_1)
    (fRet (fVar 6))))))))))
noncomputable def f_l_word : Fn := fnOf0 2 N_l_word.length fb_l_word
abbrev N_l_words : List Str := ["_law_pool_here", "_law_many", "_law_words_here", "_law_k"]
noncomputable def fl_l_words_0 : FS :=
  (fAppS 2 (fCallL f_l_word (fCons (fVar 0) (fCons (fVar 2) fNil))))
noncomputable def fb_l_words : FS :=
  (fSeq (fSet 2 (fLst fNil))
    (fSeq (fFor (fiR1 (fCons (fVar 1) fNil)) (fgName 3) fl_l_words_0)
    (fRet (fVar 2))))
noncomputable def f_l_words : Fn := fnOf0 2 N_l_words.length fb_l_words
abbrev N_l_some : List Str := ["_law_pool_here", "_law_names", "_law_few", "_law_more", "_law_code", "_law_count", "_law_left", "_law_chosen", "_law_k", "_law_at"]
noncomputable def fl_l_some_0 : FS :=
  (fSeq (fSetD 9 (fOp xMod (fCB bInt1 (fCons (fVar 4) fNil)) (fCB bLen (fCons (fVar 6) fNil))))
    (fSeq (fSetD 4 (fOp xDiv (fVar 4) (fCB bLen (fCons (fVar 6) fNil))))
    (fSeq (fAppS 7 (fOp (xIx true false) (fVar 6) (fVar 9)))
    (fSetD 6 (fOp xCat (fSl xSlL (fVar 6) fNoP (fPart (fVar 9))) (fSl xSlL (fVar 6) (fPart (fOp xAdd (fVar 9) (fC (.int 1)))) fNoP))))))
noncomputable def fb_l_some : FS :=
  (fSeq (fSetD 4 (fCall f_l_take (fCons (fVar 0) (fCons (fOp xPow (fC (.int 10)) (fC (.int 9))) fNil))))
    (fSeq (fSetD 5 (fOp xAdd (fVar 2) (fOp xMod (fCB bInt1 (fCons (fVar 4) fNil)) (fOp xAdd (fOp xSub (fVar 3) (fVar 2)) (fC (.int 1))))))
    (fSeq (fSetD 4 (fOp xDiv (fVar 4) (fOp xAdd (fOp xSub (fVar 3) (fVar 2)) (fC (.int 1)))))
    (fSeq (fSetD 6 (fCB bList (fCons (fVar 1) fNil)))
    (fSeq (fSet 7 (fLst fNil))
    (fSeq (fFor (fiR1 (fCons (fVar 5) fNil)) (fgName 8) fl_l_some_0)
    (fRet (fVar 7))))))))
noncomputable def f_l_some : Fn := fnOf0 4 N_l_some.length fb_l_some
abbrev N_l_sheets : List Str := ["_law_pool_here", "_law_lines", "_law_names", "_law_dense", "_law_sheets_here", "_law_name", "_law_wanted"]
noncomputable def fl_l_sheets_0 : FS :=
  (fSeq (fFrz 1 (fSetD 6 (fCall f_l_some (fCons (fVar 0) (fCons (fVar 1) (fCons (fC (.int 0)) (fCons (fCB bLen (fCons (fVar 1) fNil)) fNil)))))))
    (fAppS 4 (fTup (fCons (fVar 5) (fCons (fVar 6) (fCons (fCall f_l_some (fCons (fVar 0) (fCons (fVar 2) (fCons (fC (.int 1)) (fCons (fVar 3) fNil))))) fNil))))))
noncomputable def fb_l_sheets : FS :=
  (fSeq (fSet 1 (fCall f_l_words (fCons (fVar 0) (fCons (fOp (xIx true false) (fLst (fCons (fC (.int 3)) (fCons (fC (.int 2)) (fCons (fC (.int 8)) (fCons (fC (.int 0)) (fCons (fC (.int 1)) (fCons (fC (.int 4)) fNil))))))) (fCall f_l_take (fCons (fVar 0) (fCons (fC (.int 6)) fNil)))) fNil))))
    (fSeq (fSetD 2 (fCall f_l_words (fCons (fVar 0) (fCons (fOp xAdd (fC (.int 1)) (fCall f_l_take (fCons (fVar 0) (fCons (fC (.int 4)) fNil)))) fNil))))
    (fSeq (fIfS (fAnd (fTest (fOp (xEq false) (fCall f_l_take (fCons (fVar 0) (fCons (fC (.int 3)) fNil))) (fC (.int 0)))) (fAnd (fTest (fOp (xEqD true) (fVar 1) (fLst fNil))) (fTest (fOp (xIn true) (fOp (xIx true false) (fVar 2) (fC (.int 0))) (fVar 1))))) (fSetI 1 (fOp (xIx true false) (fVar 2) (fC (.int 0))) (fC (.int 0))) fNext)
    (fSeq (fSetD 3 (fCB bMin2 (fCons (fCB bLen (fCons (fVar 2) fNil)) (fCons (fOp xAdd (fC (.int 1)) (fCall f_l_take (fCons (fVar 0) (fCons (fC (.int 4)) fNil)))) fNil))))
    (fSeq (fSet 4 (fLst fNil))
    (fSeq (fFor (fiL (fVar 2)) (fgName 5) fl_l_sheets_0)
    (fSeq (fSetD 3 (fCB bMin2 (fCons (fCB bLen (fCons (fVar 2) fNil)) (fCons (fOp xAdd (fC (.int 1)) (fCall f_l_take (fCons (fVar 0) (fCons (fC (.int 4)) fNil)))) fNil))))
    (fFrz 4 (fFrz 1 (fRet (fTup (fCons (fVar 4) (fCons (fCall f_l_some (fCons (fVar 0) (fCons (fVar 2) (fCons (fC (.int 1)) (fCons (fVar 3) fNil))))) (fCons (fVar 1) fNil))))))))))))))
noncomputable def f_l_sheets : Fn := fnOf0 1 N_l_sheets.length fb_l_sheets
abbrev N_l_handed : List Str := ["_law_sheets_here", "_law_sheet"]
noncomputable def fe_l_handed_0 : FE :=
  (fTup (fCons (fOp (xIx false true) (fVar 1) (fC (.int 0))) (fCons (fCell (fCB bList (fCons (fOp (xIx false true) (fVar 1) (fC (.int 1))) fNil))) (fCons (fCell (fCB bList (fCons (fOp (xIx false true) (fVar 1) (fC (.int 2))) fNil))) fNil))))
noncomputable def fb_l_handed : FS :=
  (fRet (fLc (fiB (fVar 0)) (fgName 1) fYes fe_l_handed_0 [1]))
noncomputable def f_l_handed : Fn := fnOf0 1 N_l_handed.length fb_l_handed
abbrev N_is_name : List Str := ["text", "char"]
noncomputable def fe_is_name_0 : FE :=
  (fOp (xInS false) (fVar 1) (fC (.str "abcdefghijklmnopqrstuvwxyz")))
noncomputable def fb_is_name : FS :=
  (fRet (fAndV (fChain xLe xLe (fC (.int 1)) (fCB bLenS (fCons (fVar 0) fNil)) (fC (.int 8))) (fCB bAll (fCons (fLc (fiS (fVar 0)) (fgName 1) fYes fe_is_name_0 [1]) fNil))))
noncomputable def f_is_name : Fn := fnOf0 1 N_is_name.length fb_is_name
abbrev N_all_different : List Str := ["things"]
noncomputable def fb_all_different : FS :=
  (fRet (fOp (xEq false) (fLenS (fVar 0)) (fCB bLen (fCons (fVar 0) fNil))))
noncomputable def f_all_different : Fn := fnOf0 1 N_all_different.length fb_all_different
abbrev N_are_names : List Str := ["texts", "text"]
noncomputable def fe_are_names_0 : FE :=
  (fCall f_is_name (fCons (fVar 1) fNil))
noncomputable def fb_are_names : FS :=
  (fRet (fAndV (fCB bAll (fCons (fLcX (fVar 0) (fgName 1) fYes fe_are_names_0 [1]) fNil)) (fCall f_all_different (fCons (fVar 0) fNil))))
noncomputable def f_are_names : Fn := fnOf0 1 N_are_names.length fb_are_names
abbrev N_are_some_of : List Str := ["names", "chosen", "name"]
noncomputable def fe_are_some_of_0 : FE :=
  (fOp (xIn false) (fVar 2) (fVar 0))
noncomputable def fb_are_some_of : FS :=
  (fRet (fAndV (fOp xGt (fCB bLen (fCons (fVar 1) fNil)) (fC (.int 0))) (fAndV (fCB bAll (fCons (fLcX (fVar 1) (fgName 2) fYes fe_are_some_of_0 [2]) fNil)) (fCall f_all_different (fCons (fVar 1) fNil)))))
noncomputable def f_are_some_of : Fn := fnOf0 2 N_are_some_of.length fb_are_some_of
abbrev N_Book_indexes_of : List Str := ["self", "chosen", "index", "name"]
noncomputable def fe_Book_indexes_of_0 : FE :=
  (fVar 2)
noncomputable def ft_Book_indexes_of_0 : FT :=
  (fTest (fOp (xIn false) (fVar 3) (fVar 1)))
noncomputable def fb_Book_indexes_of : FS :=
  (fRet (fCB bTup (fCons (fLc (fiET (fCons (fUn (fFld "Book" "names" (fVar 0))) fNil)) (fgTup 2 (fgCons (fgName 2) (fgCons (fgName 3) fgNil))) ft_Book_indexes_of_0 fe_Book_indexes_of_0 [2, 3]) fNil)))
noncomputable def f_Book_indexes_of : Fn := fnOf0 2 N_Book_indexes_of.length fb_Book_indexes_of
abbrev N_Book___init__ : List Str := ["self", "pages", "starts", "names", "place", "page", "name", "lines"]
noncomputable def fl_Book___init___0 : FS :=
  (fSeq (fPar 6 7 (fCons (fOp (xIx false true) (fVar 5) (fC (.int 0))) (fCons (fOp (xIx false true) (fVar 5) (fC (.int 1))) fNil)))
    (fSeq (fIfS (fOr (fNot (fTest (fCall f_is_name (fCons (fVar 6) fNil)))) (fOr (fTest (fOp (xIn false) (fVar 6) (fVar 3))) (fOr (fTest (fOp xGt (fCB bLen (fCons (fVar 7) fNil)) (fC (.int 8)))) (fNot (fTest (fCall f_are_names (fCons (fVar 7) fNil))))))) (fRaise "BadBook" ["part", "place"] (fCons (fC (.str "page")) (fCons (fVar 4) fNil))) fNext)
    (fAppS 3 (fVar 6))))
noncomputable def fl_Book___init___1 : FS :=
  (fFrz 3 (fIfS (fNot (fTest (fCall f_are_some_of (fCons (fVar 3) (fCons (fOp (xIx false true) (fVar 5) (fC (.int 2))) fNil))))) (fRaise "BadBook" ["part", "place"] (fCons (fC (.str "followers")) (fCons (fVar 4) fNil))) fNext))
noncomputable def fe_Book___init___0 : FE :=
  (fCB bTup (fCons (fOp (xIx false true) (fVar 5) (fC (.int 1))) fNil))
noncomputable def fe_Book___init___1 : FE :=
  (fMeth "Book" "indexes_of" f_Book_indexes_of (fVar 0) (fCons (fOp (xIx false true) (fVar 5) (fC (.int 2))) fNil))
noncomputable def fb_Book___init__ : FS :=
  (fSeq (fIfS (fNot (fTest (fChain xLe xLe (fC (.int 1)) (fCB bLen (fCons (fVar 1) fNil)) (fC (.int 4))))) (fRaise "BadBook" ["part", "place"] (fCons (fC (.str "pages")) (fCons (fC (.int 0)) fNil))) fNext)
    (fSeq (fSet 3 (fLst fNil))
    (fSeq (fForXE (fCons (fVar 1) fNil) (fgTup 2 (fgCons (fgName 4) (fgCons (fgName 5) fgNil))) fl_Book___init___0)
    (fSeq (fForXE (fCons (fVar 1) fNil) (fgTup 2 (fgCons (fgName 4) (fgCons (fgName 5) fgNil))) fl_Book___init___1)
    (fSeq (fFrz 3 (fIfS (fNot (fTest (fCall f_are_some_of (fCons (fVar 3) (fCons (fVar 2) fNil))))) (fRaise "BadBook" ["part", "place"] (fCons (fC (.str "starts")) (fCons (fC (.int 0)) fNil))) fNext))
    (fSeq (fSFld 0 "Book" "names" (fCB bTupN (fCons (fVar 3) fNil)))
    (fSeq (fSFld 0 "Book" "starts" (fLendE 0 (fMeth "Book" "indexes_of" f_Book_indexes_of (fVar 0) (fCons (fVar 2) fNil))))
    (fSeq (fSFld 0 "Book" "page_lines" (fCB bTup (fCons (fLcX (fVar 1) (fgName 5) fYes fe_Book___init___0 [5]) fNil)))
    (fSFld 0 "Book" "page_followers" (fLendE 0 (fCB bTup (fCons (fLcX (fVar 1) (fgName 5) fYes fe_Book___init___1 [5]) fNil))))))))))))
noncomputable def f_Book___init__ : FIn := inOf "Book" 3 N_Book___init__.length fb_Book___init__
abbrev N_l_places : List Str := ["_law_names", "_law_chosen", "_law_k"]
noncomputable def fe_l_places_0 : FE :=
  (fVar 2)
noncomputable def ft_l_places_0 : FT :=
  (fTest (fOp (xIn false) (fOp (xIx true false) (fVar 0) (fVar 2)) (fVar 1)))
noncomputable def fb_l_places : FS :=
  (fRet (fLc (fiR1 (fCons (fCB bLen (fCons (fVar 0) fNil)) fNil)) (fgName 2) ft_l_places_0 fe_l_places_0 [2]))
noncomputable def f_l_places : Fn := fnOf0 2 N_l_places.length fb_l_places
abbrev N_Book___len__ : List Str := ["self"]
noncomputable def fb_Book___len__ : FS :=
  (fRet (fCB bLen (fCons (fUn (fFld "Book" "names" (fVar 0))) fNil)))
noncomputable def f_Book___len__ : Fn := fnOf0 1 N_Book___len__.length fb_Book___len__
abbrev N_Book_check_page : List Str := ["self", "index"]
noncomputable def fb_Book_check_page : FS :=
  (fIfS (fNot (fTest (fChain xLe xLt (fC (.int 0)) (fVar 1) (fCB bLen (fCons (fUn (fFld "Book" "names" (fVar 0))) fNil))))) (fRaise "UnknownPage" ["number"] (fCons (fVar 1) fNil)) fNext)
noncomputable def f_Book_check_page : Fn := fnOf 2 N_Book_check_page.length fb_Book_check_page
abbrev N_Book_lines_of : List Str := ["self", "index"]
noncomputable def fb_Book_lines_of : FS :=
  (fSeq (fDrop (fMethX "Book" "check_page" f_Book_check_page (fVar 0) (fCons (fVar 1) fNil)))
    (fRet (fOp (xIx false true) (fFld "Book" "page_lines" (fVar 0)) (fVar 1))))
noncomputable def f_Book_lines_of : Fn := fnOf 2 N_Book_lines_of.length fb_Book_lines_of
abbrev N_Book_followers_of : List Str := ["self", "index"]
noncomputable def fb_Book_followers_of : FS :=
  (fSeq (fDrop (fMethX "Book" "check_page" f_Book_check_page (fVar 0) (fCons (fVar 1) fNil)))
    (fRet (fOp (xIx false true) (fFld "Book" "page_followers" (fVar 0)) (fVar 1))))
noncomputable def f_Book_followers_of : Fn := fnOf 2 N_Book_followers_of.length fb_Book_followers_of
abbrev N_Book_index : List Str := ["self", "name"]
noncomputable def fb_Book_index : FS :=
  (fSeq (fIfS (fTest (fOp (xIn true) (fVar 1) (fUn (fFld "Book" "names" (fVar 0))))) (fRaise "UnknownName" ["name"] (fCons (fVar 1) fNil)) fNext)
    (fRet (fIdxN (fFld "Book" "names" (fVar 0)) (fVar 1))))
noncomputable def f_Book_index : Fn := fnOf 2 N_Book_index.length fb_Book_index
abbrev N_l_shows : List Str := ["_law_book", "_law_sheets_here", "_law_starts", "_law_names", "_law_k", "_law_sheet"]
noncomputable def fe_l_shows_0 : FE :=
  (fOp (xIx false true) (fVar 5) (fC (.int 0)))
noncomputable def fl_l_shows_0 : FS :=
  (fSeq (fIfS (fNot (fTest (fCall f_l_same (fCons (fMethX "Book" "lines_of" f_Book_lines_of (fVar 0) (fCons (fVar 4) fNil)) (fCons (fCB bTup (fCons (fOp (xIx false true) (fOp (xIx true false) (fVar 1) (fVar 4)) (fC (.int 1))) fNil)) fNil))))) (fRet (fC (.bl false))) fNext)
    (fSeq (fIfS (fNot (fTest (fCall f_l_same (fCons (fMethX "Book" "followers_of" f_Book_followers_of (fVar 0) (fCons (fVar 4) fNil)) (fCons (fCB bTup (fCons (fCall f_l_places (fCons (fVar 3) (fCons (fOp (xIx false true) (fOp (xIx true false) (fVar 1) (fVar 4)) (fC (.int 2))) fNil))) fNil)) fNil))))) (fRet (fC (.bl false))) fNext)
    (fIfS (fNot (fTest (fCall f_l_same (fCons (fMethX "Book" "index" f_Book_index (fVar 0) (fCons (fOp (xIx true false) (fVar 3) (fVar 4)) fNil)) (fCons (fVar 4) fNil))))) (fRet (fC (.bl false))) fNext)))
noncomputable def fb_l_shows : FS :=
  (fSeq (fSetD 3 (fLc (fiB (fVar 1)) (fgName 5) fYes fe_l_shows_0 [5]))
    (fSeq (fIfS (fOr (fNot (fTest (fCall f_l_same (fCons (fUn (fFld "Book" "names" (fVar 0))) (fCons (fCB bTup (fCons (fVar 3) fNil)) fNil))))) (fNot (fTest (fCall f_l_same (fCons (fFld "Book" "starts" (fVar 0)) (fCons (fCB bTup (fCons (fCall f_l_places (fCons (fVar 3) (fCons (fVar 2) fNil))) fNil)) fNil)))))) (fRet (fC (.bl false))) fNext)
    (fSeq (fIfS (fTest (fOp (xEq true) (fLenO "Book" f_Book___len__ (fVar 0)) (fCB bLen (fCons (fVar 3) fNil)))) (fRet (fC (.bl false))) fNext)
    (fSeq (fFor (fiR1 (fCons (fCB bLen (fCons (fVar 3) fNil)) fNil)) (fgName 4) fl_l_shows_0)
    (fRet (fC (.bl true)))))))
noncomputable def f_l_shows : Fn := fnOf0 3 N_l_shows.length fb_l_shows
abbrev N_l_asked : List Str := ["_law_book", "_law_way", "_law_number"]
noncomputable def fb_l_asked : FS :=
  (fSeq (fIfS (fTest (fOp (xEq false) (fVar 1) (fC (.int 0)))) (fRet (fMethX "Book" "lines_of" f_Book_lines_of (fVar 0) (fCons (fVar 2) fNil))) fNext)
    (fRet (fMethX "Book" "followers_of" f_Book_followers_of (fVar 0) (fCons (fVar 2) fNil))))
noncomputable def f_l_asked : Fn := fnOf 3 N_l_asked.length fb_l_asked
abbrev N_l_refuses_page : List Str := ["_law_book", "_law_way", "_law_number", "_law_told", "_law_right", "_law_got", "e"]
noncomputable def fb_l_refuses_page : FS :=
  (fSeq (fSetD 3 (fC .non))
    (fSeq (fSetD 4 (fC (.bl false)))
    (fSeq (fTry tab (fSetD 5 (fCallS f_l_asked (fCons (fVar 0) (fCons (fVar 1) (fCons (fVar 2) fNil))))) [("UnknownPage", 6, fun e => (fSeq (fSetD 3 (fXf "UnknownPage" "number" e 6))
    (fSetD 4 (fAndV (fIsE "UnknownPage" true e 6) (fAndV (fIsE "UnknownPage" true e 6) (fNotV (fIsE "UnknownPage" false e 6)))))))])
    (fRet (fAndV (fVar 4) (fCall f_l_same (fCons (fVar 3) (fCons (fVar 2) fNil))))))))
noncomputable def f_l_refuses_page : Fn := fnOf0 3 N_l_refuses_page.length fb_l_refuses_page
abbrev N_l_refuses_name : List Str := ["_law_book", "_law_name", "_law_told", "_law_right", "_law_got", "e"]
noncomputable def fb_l_refuses_name : FS :=
  (fSeq (fSetD 2 (fC .non))
    (fSeq (fSetD 3 (fC (.bl false)))
    (fSeq (fTry tab (fSetD 4 (fMethX "Book" "index" f_Book_index (fVar 0) (fCons (fVar 1) fNil))) [("UnknownName", 5, fun e => (fSeq (fSetD 2 (fXf "UnknownName" "name" e 5))
    (fSetD 3 (fAndV (fIsE "UnknownName" true e 5) (fAndV (fIsE "UnknownName" true e 5) (fNotV (fIsE "UnknownName" false e 5)))))))])
    (fRet (fAndV (fVar 3) (fCall f_l_same (fCons (fVar 2) (fCons (fVar 1) fNil))))))))
noncomputable def f_l_refuses_name : Fn := fnOf0 2 N_l_refuses_name.length fb_l_refuses_name
abbrev N_Book___eq__ : List Str := ["self", "other"]
noncomputable def fb_Book___eq__ : FS :=
  (fRet (fAndV (fIsC "Book" (fVar 1)) (fAndV (fOp (xEqD false) (fUn (fFld "Book" "names" (fVar 0))) (fUn (fFld "Book" "names" (fVar 1)))) (fAndV (fOp (xEqD false) (fFld "Book" "page_lines" (fVar 0)) (fFld "Book" "page_lines" (fVar 1))) (fAndV (fOp (xEqD false) (fFld "Book" "page_followers" (fVar 0)) (fFld "Book" "page_followers" (fVar 1))) (fOp (xEqD false) (fFld "Book" "starts" (fVar 0)) (fFld "Book" "starts" (fVar 1))))))))
noncomputable def f_Book___eq__ : Fn := fnOf0 2 N_Book___eq__.length fb_Book___eq__
abbrev N_l_other_some : List Str := ["_law_names", "_law_chosen", "_law_lacking", "_law_name"]
noncomputable def fe_l_other_some_0 : FE :=
  (fVar 3)
noncomputable def ft_l_other_some_0 : FT :=
  (fTest (fOp (xIn true) (fVar 3) (fVar 1)))
noncomputable def fb_l_other_some : FS :=
  (fSeq (fSetD 2 (fLc (fiB (fVar 0)) (fgName 3) ft_l_other_some_0 fe_l_other_some_0 [3]))
    (fSeq (fIfS (fTest (fOp (xEqD true) (fVar 2) (fLst fNil))) (fRet (fOp xCat (fVar 1) (fLst (fCons (fOp (xIx true false) (fVar 2) (fC (.int 0))) fNil)))) fNext)
    (fSeq (fIfS (fTest (fOp xGt (fCB bLen (fCons (fVar 1) fNil)) (fC (.int 1)))) (fRet (fSl xSlL (fVar 1) fNoP (fPart (fOp xSub (fCB bLen (fCons (fVar 1) fNil)) (fC (.int 1)))))) fNext)
    (fRet (fC .non)))))
noncomputable def f_l_other_some : Fn := fnOf0 2 N_l_other_some.length fb_l_other_some
abbrev N_l_renamed : List Str := ["_law_words_here", "_law_name", "_law_fresh", "_law_word_here"]
noncomputable def fe_l_renamed_0 : FE :=
  (fIf (fTest (fOp (xEq false) (fVar 3) (fVar 1))) (fVar 2) (fVar 3))
noncomputable def fb_l_renamed : FS :=
  (fRet (fLc (fiB (fVar 0)) (fgName 3) fYes fe_l_renamed_0 [3]))
noncomputable def f_l_renamed : Fn := fnOf0 3 N_l_renamed.length fb_l_renamed
abbrev N_l_near : List Str := ["_law_sheets_here", "_law_starts", "_law_way", "_law_place", "_law_fresh", "_law_names", "_law_here", "_law_lines", "_law_followers", "_law_first", "_law_turned", "_law_sheet", "_law_title"]
noncomputable def fe_l_near_0 : FE :=
  (fOp (xIx false true) (fVar 11) (fC (.int 0)))
noncomputable def fl_l_near_0 : FS :=
  (fSeq (fSetD 12 (fOp (xIx true false) (fCall f_l_renamed (fCons (fLst (fCons (fOp (xIx false true) (fVar 11) (fC (.int 0))) fNil)) (fCons (fOp (xIx false true) (fVar 6) (fC (.int 0))) (fCons (fVar 4) fNil)))) (fC (.int 0))))
    (fAppS 10 (fTup (fCons (fVar 12) (fCons (fOp (xIx false true) (fVar 11) (fC (.int 1))) (fCons (fCall f_l_renamed (fCons (fOp (xIx false true) (fVar 11) (fC (.int 2))) (fCons (fOp (xIx false true) (fVar 6) (fC (.int 0))) (fCons (fVar 4) fNil)))) fNil))))))
noncomputable def fb_l_near : FS :=
  (fSeq (fSetD 5 (fLc (fiB (fVar 0)) (fgName 11) fYes fe_l_near_0 [11]))
    (fSeq (fSetD 6 (fOp (xIx true false) (fVar 0) (fVar 3)))
    (fSeq (fIfS (fTest (fOp (xEq false) (fVar 2) (fC (.int 0)))) (fSeq (fSetD 7 (fOp xCat (fOp (xIx false true) (fVar 6) (fC (.int 1))) (fLst (fCons (fVar 4) fNil))))
    (fSeq (fIfS (fTest (fOp (xEqD true) (fOp (xIx false true) (fVar 6) (fC (.int 1))) (fLst fNil))) (fSetD 7 (fSl xSlL (fOp (xIx false true) (fVar 6) (fC (.int 1))) (fPart (fC (.int 1))) fNoP)) fNext)
    (fRet (fTup (fCons (fOp xCat (fOp xCat (fSl xSlL (fVar 0) fNoP (fPart (fVar 3))) (fLst (fCons (fTup (fCons (fOp (xIx false true) (fVar 6) (fC (.int 0))) (fCons (fVar 7) (fCons (fOp (xIx false true) (fVar 6) (fC (.int 2))) fNil)))) fNil))) (fSl xSlL (fVar 0) (fPart (fOp xAdd (fVar 3) (fC (.int 1)))) fNoP)) (fCons (fVar 1) fNil)))))) fNext)
    (fSeq (fIfS (fTest (fOp (xEq false) (fVar 2) (fC (.int 1)))) (fSeq (fSetD 8 (fCall f_l_other_some (fCons (fVar 5) (fCons (fOp (xIx false true) (fVar 6) (fC (.int 2))) fNil))))
    (fSeq (fIfS (fTest (fOp (xIsN false) (fVar 8) (fC .non))) (fRet (fC .non)) fNext)
    (fRet (fTup (fCons (fOp xCat (fOp xCat (fSl xSlL (fVar 0) fNoP (fPart (fVar 3))) (fLst (fCons (fTup (fCons (fOp (xIx false true) (fVar 6) (fC (.int 0))) (fCons (fOp (xIx false true) (fVar 6) (fC (.int 1))) (fCons (fVar 8) fNil)))) fNil))) (fSl xSlL (fVar 0) (fPart (fOp xAdd (fVar 3) (fC (.int 1)))) fNoP)) (fCons (fVar 1) fNil)))))) fNext)
    (fSeq (fIfS (fTest (fOp (xEq false) (fVar 2) (fC (.int 2)))) (fSeq (fSetD 9 (fCall f_l_other_some (fCons (fVar 5) (fCons (fVar 1) fNil))))
    (fSeq (fIfS (fTest (fOp (xIsN false) (fVar 9) (fC .non))) (fRet (fC .non)) fNext)
    (fRet (fTup (fCons (fVar 0) (fCons (fVar 9) fNil)))))) fNext)
    (fSeq (fIfS (fTest (fOp (xEq false) (fVar 2) (fC (.int 3)))) (fSeq (fSet 10 (fLst fNil))
    (fSeq (fFor (fiL (fVar 0)) (fgName 11) fl_l_near_0)
    (fFrz 10 (fRet (fTup (fCons (fVar 10) (fCons (fCall f_l_renamed (fCons (fVar 1) (fCons (fOp (xIx false true) (fVar 6) (fC (.int 0))) (fCons (fVar 4) fNil)))) fNil))))))) fNext)
    (fSeq (fIfS (fAnd (fTest (fOp (xEq false) (fVar 2) (fC (.int 4)))) (fTest (fOp xGt (fCB bLen (fCons (fVar 0) fNil)) (fC (.int 1))))) (fRet (fTup (fCons (fOp xCat (fSl xSlL (fVar 0) (fPart (fC (.int 1))) fNoP) (fSl xSlL (fVar 0) fNoP (fPart (fC (.int 1))))) (fCons (fVar 1) fNil)))) fNext)
    (fSeq (fIfS (fAnd (fTest (fOp (xEq false) (fVar 2) (fC (.int 5)))) (fTest (fOp xLt (fCB bLen (fCons (fVar 0) fNil)) (fC (.int 4))))) (fRet (fTup (fCons (fOp xCat (fVar 0) (fLst (fCons (fTup (fCons (fVar 4) (fCons (fLst fNil) (fCons (fLst (fCons (fVar 4) fNil)) fNil)))) fNil))) (fCons (fVar 1) fNil)))) fNext)
    (fRet (fC .non))))))))))
noncomputable def f_l_near : Fn := fnOf0 5 N_l_near.length fb_l_near
abbrev N_l_unlike : List Str := ["_law_book", "_law_sheets_here", "_law_starts", "_law_place", "_law_fresh", "_law_way", "_law_near_here", "_law_other"]
noncomputable def fl_l_unlike_0 : FS :=
  (fSeq (fSetD 6 (fCall f_l_near (fCons (fVar 1) (fCons (fVar 2) (fCons (fVar 5) (fCons (fVar 3) (fCons (fVar 4) fNil)))))))
    (fIfS (fTest (fOp (xIsN true) (fVar 6) (fC .non))) (fSeq (fSetD 7 (fMakeX f_Book___init__ (fCons (fCall f_l_handed (fCons (fOp (xIx false true) (fVar 6) (fC (.int 0))) fNil)) (fCons (fCB bList (fCons (fOp (xIx false true) (fVar 6) (fC (.int 1))) fNil)) fNil))))
    (fSeq (fIfS (fNot (fTest (fCall f_l_shows (fCons (fVar 7) (fCons (fOp (xIx false true) (fVar 6) (fC (.int 0))) (fCons (fOp (xIx false true) (fVar 6) (fC (.int 1))) fNil)))))) (fRet (fC (.bl false))) fNext)
    (fIfS (fOr (fNot (fTest (fCall f_l_same (fCons (fOwnEq "Book" f_Book___eq__ (fVar 0) (fVar 7)) (fCons (fC (.bl false)) fNil))))) (fNot (fTest (fCall f_l_same (fCons (fOwnEq "Book" f_Book___eq__ (fVar 7) (fVar 0)) (fCons (fC (.bl false)) fNil)))))) (fRet (fC (.bl false))) fNext))) fNext))
noncomputable def fb_l_unlike : FS :=
  (fSeq (fFor (fiR1 (fCons (fC (.int 6)) fNil)) (fgName 5) fl_l_unlike_0)
    (fRet (fC (.bl true))))
noncomputable def f_l_unlike : Fn := fnOf0 5 N_l_unlike.length fb_l_unlike
abbrev N_law : List Str := ["_law_script", "_law_pool_here", "_law_drawn", "_law_sheets_here", "_law_starts", "_law_names", "_law_place", "_law_fresh", "_law_handed_here", "_law_first", "_law_book", "_law_number", "_law_word_here", "_law_row", "_law_back", "_law_twin", "_law_sheet"]
noncomputable def fe_law_0 : FE :=
  (fOp (xIx false true) (fVar 16) (fC (.int 0)))
noncomputable def fl_law_0 : FS :=
  (fIfS (fOr (fNot (fTest (fCall f_l_refuses_page (fCons (fVar 10) (fCons (fC (.int 0)) (fCons (fVar 11) fNil)))))) (fNot (fTest (fCall f_l_refuses_page (fCons (fVar 10) (fCons (fC (.int 1)) (fCons (fVar 11) fNil))))))) (fRet (fC (.bl false))) fNext)
noncomputable def fl_law_1 : FS :=
  (fIfS (fAnd (fTest (fOp (xIn true) (fVar 12) (fVar 5))) (fNot (fTest (fCall f_l_refuses_name (fCons (fVar 10) (fCons (fVar 12) fNil)))))) (fRet (fC (.bl false))) fNext)
noncomputable def fe_law_1 : FE :=
  (fTup (fCons (fOp (xIx false true) (fVar 16) (fC (.int 0))) (fCons (fCB bList (fCons (fOp (xIx false true) (fVar 16) (fC (.int 1))) fNil)) (fCons (fRev (fOp (xIx false true) (fVar 16) (fC (.int 2)))) fNil))))
noncomputable def fb_law : FS :=
  (fSeq (fSetD 1 (fCall f_l_pool (fCons (fVar 0) (fCons (fC (.int 0)) fNil))))
    (fSeq (fSetD 2 (fCall f_l_sheets (fCons (fVar 1) fNil)))
    (fSeq (fSetD 3 (fOp (xIx false true) (fVar 2) (fC (.int 0))))
    (fSeq (fSetD 4 (fOp (xIx false true) (fVar 2) (fC (.int 1))))
    (fSeq (fSetD 5 (fLc (fiB (fVar 3)) (fgName 16) fYes fe_law_0 [16]))
    (fSeq (fSetD 1 (fCall f_l_pool (fCons (fVar 0) (fCons (fC (.int 1)) fNil))))
    (fSeq (fSetD 6 (fCall f_l_take (fCons (fVar 1) (fCons (fCB bLen (fCons (fVar 5) fNil)) fNil))))
    (fSeq (fSetD 7 (fCall f_l_word (fCons (fVar 1) (fCons (fOp xCat (fVar 5) (fOp (xIx false true) (fVar 2) (fC (.int 2)))) fNil))))
    (fSeq (fSetD 8 (fCell (fCall f_l_handed (fCons (fVar 3) fNil))))
    (fSeq (fSetD 9 (fCell (fCB bList (fCons (fVar 4) fNil))))
    (fSeq (fSetD 10 (fMakeX f_Book___init__ (fCons (fVar 8) (fCons (fVar 9) fNil))))
    (fSeq (fIfS (fNot (fTest (fCall f_l_shows (fCons (fVar 10) (fCons (fVar 3) (fCons (fVar 4) fNil)))))) (fRet (fC (.bl false))) fNext)
    (fSeq (fFor (fiL (fLst (fCons (fNeg (fC (.int 1))) (fCons (fOp xSub (fNeg (fC (.int 1))) (fCall f_l_take (fCons (fVar 1) (fCons (fOp xPow (fC (.int 10)) (fC (.int 9))) fNil)))) (fCons (fCB bLen (fCons (fVar 5) fNil)) (fCons (fOp xAdd (fCB bLen (fCons (fVar 5) fNil)) (fCall f_l_take (fCons (fVar 1) (fCons (fOp xSub (fOp xPow (fC (.int 10)) (fC (.int 9))) (fC (.int 9))) fNil)))) fNil)))))) (fgName 11) fl_law_0)
    (fSeq (fFor (fiL (fOp xCat (fLst (fCons (fVar 7) (fCons (fC (.str "")) (fCons (fOp xAddS (fOp (xIx true false) (fVar 5) (fC (.int 0))) (fC (.str " "))) (fCons (fOp xAddS (fOp (xIx true false) (fVar 5) (fVar 6)) (fOp (xIx true false) (fVar 5) (fVar 6))) (fCons (fSl xSlS (fOp (xIx true false) (fVar 5) (fVar 6)) (fPart (fC (.int 1))) fNoP) fNil)))))) (fOp (xIx false true) (fVar 2) (fC (.int 2))))) (fgName 12) fl_law_1)
    (fSeq (fIfS (fOr (fNot (fTest (fCall f_l_same (fCons (fVar 8) (fCons (fVar 3) fNil))))) (fNot (fTest (fCall f_l_same (fCons (fVar 9) (fCons (fVar 4) fNil)))))) (fRet (fC (.bl false))) fNext)
    (fSeq (fSetD 13 (fOp (xIx false true) (fOp (xIx true false) (fVar 8) (fVar 6)) (fC (.int 1))))
    (fSeq (fInsE (fVar 13) (fC (.int 0)) (fVar 7))
    (fSeq (fSetD 13 (fOp (xIx false true) (fOp (xIx true false) (fVar 8) (fVar 6)) (fC (.int 2))))
    (fSeq (fAppE (fVar 13) (fVar 7))
    (fSeq (fAppE (fVar 8) (fTup (fCons (fVar 7) (fCons (fCell (fLst fNil)) (fCons (fCell (fLst (fCons (fVar 7) fNil))) fNil)))))
    (fSeq (fAppE (fVar 9) (fVar 7))
    (fSeq (fIfS (fOr (fNot (fTest (fCall f_l_shows (fCons (fVar 10) (fCons (fVar 3) (fCons (fVar 4) fNil)))))) (fNot (fTest (fCall f_l_unlike (fCons (fVar 10) (fCons (fVar 3) (fCons (fVar 4) (fCons (fVar 6) (fCons (fVar 7) fNil))))))))) (fRet (fC (.bl false))) fNext)
    (fSeq (fSetD 14 (fLc (fiB (fVar 3)) (fgName 16) fYes fe_law_1 [16]))
    (fSeq (fSetD 15 (fMakeX f_Book___init__ (fCons (fVar 14) (fCons (fRev (fVar 4)) fNil))))
    (fRet (fAndV (fCall f_l_same (fCons (fOwnEq "Book" f_Book___eq__ (fVar 10) (fVar 15)) (fCons (fC (.bl true)) fNil))) (fAndV (fCall f_l_same (fCons (fOwnEq "Book" f_Book___eq__ (fVar 15) (fVar 10)) (fCons (fC (.bl true)) fNil))) (fCall f_l_shows (fCons (fVar 15) (fCons (fVar 3) (fCons (fVar 4) fNil)))))))))))))))))))))))))))))))
noncomputable def f_law : Fn := fnOf0 1 N_law.length fb_law
end Cl
/-! ## Tx -/
namespace Cl
open PySem PySem.Spec PyProof.Rows L2
def t_l_cell (K : PySem.W.Frag) : TS :=
  (tSeq (tIfS (tTest (tOp oLt (tVar 1) (tCB (rLen K) (tCons (tVar 0) tNil)))) (tRet (tCB rAbs (tCons (tOp (rIxL K) (tVar 0) (tVar 1)) tNil))) tNext)
    (tRet (tC (.int 0))))
def t_l_pool (K : PySem.W.Frag) : TS :=
  (tSeq (tAsg (tCall (spOf K f_l_cell) [] E0 (tCons (tVar 0) (tCons (tVar 1) tNil))) (gName 2))
    (tRet (tLst (tCons (tVar 2) (tCons (tCB rInt1 (tCons (tOp oGe (tVar 2) (tOp oPow (tC (.int 10)) (tC (.int 18)))) tNil)) (tCons (tOp oMul (tC (.int 1000)) (tVar 1)) tNil))))))
def t_l_take (K : PySem.W.Frag) : TS :=
  (tSeq (tIfS (tAnd (tTest (tOp rEq (tOp (rIxL K) (tVar 0) (tC (.int 1))) (tC (.int 1)))) (tTest (tOp oGt (tOp (rIxL K) (tVar 0) (tC (.int 0))) (tC (.int 1))))) (tSeq (tAsg (tOp oMod (tCB rInt1 (tCons (tOp (rIxL K) (tVar 0) (tC (.int 0))) tNil)) (tVar 1)) (gName 3))
    (tSeq (tAsg (tOp oDiv (tOp (rIxL K) (tVar 0) (tC (.int 0))) (tVar 1)) (gSub (tVar 0) (tC (.int 0)) rSetL))
    (tRet (tVar 3)))) tNext)
    (tSeq (tAsg (tOp oAdd (tOp (rIxL K) (tVar 0) (tC (.int 2))) (tC (.int 1))) (gSub (tVar 0) (tC (.int 2)) rSetL))
    (tSeq (tAsg (tOp oMod (tCB rInt1 (tCons (tOp oAdd (tOp oMul (tOp oAdd (tOp (rIxL K) (tVar 0) (tC (.int 0))) (tC (.int 7))) (tC (.int 48271))) (tOp oMul (tOp (rIxL K) (tVar 0) (tC (.int 2))) (tC (.int 69621)))) tNil)) (tC (.int 2147483629))) (gName 2))
    (tSeq (tAsg (tOp oMod (tCB rInt1 (tCons (tOp oAdd (tOp oMul (tVar 2) (tC (.int 16807))) (tOp oMul (tOp (rIxL K) (tVar 0) (tC (.int 2))) (tC (.int 7919)))) tNil)) (tC (.int 2147483587))) (gName 2))
    (tSeq (tIfS (tTest (tOp oGt (tOp (rIxL K) (tVar 0) (tC (.int 0))) (tC (.int 15)))) (tAsg (tOp oMod (tCB rInt1 (tCons (tOp oMul (tOp oDiv (tVar 2) (tC (.int 7))) (tOp oAdd (tOp oAdd (tOp oDiv (tVar 2) (tC (.int 1009))) (tOp (rIxL K) (tVar 0) (tC (.int 2)))) (tC (.int 3)))) tNil)) (tC (.int 2147483563))) (gName 2)) tNext)
    (tRet (tOp oMod (tCB rInt1 (tCons (tOp oDiv (tVar 2) (tC (.int 11))) tNil)) (tVar 1))))))))
def t_l_word (K : PySem.W.Frag) : TS :=
  (tSeq (tAsg (tC (.str "abcdefghijklmnopqrstuvwxyz")) (gName 2))
    (tSeq (tAsg (tCall (spOf K f_l_take) [] E0 (tCons (tVar 0) (tCons (tOp oMul (tC (.int 24)) (tOp oPow (tC (.int 26)) (tC (.int 8)))) tNil))) (gName 3))
    (tSeq (tAsg (tOp oMod (tCB rInt1 (tCons (tVar 3) tNil)) (tC (.int 3))) (gName 4))
    (tSeq (tAsg (tOp oAdd (tC (.int 1)) (tOp oMod (tCB rInt1 (tCons (tOp oDiv (tVar 3) (tC (.int 3))) tNil)) (tC (.int 8)))) (gName 5))
    (tSeq (tAsg (tOp oDiv (tVar 3) (tC (.int 24))) (gName 3))
    (tSeq (tAsg (tC (.str "")) (gName 6))
    (tSeq (tIfS (tAnd (tTest (tOp rEq (tVar 4) (tC (.int 0)))) (tTest (tOp (rNeD K) (tVar 1) (tLst tNil)))) (tSeq (tAsg (tOp (rIxL K) (tVar 1) (tUn uNeg (tC (.int 1)))) (gName 6))
    (tSeq (tAsg (tOp oMod (tCB rInt1 (tCons (tVar 5) tNil)) (tCB qLenS (tCons (tVar 6) tNil))) (gName 8))
    (tAsg (tOp rAddStr (tOp rAddStr (tSl rSlS (tVar 6) tNoPart (tPart (tVar 8))) (tOp rIxS (tVar 2) (tOp oMod (tCB rInt1 (tCons (tVar 3) tNil)) (tC (.int 26))))) (tSl rSlS (tVar 6) (tPart (tOp oAdd (tVar 8) (tC (.int 1)))) tNoPart)) (gName 6)))) (tFor (iRng1 (tCons (tVar 5) tNil)) (gName 7) (tSeq (tAsg (tOp rAddStr (tVar 6) (tOp rIxS (tVar 2) (tOp oMod (tCB rInt1 (tCons (tVar 3) tNil)) (tC (.int 26))))) (gName 6))
    (tAsg (tOp oDiv (tVar 3) (tC (.int 26))) (gName 3)))))
    (tSeq (tFor (iRng1 (tCons (tC (.int 26)) tNil)) (gName 7) (tIfS (tTest (tOp (rIn K false) (tVar 6) (tVar 1))) (tAsg (tOp rAddStr (tOp rIxS (tVar 2) (tOp oMod (tCB rInt1 (tCons (tOp oAdd (tBM K "str" qFind (tVar 2) (tCons (tOp rIxS (tVar 6) (tC (.int 0))) tNil)) (tC (.int 1))) tNil)) (tC (.int 26)))) (tSl rSlS (tVar 6) (tPart (tC (.int 1))) tNoPart)) (gName 6)) tNext))
    (tRet (tVar 6))))))))))
def t_l_words (K : PySem.W.Frag) : TS :=
  (tSeq (tAsg (tLst tNil) (gName 2))
    (tSeq (tFor (iRng1 (tCons (tVar 1) tNil)) (gName 3) (tDrop (tBM K "list" rAppend (tVar 2) (tCons (tCall (spOf K f_l_word) [] E0 (tCons (tVar 0) (tCons (tVar 2) tNil))) tNil))))
    (tRet (tVar 2))))
def t_l_some (K : PySem.W.Frag) : TS :=
  (tSeq (tAsg (tCall (spOf K f_l_take) [] E0 (tCons (tVar 0) (tCons (tOp oPow (tC (.int 10)) (tC (.int 9))) tNil))) (gName 4))
    (tSeq (tAsg (tOp oAdd (tVar 2) (tOp oMod (tCB rInt1 (tCons (tVar 4) tNil)) (tOp oAdd (tOp oSub (tVar 3) (tVar 2)) (tC (.int 1))))) (gName 5))
    (tSeq (tAsg (tOp oDiv (tVar 4) (tOp oAdd (tOp oSub (tVar 3) (tVar 2)) (tC (.int 1)))) (gName 4))
    (tSeq (tAsg (tCB (rListOf K) (tCons (tVar 1) tNil)) (gName 6))
    (tSeq (tAsg (tLst tNil) (gName 7))
    (tSeq (tFor (iRng1 (tCons (tVar 5) tNil)) (gName 8) (tSeq (tAsg (tOp oMod (tCB rInt1 (tCons (tVar 4) tNil)) (tCB (rLen K) (tCons (tVar 6) tNil))) (gName 9))
    (tSeq (tAsg (tOp oDiv (tVar 4) (tCB (rLen K) (tCons (tVar 6) tNil))) (gName 4))
    (tSeq (tDrop (tBM K "list" rAppend (tVar 7) (tCons (tOp (rIxL K) (tVar 6) (tVar 9)) tNil)))
    (tAsg (tOp rCat (tSl (rSlL K) (tVar 6) tNoPart (tPart (tVar 9))) (tSl (rSlL K) (tVar 6) (tPart (tOp oAdd (tVar 9) (tC (.int 1)))) tNoPart)) (gName 6))))))
    (tRet (tVar 7))))))))
def t_l_sheets (K : PySem.W.Frag) : TS :=
  (tSeq (tAsg (tCall (spOf K f_l_words) [] E0 (tCons (tVar 0) (tCons (tOp (rIxL K) (tLst (tCons (tC (.int 3)) (tCons (tC (.int 2)) (tCons (tC (.int 8)) (tCons (tC (.int 0)) (tCons (tC (.int 1)) (tCons (tC (.int 4)) tNil))))))) (tCall (spOf K f_l_take) [] E0 (tCons (tVar 0) (tCons (tC (.int 6)) tNil)))) tNil))) (gName 1))
    (tSeq (tAsg (tCall (spOf K f_l_words) [] E0 (tCons (tVar 0) (tCons (tOp oAdd (tC (.int 1)) (tCall (spOf K f_l_take) [] E0 (tCons (tVar 0) (tCons (tC (.int 4)) tNil)))) tNil))) (gName 2))
    (tSeq (tIfS (tAnd (tTest (tOp rEq (tCall (spOf K f_l_take) [] E0 (tCons (tVar 0) (tCons (tC (.int 3)) tNil))) (tC (.int 0)))) (tAnd (tTest (tOp (rNeD K) (tVar 1) (tLst tNil))) (tTest (tOp (rIn K true) (tOp (rIxL K) (tVar 2) (tC (.int 0))) (tVar 1))))) (tAsg (tOp (rIxL K) (tVar 2) (tC (.int 0))) (gSub (tVar 1) (tC (.int 0)) rSetL)) tNext)
    (tSeq (tAsg (tCB rMin2 (tCons (tCB (rLen K) (tCons (tVar 2) tNil)) (tCons (tOp oAdd (tC (.int 1)) (tCall (spOf K f_l_take) [] E0 (tCons (tVar 0) (tCons (tC (.int 4)) tNil)))) tNil))) (gName 3))
    (tSeq (tAsg (tLst tNil) (gName 4))
    (tSeq (tFor (iList K (tVar 2)) (gName 5) (tSeq (tAsg (tCall (spOf K f_l_some) [] E0 (tCons (tVar 0) (tCons (tVar 1) (tCons (tC (.int 0)) (tCons (tCB (rLen K) (tCons (tVar 1) tNil)) tNil))))) (gName 6))
    (tDrop (tBM K "list" rAppend (tVar 4) (tCons (tTup (tCons (tVar 5) (tCons (tVar 6) (tCons (tCall (spOf K f_l_some) [] E0 (tCons (tVar 0) (tCons (tVar 2) (tCons (tC (.int 1)) (tCons (tVar 3) tNil))))) tNil)))) tNil)))))
    (tSeq (tAsg (tCB rMin2 (tCons (tCB (rLen K) (tCons (tVar 2) tNil)) (tCons (tOp oAdd (tC (.int 1)) (tCall (spOf K f_l_take) [] E0 (tCons (tVar 0) (tCons (tC (.int 4)) tNil)))) tNil))) (gName 3))
    (tRet (tTup (tCons (tVar 4) (tCons (tCall (spOf K f_l_some) [] E0 (tCons (tVar 0) (tCons (tVar 2) (tCons (tC (.int 1)) (tCons (tVar 3) tNil))))) (tCons (tVar 1) tNil))))))))))))
def t_l_handed (K : PySem.W.Frag) : TS :=
  (tRet (tLc (iList K (tVar 0)) (gName 1) tYes (tTup (tCons (tOp (rIxT K) (tVar 1) (tC (.int 0))) (tCons (tCB (rListOf K) (tCons (tOp (rIxT K) (tVar 1) (tC (.int 1))) tNil)) (tCons (tCB (rListOf K) (tCons (tOp (rIxT K) (tVar 1) (tC (.int 2))) tNil)) tNil)))) [1]))
def t_is_name (K : PySem.W.Frag) : TS :=
  (tRet (tAndV (tChain oLe oLe (tC (.int 1)) (tCB qLenS (tCons (tVar 0) tNil)) (tC (.int 8))) (tCB (rAll K) (tCons (tLc (iStr (tVar 0)) (gName 1) tYes (tOp rInS (tVar 1) (tC (.str "abcdefghijklmnopqrstuvwxyz"))) [1]) tNil))))
def t_all_different (K : PySem.W.Frag) : TS :=
  (tRet (tOp rEq (tLenS K (tVar 0)) (tCB (rLen K) (tCons (tVar 0) tNil))))
def t_are_names (K : PySem.W.Frag) : TS :=
  (tRet (tAndV (tCB (rAll K) (tCons (tLc (iList K (tVar 0)) (gName 1) tYes (tCall (spOf K f_is_name) [] E0 (tCons (tVar 1) tNil)) [1]) tNil)) (tCall (spOf K f_all_different) [] E0 (tCons (tVar 0) tNil))))
def t_are_some_of (K : PySem.W.Frag) : TS :=
  (tRet (tAndV (tOp oGt (tCB (rLen K) (tCons (tVar 1) tNil)) (tC (.int 0))) (tAndV (tCB (rAll K) (tCons (tLc (iList K (tVar 1)) (gName 2) tYes (tOp (rIn K false) (tVar 2) (tVar 0)) [2]) tNil)) (tCall (spOf K f_all_different) [] E0 (tCons (tVar 1) tNil)))))
def t_Book_indexes_of (K : PySem.W.Frag) : TS :=
  (tRet (tCB (rTupOf K) (tCons (tLc (iEnumT K (tCons (tFld K (tVar 0) "names") tNil)) (gTup K 2 (gCons (gName 2) (gCons (gName 3) gNil))) (tTest (tOp (rIn K false) (tVar 3) (tVar 1))) (tVar 2) [2, 3]) tNil)))
def t_Book___init__ (K : PySem.W.Frag) (E : XK) : TS :=
  (tSeq (tIfS (tNot (tTest (tChain oLe oLe (tC (.int 1)) (tCB (rLen K) (tCons (tVar 1) tNil)) (tC (.int 4))))) (tRaise (tMkE (He.ga K "BadBook") ["part", "place"] (tCons (tC (.str "pages")) (tCons (tC (.int 0)) tNil))) (W0 E)) tNext)
    (tSeq (tAsg (tLst tNil) (gName 3))
    (tSeq (tFor (iEnum K (tCons (tVar 1) tNil)) (gTup K 2 (gCons (gName 4) (gCons (gName 5) gNil))) (tSeq (tPar 6 7 (tCons (tOp (rIxT K) (tVar 5) (tC (.int 0))) (tCons (tOp (rIxT K) (tVar 5) (tC (.int 1))) tNil)))
    (tSeq (tIfS (tOr (tNot (tB (tCall (spOf K f_is_name) [] E0 (tCons (tVar 6) tNil)))) (tOr (tTest (tOp (rIn K false) (tVar 6) (tVar 3))) (tOr (tTest (tOp oGt (tCB (rLen K) (tCons (tVar 7) tNil)) (tC (.int 8)))) (tNot (tB (tCall (spOf K f_are_names) [] E0 (tCons (tVar 7) tNil))))))) (tRaise (tMkE (He.ga K "BadBook") ["part", "place"] (tCons (tC (.str "page")) (tCons (tVar 4) tNil))) (W0 E)) tNext)
    (tDrop (tBM K "list" rAppend (tVar 3) (tCons (tVar 6) tNil))))))
    (tSeq (tFor (iEnum K (tCons (tVar 1) tNil)) (gTup K 2 (gCons (gName 4) (gCons (gName 5) gNil))) (tIfS (tNot (tB (tCall (spOf K f_are_some_of) [] E0 (tCons (tVar 3) (tCons (tOp (rIxT K) (tVar 5) (tC (.int 2))) tNil))))) (tRaise (tMkE (He.ga K "BadBook") ["part", "place"] (tCons (tC (.str "followers")) (tCons (tVar 4) tNil))) (W0 E)) tNext))
    (tSeq (tIfS (tNot (tB (tCall (spOf K f_are_some_of) [] E0 (tCons (tVar 3) (tCons (tVar 2) tNil))))) (tRaise (tMkE (He.ga K "BadBook") ["part", "place"] (tCons (tC (.str "starts")) (tCons (tC (.int 0)) tNil))) (W0 E)) tNext)
    (tSeq (sFld K (tVar 0) (tCB (rTupN K) (tCons (tVar 3) tNil)) "names")
    (tSeq (sFld K (tVar 0) (tMeth (He.ga K "Book") "indexes_of" (spOf K f_Book_indexes_of) [] E0 (tVar 0) (tCons (tVar 2) tNil)) "starts")
    (tSeq (sFld K (tVar 0) (tCB (rTupOf K) (tCons (tLc (iList K (tVar 1)) (gName 5) tYes (tCB (rTupOf K) (tCons (tOp (rIxT K) (tVar 5) (tC (.int 1))) tNil)) [5]) tNil)) "page_lines")
    (sFld K (tVar 0) (tCB (rTupOf K) (tCons (tLc (iList K (tVar 1)) (gName 5) tYes (tMeth (He.ga K "Book") "indexes_of" (spOf K f_Book_indexes_of) [] E0 (tVar 0) (tCons (tOp (rIxT K) (tVar 5) (tC (.int 2))) tNil)) [5]) tNil)) "page_followers")))))))))
def t_l_places (K : PySem.W.Frag) : TS :=
  (tRet (tLc (iRng1 (tCons (tCB (rLen K) (tCons (tVar 0) tNil)) tNil)) (gName 2) (tTest (tOp (rIn K false) (tOp (rIxL K) (tVar 0) (tVar 2)) (tVar 1))) (tVar 2) [2]))
def t_Book___len__ (K : PySem.W.Frag) : TS :=
  (tRet (tCB (rLen K) (tCons (tFld K (tVar 0) "names") tNil)))
def t_Book_check_page (K : PySem.W.Frag) (E : XK) : TS :=
  (tIfS (tNot (tTest (tChain oLe oLt (tC (.int 0)) (tVar 1) (tCB (rLen K) (tCons (tFld K (tVar 0) "names") tNil))))) (tRaise (tMkE (He.ga K "UnknownPage") ["number"] (tCons (tVar 1) tNil)) (W0 E)) tNext)
def t_Book_lines_of (K : PySem.W.Frag) (E : XK) : TS :=
  (tSeq (tDrop (tMethX (He.ga K "Book") "check_page" (spOf K f_Book_check_page) (WE (W0 E)) (tVar 0) (tCons (tVar 1) tNil)))
    (tRet (tOp (rIxT K) (tFld K (tVar 0) "page_lines") (tVar 1))))
def t_Book_followers_of (K : PySem.W.Frag) (E : XK) : TS :=
  (tSeq (tDrop (tMethX (He.ga K "Book") "check_page" (spOf K f_Book_check_page) (WE (W0 E)) (tVar 0) (tCons (tVar 1) tNil)))
    (tRet (tOp (rIxT K) (tFld K (tVar 0) "page_followers") (tVar 1))))
def t_Book_index (K : PySem.W.Frag) (E : XK) : TS :=
  (tSeq (tIfS (tTest (tOp (rIn K true) (tVar 1) (tFld K (tVar 0) "names"))) (tRaise (tMkE (He.ga K "UnknownName") ["name"] (tCons (tVar 1) tNil)) (W0 E)) tNext)
    (tRet (tBMN K (rIdxT K) (tFld K (tVar 0) "names") (tCons (tVar 1) tNil))))
def t_l_shows (K : PySem.W.Frag) : TS :=
  (tSeq (tAsg (tLc (iList K (tVar 1)) (gName 5) tYes (tOp (rIxT K) (tVar 5) (tC (.int 0))) [5]) (gName 3))
    (tSeq (tIfS (tOr (tNot (tB (tCall (spOf K f_l_same) [] E0 (tCons (tFld K (tVar 0) "names") (tCons (tCB (rTupOf K) (tCons (tVar 3) tNil)) tNil))))) (tNot (tB (tCall (spOf K f_l_same) [] E0 (tCons (tFld K (tVar 0) "starts") (tCons (tCB (rTupOf K) (tCons (tCall (spOf K f_l_places) [] E0 (tCons (tVar 3) (tCons (tVar 2) tNil))) tNil)) tNil)))))) (tRet (tC (.bl false))) tNext)
    (tSeq (tIfS (tTest (tOp rNe (tCB (rLenO (He.ga K "Book") (spOf K f_Book___len__)) (tCons (tVar 0) tNil)) (tCB (rLen K) (tCons (tVar 3) tNil)))) (tRet (tC (.bl false))) tNext)
    (tSeq (tFor (iRng1 (tCons (tCB (rLen K) (tCons (tVar 3) tNil)) tNil)) (gName 4) (tSeq (tIfS (tNot (tB (tCall (spOf K f_l_same) [] E0 (tCons (tMethX (He.ga K "Book") "lines_of" (spOf K f_Book_lines_of) (WE WF) (tVar 0) (tCons (tVar 4) tNil)) (tCons (tCB (rTupOf K) (tCons (tOp (rIxT K) (tOp (rIxL K) (tVar 1) (tVar 4)) (tC (.int 1))) tNil)) tNil))))) (tRet (tC (.bl false))) tNext)
    (tSeq (tIfS (tNot (tB (tCall (spOf K f_l_same) [] E0 (tCons (tMethX (He.ga K "Book") "followers_of" (spOf K f_Book_followers_of) (WE WF) (tVar 0) (tCons (tVar 4) tNil)) (tCons (tCB (rTupOf K) (tCons (tCall (spOf K f_l_places) [] E0 (tCons (tVar 3) (tCons (tOp (rIxT K) (tOp (rIxL K) (tVar 1) (tVar 4)) (tC (.int 2))) tNil))) tNil)) tNil))))) (tRet (tC (.bl false))) tNext)
    (tIfS (tNot (tB (tCall (spOf K f_l_same) [] E0 (tCons (tMethX (He.ga K "Book") "index" (spOf K f_Book_index) (WE WF) (tVar 0) (tCons (tOp (rIxL K) (tVar 3) (tVar 4)) tNil)) (tCons (tVar 4) tNil))))) (tRet (tC (.bl false))) tNext))))
    (tRet (tC (.bl true)))))))
def t_l_asked (K : PySem.W.Frag) (E : XK) : TS :=
  (tSeq (tIfS (tTest (tOp rEq (tVar 1) (tC (.int 0)))) (tRet (tMethX (He.ga K "Book") "lines_of" (spOf K f_Book_lines_of) (WE (W0 E)) (tVar 0) (tCons (tVar 2) tNil))) tNext)
    (tRet (tMethX (He.ga K "Book") "followers_of" (spOf K f_Book_followers_of) (WE (W0 E)) (tVar 0) (tCons (tVar 2) tNil))))
def t_l_refuses_page (K : PySem.W.Frag) : TS :=
  (tSeq (tAsg (tC .non) (gName 3))
    (tSeq (tAsg (tC (.bl false)) (gName 4))
    (tSeq (tTryA K (fun W => (tAsg (tCallS (spOf K f_l_asked) (WE W) (tCons (tVar 0) (tCons (tVar 1) (tCons (tVar 2) tNil)))) (gName 5))) WF [(.ref (He.ga K "UnknownPage"), 6, fun a cls d => (tSeq (tAsg (tXf a cls d (He.ga K "UnknownPage") "number" (tVar 6)) (gName 3))
    (tAsg (tAndV (tCB (rIsX2 K (He.ga K "UnknownPage") a cls d) (tCons (tVar 6) (tCons (tC (.ref (He.ga K "DepotError"))) tNil))) (tAndV (tCB (rIsX2 K (He.ga K "UnknownPage") a cls d) (tCons (tVar 6) (tCons (tC (.ty "ValueError")) tNil))) (tNotV (tCB (rIsX2 K (He.ga K "UnknownPage") a cls d) (tCons (tVar 6) (tCons (tC (.ref (He.ga K "UnknownName"))) tNil)))))) (gName 4))))])
    (tRet (tAndV (tVar 4) (tCall (spOf K f_l_same) [] E0 (tCons (tVar 3) (tCons (tVar 2) tNil))))))))
def t_l_refuses_name (K : PySem.W.Frag) : TS :=
  (tSeq (tAsg (tC .non) (gName 2))
    (tSeq (tAsg (tC (.bl false)) (gName 3))
    (tSeq (tTryA K (fun W => (tAsg (tMethX (He.ga K "Book") "index" (spOf K f_Book_index) (WE W) (tVar 0) (tCons (tVar 1) tNil)) (gName 4))) WF [(.ref (He.ga K "UnknownName"), 5, fun a cls d => (tSeq (tAsg (tXf a cls d (He.ga K "UnknownName") "name" (tVar 5)) (gName 2))
    (tAsg (tAndV (tCB (rIsX2 K (He.ga K "UnknownName") a cls d) (tCons (tVar 5) (tCons (tC (.ref (He.ga K "DepotError"))) tNil))) (tAndV (tCB (rIsX2 K (He.ga K "UnknownName") a cls d) (tCons (tVar 5) (tCons (tC (.ty "ValueError")) tNil))) (tNotV (tCB (rIsX2 K (He.ga K "UnknownName") a cls d) (tCons (tVar 5) (tCons (tC (.ref (He.ga K "UnknownPage"))) tNil)))))) (gName 3))))])
    (tRet (tAndV (tVar 3) (tCall (spOf K f_l_same) [] E0 (tCons (tVar 2) (tCons (tVar 1) tNil))))))))
def t_Book___eq__ (K : PySem.W.Frag) : TS :=
  (tRet (tAndV (tCB (rIsi K) (tCons (tVar 1) (tCons (tC (.ref (He.ga K "Book"))) tNil))) (tAndV (tOp (rEqD K) (tFld K (tVar 0) "names") (tFld K (tVar 1) "names")) (tAndV (tOp (rEqD K) (tFld K (tVar 0) "page_lines") (tFld K (tVar 1) "page_lines")) (tAndV (tOp (rEqD K) (tFld K (tVar 0) "page_followers") (tFld K (tVar 1) "page_followers")) (tOp (rEqD K) (tFld K (tVar 0) "starts") (tFld K (tVar 1) "starts")))))))
def t_l_other_some (K : PySem.W.Frag) : TS :=
  (tSeq (tAsg (tLc (iList K (tVar 0)) (gName 3) (tTest (tOp (rIn K true) (tVar 3) (tVar 1))) (tVar 3) [3]) (gName 2))
    (tSeq (tIfS (tTest (tOp (rNeD K) (tVar 2) (tLst tNil))) (tRet (tOp rCat (tVar 1) (tLst (tCons (tOp (rIxL K) (tVar 2) (tC (.int 0))) tNil)))) tNext)
    (tSeq (tIfS (tTest (tOp oGt (tCB (rLen K) (tCons (tVar 1) tNil)) (tC (.int 1)))) (tRet (tSl (rSlL K) (tVar 1) tNoPart (tPart (tOp oSub (tCB (rLen K) (tCons (tVar 1) tNil)) (tC (.int 1)))))) tNext)
    (tRet (tC .non)))))
def t_l_renamed (K : PySem.W.Frag) : TS :=
  (tRet (tLc (iList K (tVar 0)) (gName 3) tYes (tIf (tTest (tOp rEq (tVar 3) (tVar 1))) (tVar 2) (tVar 3)) [3]))
def t_l_near (K : PySem.W.Frag) : TS :=
  (tSeq (tAsg (tLc (iList K (tVar 0)) (gName 11) tYes (tOp (rIxT K) (tVar 11) (tC (.int 0))) [11]) (gName 5))
    (tSeq (tAsg (tOp (rIxL K) (tVar 0) (tVar 3)) (gName 6))
    (tSeq (tIfS (tTest (tOp rEq (tVar 2) (tC (.int 0)))) (tSeq (tAsg (tOp rCat (tOp (rIxT K) (tVar 6) (tC (.int 1))) (tLst (tCons (tVar 4) tNil))) (gName 7))
    (tSeq (tIfS (tTest (tOp (rNeD K) (tOp (rIxT K) (tVar 6) (tC (.int 1))) (tLst tNil))) (tAsg (tSl (rSlL K) (tOp (rIxT K) (tVar 6) (tC (.int 1))) (tPart (tC (.int 1))) tNoPart) (gName 7)) tNext)
    (tRet (tTup (tCons (tOp rCat (tOp rCat (tSl (rSlL K) (tVar 0) tNoPart (tPart (tVar 3))) (tLst (tCons (tTup (tCons (tOp (rIxT K) (tVar 6) (tC (.int 0))) (tCons (tVar 7) (tCons (tOp (rIxT K) (tVar 6) (tC (.int 2))) tNil)))) tNil))) (tSl (rSlL K) (tVar 0) (tPart (tOp oAdd (tVar 3) (tC (.int 1)))) tNoPart)) (tCons (tVar 1) tNil)))))) tNext)
    (tSeq (tIfS (tTest (tOp rEq (tVar 2) (tC (.int 1)))) (tSeq (tAsg (tCall (spOf K f_l_other_some) [] E0 (tCons (tVar 5) (tCons (tOp (rIxT K) (tVar 6) (tC (.int 2))) tNil))) (gName 8))
    (tSeq (tIfS (tTest (tOp rIsN (tVar 8) (tC .non))) (tRet (tC .non)) tNext)
    (tRet (tTup (tCons (tOp rCat (tOp rCat (tSl (rSlL K) (tVar 0) tNoPart (tPart (tVar 3))) (tLst (tCons (tTup (tCons (tOp (rIxT K) (tVar 6) (tC (.int 0))) (tCons (tOp (rIxT K) (tVar 6) (tC (.int 1))) (tCons (tVar 8) tNil)))) tNil))) (tSl (rSlL K) (tVar 0) (tPart (tOp oAdd (tVar 3) (tC (.int 1)))) tNoPart)) (tCons (tVar 1) tNil)))))) tNext)
    (tSeq (tIfS (tTest (tOp rEq (tVar 2) (tC (.int 2)))) (tSeq (tAsg (tCall (spOf K f_l_other_some) [] E0 (tCons (tVar 5) (tCons (tVar 1) tNil))) (gName 9))
    (tSeq (tIfS (tTest (tOp rIsN (tVar 9) (tC .non))) (tRet (tC .non)) tNext)
    (tRet (tTup (tCons (tVar 0) (tCons (tVar 9) tNil)))))) tNext)
    (tSeq (tIfS (tTest (tOp rEq (tVar 2) (tC (.int 3)))) (tSeq (tAsg (tLst tNil) (gName 10))
    (tSeq (tFor (iList K (tVar 0)) (gName 11) (tSeq (tAsg (tOp (rIxL K) (tCall (spOf K f_l_renamed) [] E0 (tCons (tLst (tCons (tOp (rIxT K) (tVar 11) (tC (.int 0))) tNil)) (tCons (tOp (rIxT K) (tVar 6) (tC (.int 0))) (tCons (tVar 4) tNil)))) (tC (.int 0))) (gName 12))
    (tDrop (tBM K "list" rAppend (tVar 10) (tCons (tTup (tCons (tVar 12) (tCons (tOp (rIxT K) (tVar 11) (tC (.int 1))) (tCons (tCall (spOf K f_l_renamed) [] E0 (tCons (tOp (rIxT K) (tVar 11) (tC (.int 2))) (tCons (tOp (rIxT K) (tVar 6) (tC (.int 0))) (tCons (tVar 4) tNil)))) tNil)))) tNil)))))
    (tRet (tTup (tCons (tVar 10) (tCons (tCall (spOf K f_l_renamed) [] E0 (tCons (tVar 1) (tCons (tOp (rIxT K) (tVar 6) (tC (.int 0))) (tCons (tVar 4) tNil)))) tNil)))))) tNext)
    (tSeq (tIfS (tAnd (tTest (tOp rEq (tVar 2) (tC (.int 4)))) (tTest (tOp oGt (tCB (rLen K) (tCons (tVar 0) tNil)) (tC (.int 1))))) (tRet (tTup (tCons (tOp rCat (tSl (rSlL K) (tVar 0) (tPart (tC (.int 1))) tNoPart) (tSl (rSlL K) (tVar 0) tNoPart (tPart (tC (.int 1))))) (tCons (tVar 1) tNil)))) tNext)
    (tSeq (tIfS (tAnd (tTest (tOp rEq (tVar 2) (tC (.int 5)))) (tTest (tOp oLt (tCB (rLen K) (tCons (tVar 0) tNil)) (tC (.int 4))))) (tRet (tTup (tCons (tOp rCat (tVar 0) (tLst (tCons (tTup (tCons (tVar 4) (tCons (tLst tNil) (tCons (tLst (tCons (tVar 4) tNil)) tNil)))) tNil))) (tCons (tVar 1) tNil)))) tNext)
    (tRet (tC .non))))))))))
def t_l_unlike (K : PySem.W.Frag) : TS :=
  (tSeq (tFor (iRng1 (tCons (tC (.int 6)) tNil)) (gName 5) (tSeq (tAsg (tCall (spOf K f_l_near) [] E0 (tCons (tVar 1) (tCons (tVar 2) (tCons (tVar 5) (tCons (tVar 3) (tCons (tVar 4) tNil)))))) (gName 6))
    (tIfS (tTest (tOp rNotN (tVar 6) (tC .non))) (tSeq (tAsg (tMakeX (He.ga K "Book") (spIn K "Book" f_Book___init__) (WE WF) (tCons (tCall (spOf K f_l_handed) [] E0 (tCons (tOp (rIxT K) (tVar 6) (tC (.int 0))) tNil)) (tCons (tCB (rListOf K) (tCons (tOp (rIxT K) (tVar 6) (tC (.int 1))) tNil)) tNil))) (gName 7))
    (tSeq (tIfS (tNot (tB (tCall (spOf K f_l_shows) [] E0 (tCons (tVar 7) (tCons (tOp (rIxT K) (tVar 6) (tC (.int 0))) (tCons (tOp (rIxT K) (tVar 6) (tC (.int 1))) tNil)))))) (tRet (tC (.bl false))) tNext)
    (tIfS (tOr (tNot (tB (tCall (spOf K f_l_same) [] E0 (tCons (tOp (rOwnEq (He.ga K "Book") (spOf K f_Book___eq__)) (tVar 0) (tVar 7)) (tCons (tC (.bl false)) tNil))))) (tNot (tB (tCall (spOf K f_l_same) [] E0 (tCons (tOp (rOwnEq (He.ga K "Book") (spOf K f_Book___eq__)) (tVar 7) (tVar 0)) (tCons (tC (.bl false)) tNil)))))) (tRet (tC (.bl false))) tNext))) tNext)))
    (tRet (tC (.bl true))))
def t_law (K : PySem.W.Frag) : TS :=
  (tSeq (tAsg (tCall (spOf K f_l_pool) [] E0 (tCons (tVar 0) (tCons (tC (.int 0)) tNil))) (gName 1))
    (tSeq (tAsg (tCall (spOf K f_l_sheets) [] E0 (tCons (tVar 1) tNil)) (gName 2))
    (tSeq (tAsg (tOp (rIxT K) (tVar 2) (tC (.int 0))) (gName 3))
    (tSeq (tAsg (tOp (rIxT K) (tVar 2) (tC (.int 1))) (gName 4))
    (tSeq (tAsg (tLc (iList K (tVar 3)) (gName 16) tYes (tOp (rIxT K) (tVar 16) (tC (.int 0))) [16]) (gName 5))
    (tSeq (tAsg (tCall (spOf K f_l_pool) [] E0 (tCons (tVar 0) (tCons (tC (.int 1)) tNil))) (gName 1))
    (tSeq (tAsg (tCall (spOf K f_l_take) [] E0 (tCons (tVar 1) (tCons (tCB (rLen K) (tCons (tVar 5) tNil)) tNil))) (gName 6))
    (tSeq (tAsg (tCall (spOf K f_l_word) [] E0 (tCons (tVar 1) (tCons (tOp rCat (tVar 5) (tOp (rIxT K) (tVar 2) (tC (.int 2)))) tNil))) (gName 7))
    (tSeq (tAsg (tCall (spOf K f_l_handed) [] E0 (tCons (tVar 3) tNil)) (gName 8))
    (tSeq (tAsg (tCB (rListOf K) (tCons (tVar 4) tNil)) (gName 9))
    (tSeq (tAsg (tMakeX (He.ga K "Book") (spIn K "Book" f_Book___init__) (WE WF) (tCons (tVar 8) (tCons (tVar 9) tNil))) (gName 10))
    (tSeq (tIfS (tNot (tB (tCall (spOf K f_l_shows) [] E0 (tCons (tVar 10) (tCons (tVar 3) (tCons (tVar 4) tNil)))))) (tRet (tC (.bl false))) tNext)
    (tSeq (tFor (iList K (tLst (tCons (tUn uNeg (tC (.int 1))) (tCons (tOp oSub (tUn uNeg (tC (.int 1))) (tCall (spOf K f_l_take) [] E0 (tCons (tVar 1) (tCons (tOp oPow (tC (.int 10)) (tC (.int 9))) tNil)))) (tCons (tCB (rLen K) (tCons (tVar 5) tNil)) (tCons (tOp oAdd (tCB (rLen K) (tCons (tVar 5) tNil)) (tCall (spOf K f_l_take) [] E0 (tCons (tVar 1) (tCons (tOp oSub (tOp oPow (tC (.int 10)) (tC (.int 9))) (tC (.int 9))) tNil)))) tNil)))))) (gName 11) (tIfS (tOr (tNot (tB (tCall (spOf K f_l_refuses_page) [] E0 (tCons (tVar 10) (tCons (tC (.int 0)) (tCons (tVar 11) tNil)))))) (tNot (tB (tCall (spOf K f_l_refuses_page) [] E0 (tCons (tVar 10) (tCons (tC (.int 1)) (tCons (tVar 11) tNil))))))) (tRet (tC (.bl false))) tNext))
    (tSeq (tFor (iList K (tOp rCat (tLst (tCons (tVar 7) (tCons (tC (.str "")) (tCons (tOp rAddStr (tOp (rIxL K) (tVar 5) (tC (.int 0))) (tC (.str " "))) (tCons (tOp rAddStr (tOp (rIxL K) (tVar 5) (tVar 6)) (tOp (rIxL K) (tVar 5) (tVar 6))) (tCons (tSl rSlS (tOp (rIxL K) (tVar 5) (tVar 6)) (tPart (tC (.int 1))) tNoPart) tNil)))))) (tOp (rIxT K) (tVar 2) (tC (.int 2))))) (gName 12) (tIfS (tAnd (tTest (tOp (rIn K true) (tVar 12) (tVar 5))) (tNot (tB (tCall (spOf K f_l_refuses_name) [] E0 (tCons (tVar 10) (tCons (tVar 12) tNil)))))) (tRet (tC (.bl false))) tNext))
    (tSeq (tIfS (tOr (tNot (tB (tCall (spOf K f_l_same) [] E0 (tCons (tVar 8) (tCons (tVar 3) tNil))))) (tNot (tB (tCall (spOf K f_l_same) [] E0 (tCons (tVar 9) (tCons (tVar 4) tNil)))))) (tRet (tC (.bl false))) tNext)
    (tSeq (tAsg (tOp (rIxT K) (tOp (rIxL K) (tVar 8) (tVar 6)) (tC (.int 1))) (gName 13))
    (tSeq (tDrop (tBM K "list" rInsert (tVar 13) (tCons (tC (.int 0)) (tCons (tVar 7) tNil))))
    (tSeq (tAsg (tOp (rIxT K) (tOp (rIxL K) (tVar 8) (tVar 6)) (tC (.int 2))) (gName 13))
    (tSeq (tDrop (tBM K "list" rAppend (tVar 13) (tCons (tVar 7) tNil)))
    (tSeq (tDrop (tBM K "list" rAppend (tVar 8) (tCons (tTup (tCons (tVar 7) (tCons (tLst tNil) (tCons (tLst (tCons (tVar 7) tNil)) tNil)))) tNil)))
    (tSeq (tDrop (tBM K "list" rAppend (tVar 9) (tCons (tVar 7) tNil)))
    (tSeq (tIfS (tOr (tNot (tB (tCall (spOf K f_l_shows) [] E0 (tCons (tVar 10) (tCons (tVar 3) (tCons (tVar 4) tNil)))))) (tNot (tB (tCall (spOf K f_l_unlike) [] E0 (tCons (tVar 10) (tCons (tVar 3) (tCons (tVar 4) (tCons (tVar 6) (tCons (tVar 7) tNil))))))))) (tRet (tC (.bl false))) tNext)
    (tSeq (tAsg (tLc (iList K (tVar 3)) (gName 16) tYes (tTup (tCons (tOp (rIxT K) (tVar 16) (tC (.int 0))) (tCons (tCB (rListOf K) (tCons (tOp (rIxT K) (tVar 16) (tC (.int 1))) tNil)) (tCons (tRevL K (tOp (rIxT K) (tVar 16) (tC (.int 2)))) tNil)))) [16]) (gName 14))
    (tSeq (tAsg (tMakeX (He.ga K "Book") (spIn K "Book" f_Book___init__) (WE WF) (tCons (tVar 14) (tCons (tRevL K (tVar 4)) tNil))) (gName 15))
    (tRet (tAndV (tCall (spOf K f_l_same) [] E0 (tCons (tOp (rOwnEq (He.ga K "Book") (spOf K f_Book___eq__)) (tVar 10) (tVar 15)) (tCons (tC (.bl true)) tNil))) (tAndV (tCall (spOf K f_l_same) [] E0 (tCons (tOp (rOwnEq (He.ga K "Book") (spOf K f_Book___eq__)) (tVar 15) (tVar 10)) (tCons (tC (.bl true)) tNil))) (tCall (spOf K f_l_shows) [] E0 (tCons (tVar 15) (tCons (tVar 3) (tCons (tVar 4) tNil)))))))))))))))))))))))))))))))
end Cl
/-! ## Hd2 -/
namespace Cl
open PySem PySem.Spec PyProof.Rows L2
open HeadE
theorem sc_l_cell : FnScope N_l_cell ["_law_script", "_law_k"] (defScope s_l_cell) := ⟨rfl, rfl, rfl, by decide +kernel, rfl, by decide +kernel, by decide +kernel⟩
theorem sc_l_pool : FnScope N_l_pool ["_law_script", "_law_k"] (defScope s_l_pool) := ⟨rfl, rfl, rfl, by decide +kernel, rfl, by decide +kernel, by decide +kernel⟩
theorem sc_l_take : FnScope N_l_take ["_law_pool_here", "_law_many"] (defScope s_l_take) := ⟨rfl, rfl, rfl, by decide +kernel, rfl, by decide +kernel, by decide +kernel⟩
theorem sc_l_word : FnScope N_l_word ["_law_pool_here", "_law_others"] (defScope s_l_word) := ⟨rfl, rfl, rfl, by decide +kernel, rfl, by decide +kernel, by decide +kernel⟩
theorem sc_l_words : FnScope N_l_words ["_law_pool_here", "_law_many"] (defScope s_l_words) := ⟨rfl, rfl, rfl, by decide +kernel, rfl, by decide +kernel, by decide +kernel⟩
theorem sc_l_some : FnScope N_l_some ["_law_pool_here", "_law_names", "_law_few", "_law_more"] (defScope s_l_some) := ⟨rfl, rfl, rfl, by decide +kernel, rfl, by decide +kernel, by decide +kernel⟩
theorem sc_l_sheets : FnScope N_l_sheets ["_law_pool_here"] (defScope s_l_sheets) := ⟨rfl, rfl, rfl, by decide +kernel, rfl, by decide +kernel, by decide +kernel⟩
theorem sc_l_handed : FnScope N_l_handed ["_law_sheets_here"] (defScope s_l_handed) := ⟨rfl, rfl, rfl, by decide +kernel, rfl, by decide +kernel, by decide +kernel⟩
theorem sc_is_name : FnScope N_is_name ["text"] (defScope s_is_name) := ⟨rfl, rfl, rfl, by decide +kernel, rfl, by decide +kernel, by decide +kernel⟩
theorem sc_all_different : FnScope N_all_different ["things"] (defScope s_all_different) := ⟨rfl, rfl, rfl, by decide +kernel, rfl, by decide +kernel, by decide +kernel⟩
theorem sc_are_names : FnScope N_are_names ["texts"] (defScope s_are_names) := ⟨rfl, rfl, rfl, by decide +kernel, rfl, by decide +kernel, by decide +kernel⟩
theorem sc_are_some_of : FnScope N_are_some_of ["names", "chosen"] (defScope s_are_some_of) := ⟨rfl, rfl, rfl, by decide +kernel, rfl, by decide +kernel, by decide +kernel⟩
theorem sc_Book_indexes_of : FnScope N_Book_indexes_of ["self", "chosen"] (defScope s_Book_indexes_of) := ⟨rfl, rfl, rfl, by decide +kernel, rfl, by decide +kernel, by decide +kernel⟩
theorem sc_Book___init__ : FnScope N_Book___init__ ["self", "pages", "starts"] (defScope s_Book___init__) := ⟨rfl, rfl, rfl, by decide +kernel, rfl, by decide +kernel, by decide +kernel⟩
theorem sc_l_same : FnScope N_l_same ["_law_got", "_law_due"] (defScope s_l_same) := ⟨rfl, rfl, rfl, by decide +kernel, rfl, by decide +kernel, by decide +kernel⟩
theorem sc_l_places : FnScope N_l_places ["_law_names", "_law_chosen"] (defScope s_l_places) := ⟨rfl, rfl, rfl, by decide +kernel, rfl, by decide +kernel, by decide +kernel⟩
theorem sc_Book___len__ : FnScope N_Book___len__ ["self"] (defScope s_Book___len__) := ⟨rfl, rfl, rfl, by decide +kernel, rfl, by decide +kernel, by decide +kernel⟩
theorem sc_Book_check_page : FnScope N_Book_check_page ["self", "index"] (defScope s_Book_check_page) := ⟨rfl, rfl, rfl, by decide +kernel, rfl, by decide +kernel, by decide +kernel⟩
theorem sc_Book_lines_of : FnScope N_Book_lines_of ["self", "index"] (defScope s_Book_lines_of) := ⟨rfl, rfl, rfl, by decide +kernel, rfl, by decide +kernel, by decide +kernel⟩
theorem sc_Book_followers_of : FnScope N_Book_followers_of ["self", "index"] (defScope s_Book_followers_of) := ⟨rfl, rfl, rfl, by decide +kernel, rfl, by decide +kernel, by decide +kernel⟩
theorem sc_Book_index : FnScope N_Book_index ["self", "name"] (defScope s_Book_index) := ⟨rfl, rfl, rfl, by decide +kernel, rfl, by decide +kernel, by decide +kernel⟩
theorem sc_l_shows : FnScope N_l_shows ["_law_book", "_law_sheets_here", "_law_starts"] (defScope s_l_shows) := ⟨rfl, rfl, rfl, by decide +kernel, rfl, by decide +kernel, by decide +kernel⟩
theorem sc_l_asked : FnScope N_l_asked ["_law_book", "_law_way", "_law_number"] (defScope s_l_asked) := ⟨rfl, rfl, rfl, by decide +kernel, rfl, by decide +kernel, by decide +kernel⟩
theorem sc_l_refuses_page : FnScope N_l_refuses_page ["_law_book", "_law_way", "_law_number"] (defScope s_l_refuses_page) := ⟨rfl, rfl, rfl, by decide +kernel, rfl, by decide +kernel, by decide +kernel⟩
theorem sc_l_refuses_name : FnScope N_l_refuses_name ["_law_book", "_law_name"] (defScope s_l_refuses_name) := ⟨rfl, rfl, rfl, by decide +kernel, rfl, by decide +kernel, by decide +kernel⟩
theorem sc_Book___eq__ : FnScope N_Book___eq__ ["self", "other"] (defScope s_Book___eq__) := ⟨rfl, rfl, rfl, by decide +kernel, rfl, by decide +kernel, by decide +kernel⟩
theorem sc_l_other_some : FnScope N_l_other_some ["_law_names", "_law_chosen"] (defScope s_l_other_some) := ⟨rfl, rfl, rfl, by decide +kernel, rfl, by decide +kernel, by decide +kernel⟩
theorem sc_l_renamed : FnScope N_l_renamed ["_law_words_here", "_law_name", "_law_fresh"] (defScope s_l_renamed) := ⟨rfl, rfl, rfl, by decide +kernel, rfl, by decide +kernel, by decide +kernel⟩
theorem sc_l_near : FnScope N_l_near ["_law_sheets_here", "_law_starts", "_law_way", "_law_place", "_law_fresh"] (defScope s_l_near) := ⟨rfl, rfl, rfl, by decide +kernel, rfl, by decide +kernel, by decide +kernel⟩
theorem sc_l_unlike : FnScope N_l_unlike ["_law_book", "_law_sheets_here", "_law_starts", "_law_place", "_law_fresh"] (defScope s_l_unlike) := ⟨rfl, rfl, rfl, by decide +kernel, rfl, by decide +kernel, by decide +kernel⟩
theorem sc_law : FnScope N_law ["_law_script"] (defScope s_law) := ⟨rfl, rfl, rfl, by decide +kernel, rfl, by decide +kernel, by decide +kernel⟩
abbrev FZ (K : PySem.W.Frag) (mg : Str → Option Value) : Prop := Fz (PP.main.file : Str) fe xf fa fn K mg
theorem tab_ok {K : PySem.W.Frag} {mg : Str → Option Value} (c : FZ K mg) : TabOk K tab := (tab_cons (c.exm 12) (tab_cons (c.exm 13) (tab_cons (c.exm 14) (tab_cons (c.exm 15) (tab_cons (c.exm 16) (tab_cons (c.exm 17) tab_nil))))))
theorem xk_BadBook {w : World} {K : PySem.W.Frag} {mg : Str → Option Value} (c : FZ K mg) : ExcK PP w K mg "BadBook" ["part", "place"] := by
  obtain ⟨h1, h2⟩ := c.more.e 0 (e := e_BadBook) rfl
  obtain ⟨cc, cda, T, C0, hno, g1, g2⟩ := Hz.tx_of (prog := PP) (h1 := h1) (h2 := h2)
  refine ⟨c.glo 22, c.free 23, C0, fun us hl hf => ?_⟩
  match us, hl, hf with
  | [v0, v1], _, hf =>
    intro A R hp g d t os mg mb x t0 X G hx hnx hxC hroom hq
    exact Exs.init2 (f := "part") (f2 := "place") T ⟨⟨_, rfl, rfl⟩, rfl, rfl, rfl, rfl, by decide +kernel⟩ (hno _ (by simp [e_BadBook])) (hno _ (by simp [e_BadBook])) rfl rfl (by decide) (by decide) (by decide) (by decide) (by decide) (by decide) (by decide) (by decide +kernel) rfl rfl (fun _ _ _ _ _ => rfl) (fun _ => rfl) (fun _ => rfl) (fun _ => rfl) (fun _ => rfl) (fun _ => rfl) (hf _ (by simp)) (hf _ (by simp)) X G hx hnx hxC hroom hq
theorem xk_UnknownPage {w : World} {K : PySem.W.Frag} {mg : Str → Option Value} (c : FZ K mg) : ExcK PP w K mg "UnknownPage" ["number"] := by
  obtain ⟨h1, h2⟩ := c.more.e 1 (e := e_UnknownPage) rfl
  obtain ⟨cc, cda, T, C0, hno, g1, g2⟩ := Hz.tx_of (prog := PP) (h1 := h1) (h2 := h2)
  refine ⟨c.glo 35, c.free 23, C0, fun us hl hf => ?_⟩
  match us, hl, hf with
  | [v0], _, hf =>
    intro A R hp g d t os mg mb x t0 X G hx hnx hxC hroom hq
    exact Exs.init1 (f := "number") T ⟨⟨_, rfl, rfl⟩, rfl, rfl, rfl, rfl, by decide +kernel⟩ (hno _ (by simp [e_UnknownPage])) rfl (by decide) (by decide) (by decide) (by decide +kernel) rfl rfl (fun _ _ _ _ _ => rfl) (fun _ => rfl) (fun _ => rfl) (fun _ => rfl) (fun _ => rfl) (hf _ (by simp)) X G hx hnx hxC hroom hq
theorem xk_UnknownName {w : World} {K : PySem.W.Frag} {mg : Str → Option Value} (c : FZ K mg) : ExcK PP w K mg "UnknownName" ["name"] := by
  obtain ⟨h1, h2⟩ := c.more.e 2 (e := e_UnknownName) rfl
  obtain ⟨cc, cda, T, C0, hno, g1, g2⟩ := Hz.tx_of (prog := PP) (h1 := h1) (h2 := h2)
  refine ⟨c.glo 37, c.free 23, C0, fun us hl hf => ?_⟩
  match us, hl, hf with
  | [v0], _, hf =>
    intro A R hp g d t os mg mb x t0 X G hx hnx hxC hroom hq
    exact Exs.init1 (f := "name") T ⟨⟨_, rfl, rfl⟩, rfl, rfl, rfl, rfl, by decide +kernel⟩ (hno _ (by simp [e_UnknownName])) rfl (by decide) (by decide) (by decide) (by decide +kernel) rfl rfl (fun _ _ _ _ _ => rfl) (fun _ => rfl) (fun _ => rfl) (fun _ => rfl) (fun _ => rfl) (hf _ (by simp)) X G hx hnx hxC hroom hq
end Cl
/-! ## ComF -/
namespace Cl
open PySem PySem.Spec PyProof.Rows L2
theorem nc0 : ((0 : Nat) : Int) = 0 := id rfl
theorem nc1 : ((1 : Nat) : Int) = 1 := id rfl
theorem nc2 : ((2 : Nat) : Int) = 2 := id rfl
theorem nc3 : ((3 : Nat) : Int) = 3 := id rfl
theorem nc4 : ((4 : Nat) : Int) = 4 := id rfl
theorem nc5 : ((5 : Nat) : Int) = 5 := id rfl
theorem nc6 : ((6 : Nat) : Int) = 6 := id rfl
theorem nc7 : ((7 : Nat) : Int) = 7 := id rfl
theorem nc8 : ((8 : Nat) : Int) = 8 := id rfl
theorem nc9 : ((9 : Nat) : Int) = 9 := id rfl
theorem nc10 : ((10 : Nat) : Int) = 10 := id rfl
theorem nc11 : ((11 : Nat) : Int) = 11 := id rfl
theorem nc12 : ((12 : Nat) : Int) = 12 := id rfl
theorem natAbs10 : Int.natAbs 10 = 10 := id rfl
theorem kb_l_l : kitB "list" "list" = some true := by decide +kernel
theorem kb_l_t : kitB "list" "tuple" = some false := by decide +kernel
theorem kb_l_i : kitB "list" "int" = some false := by decide +kernel
theorem kb_l_b : kitB "list" "bool" = some false := by decide +kernel
theorem kb_l_s : kitB "list" "str" = some false := by decide +kernel
theorem kb_t_l : kitB "tuple" "list" = some false := by decide +kernel
theorem kb_t_t : kitB "tuple" "tuple" = some true := by decide +kernel
theorem kb_t_i : kitB "tuple" "int" = some false := by decide +kernel
theorem kb_t_b : kitB "tuple" "bool" = some false := by decide +kernel
theorem kb_t_s : kitB "tuple" "str" = some false := by decide +kernel
theorem kb_i_l : kitB "int" "list" = some false := by decide +kernel
theorem kb_i_t : kitB "int" "tuple" = some false := by decide +kernel
theorem kb_i_i : kitB "int" "int" = some true := by decide +kernel
theorem kb_i_b : kitB "int" "bool" = some false := by decide +kernel
theorem kb_i_s : kitB "int" "str" = some false := by decide +kernel
theorem kb_b_l : kitB "bool" "list" = some false := by decide +kernel
theorem kb_b_t : kitB "bool" "tuple" = some false := by decide +kernel
theorem kb_b_i : kitB "bool" "int" = some true := by decide +kernel
theorem kb_b_b : kitB "bool" "bool" = some true := by decide +kernel
theorem kb_b_s : kitB "bool" "str" = some false := by decide +kernel
theorem kb_s_l : kitB "str" "list" = some false := by decide +kernel
theorem kb_s_t : kitB "str" "tuple" = some false := by decide +kernel
theorem kb_s_i : kitB "str" "int" = some false := by decide +kernel
theorem kb_s_b : kitB "str" "bool" = some false := by decide +kernel
theorem kb_s_s : kitB "str" "str" = some true := by decide +kernel
theorem kb_N_l : kitB "NoneType" "list" = some false := by decide +kernel
theorem kb_N_t : kitB "NoneType" "tuple" = some false := by decide +kernel
theorem kb_N_i : kitB "NoneType" "int" = some false := by decide +kernel
theorem kb_N_b : kitB "NoneType" "bool" = some false := by decide +kernel
theorem kb_N_s : kitB "NoneType" "str" = some false := by decide +kernel
theorem max_if {a b : Int} : (if b > a then b else a) = max a b := by omega
theorem min_if {a b : Int} : (if b < a then b else a) = min a b := by omega
theorem log_lt {i : Int} (h0 : -1000000000000 ≤ i) (h1 : i ≤ 1000000000000) : (i.natAbs.log2 < 1920) = True := by
  have h : i.natAbs < 2 ^ 64 := by omega
  by_cases hz : i.natAbs = 0
  · simp [hz]
  · exact eq_true ((Nat.log2_lt hz).mpr (Nat.lt_of_lt_of_le h (Nat.pow_le_pow_right (by decide) (by decide))))
theorem chkI_ok {d : Da} {S : Sto} : chkI (.ok d S) = if d.noLc = true ∧ stoNoL S = true then .ok d S else .bad := id rfl
theorem chkI_ex {e : Exn} {S : Sto} : chkI (.ex e S) = if exnNoL e = true ∧ stoNoL S = true then .ex e S else .bad := id rfl
theorem log0 : (Nat.log2 0 < 1920) = True := eq_true (by decide)
theorem sx1 : HT.sIx 4 0 (some 2) = 2 := by decide
theorem sx2 : HT.sIx 4 4 none = 4 := by decide
theorem sx3 : HT.sIx 4 0 none = 0 := by decide
theorem sx4 : HT.sIx 4 4 (some 2) = 2 := by decide
theorem sx5 : HT.sIx 4 4 (some 3) = 3 := by decide
theorem cut1 {α : Type} {a b c d : α} : cutG [a, b, c, d] (some 2) none = [c, d] := by first | rfl | (simp [cutG, sx1, sx2])
theorem cut2 {α : Type} {a b c d : α} : cutG [a, b, c, d] none (some 2) = [a, b] := by first | rfl | (simp [cutG, sx3, sx4])
theorem cut3 {α : Type} {a b c d : α} : cutG [a, b, c, d] none (some 3) = [a, b, c] := by first | rfl | (simp [cutG, sx3, sx5])
theorem e_fSl (o : FSl) (fe : FE) (fl fh : Env → Sto → Ev (Option Int)) (σ : Env) (S : Sto) : fSl o fe fl fh σ S = (fe σ S).bd fun r S1 => (fl σ S1).bd fun lo S2 => (fh σ S2).bd fun hi S3 => o r lo hi S3 := id rfl
section
variable {α : Type} {a b c d e f : α} {xs : List α}
theorem at_0 : atI (a :: xs) 0 = some a := by simp [atI, ixN]
theorem at_1 : atI (a :: b :: xs) 1 = some b := atI_of (by decide) rfl
theorem at_2 : atI (a :: b :: c :: xs) 2 = some c := atI_of (by decide) rfl
theorem at_3 : atI (a :: b :: c :: d :: xs) 3 = some d := atI_of (by decide) rfl
theorem at_4 : atI (a :: b :: c :: d :: e :: xs) 4 = some e := atI_of (by decide) rfl
theorem at_5 : atI (a :: b :: c :: d :: e :: f :: xs) 5 = some f := atI_of (by decide) rfl
theorem atM_1 : atI [a] (-1) = some a := by simp [atI, ixN]
theorem at_nat {i : Nat} (h : xs[i]? = some a) : atI xs (i : Int) = some a := atI_nat h
theorem at_int {i : Int} (h0 : 0 ≤ i) (h : xs[i.toNat]? = some a) : atI xs i = some a := atI_of h0 h
theorem ix_int {n : Nat} {i : Int} (h0 : 0 ≤ i) (h : i < n) : ixN n i = some i.toNat := ixN_of h0 h
end
local macro_rules | `(tactic| walk_at "f") => `(tactic| simp only [e_fSeq, e_fSl, e_fVar, e_fC, e_fOp, e_fNotV, e_fAndV, e_fIf, e_fChain, e_fNil, e_fCons, e_fTup, e_fLst, e_fCell, e_fNoP, e_fPart, e_fRev, e_fFld, e_fCB, e_fTest, e_fAnd, e_fOr, e_fNot, e_fYes, e_fCall, e_fCallS, e_fMeth, e_fNext, e_fRet, e_fDrop, e_fIfS, e_fSet, e_fSetD, e_fPar, e_fFrz, e_fAppS, e_fSetI, e_fSFld, e_fiL, e_fiB, e_fiR1, e_fiS, e_fiE, e_fiET, e_fFor, e_fLc, e_fRaise, e_fTry, e_fXf, e_fIsE, e_fNeg, e_fMethX, e_fMakeX, e_fOwnEq, e_fIsC, e_fLenO, onLen, e_fCallL, e_fLendE, chkE_ok, chkD_ok, Rv.flatR, e_fLenS, e_fFind, e_fAppE, e_fForC, e_fLcC, e_fInsE, e_fIdxN, e_fUn, e_onLs, lendDs_v, lendDs_fr, lendDs_bo, lendDs_0, chkL_ok, chkI_ok, chkI_ex, exnNoL, chkT_ok, onK_int, onK_str, Da.key, Rv.noL, Da.noL, sq_nx, sq_rt, sq_bk, sq_ct, sq_ex, sq_bad, bd_ok, bd_ex, bd_bad, so_ok, so_ex, so_bad, noX_ok, noX_ex, noX_bad, onB_bl, onD_v, onD_fr, e_onDs, toDs_v, toDs_fr, toDs_0, onO_some, omap_some, Option.map_none, Option.isSome_none, Option.isSome_some, Option.getD_none, Option.getD_some, List.isEmpty_nil, List.isEmpty_cons, e_endO, e_endOr, fin_nx, fin_rt, fin_ex, fin0_nx, fin0_rt, e_fnOf, e_fnOf0, inOf, fHand, fgName, fgTup, fgCons, fgNil, Rv.toD, Rv.rd, Rv.bool, Rv.out, Rv.sx, Rv.isN, Da.sv, svs, Da.tyN, Da.tru, Da.fmt, noExn, oI0, oI, xEq, xIsN, xIx, xIxS, xAddS, xInS, xIn, xCat, xSlL, xSlS, bLen, bLenS, bI1, bI2, bInt1, bList, bTup, bTupN, bAll, putN, scal, cMul, cDiv, cMod, cPow, wipeD, ofString_inj, String.reduceEq, String.reduceNe, getF_cons, List.mem_cons, List.not_mem_nil, List.getElem?_cons_succ, List.getElem?_cons_zero, List.set_cons_succ, List.set_cons_zero, List.length_cons, List.length_nil, List.length_append, List.length_map, List.length_set, Int.toNat_natCast, List.map_cons, List.map_nil, List.cons_append, List.nil_append, List.append_nil, List.zip_cons_cons, List.zip_nil_left, List.zip_nil_right, List.reverse_cons, List.reverse_nil, List.all_cons, List.all_nil, List.lookup_cons, List.lookup_nil, List.replicate_succ, List.replicate_zero, Nat.reduceAdd, Nat.reduceSub, Nat.reduceLT, Nat.reduceLeDiff, Nat.reduceEqDiff, Nat.zero_add, Nat.add_zero, Nat.sub_self, Nat.sub_zero, if_true, if_false, ite_true, ite_false, Bool.false_eq_true, Bool.true_and, Bool.and_true, Bool.false_and, Bool.and_false, Bool.true_or, Bool.or_true, Bool.false_or, Bool.or_false, Bool.not_true, Bool.not_false, decide_true, decide_false, and_self, and_true, true_and, not_true_eq_false, not_false_eq_true, reduceIte, Option.some.injEq, reduceCtorEq, decide_eq_true_eq, ne_eq, Int.reduceLT, Int.reduceLE, Int.reduceEq, Int.reduceNe, Int.reduceAdd, Int.reduceSub, Int.reduceMul, Int.reduceNeg, Int.reducePow, Int.reduceToNat, Int.reduceDiv, Int.reduceMod, Int.reduceAbs, or_true, true_or, or_false, false_or, and_false, false_and, at_0, at_1, at_2, at_3, at_4, at_5, atM_1, V.int.injEq, V.bl.injEq, V.str.injEq, nc0, nc1, nc2, nc3, nc4, nc5, nc6, nc7, nc8, nc9, nc10, nc11, nc12, natAbs10, sx1, sx2, sx3, sx4, sx5, cut1, cut2, cut3, kb_l_l, kb_l_t, kb_l_i, kb_l_b, kb_l_s, kb_t_l, kb_t_t, kb_t_i, kb_t_b, kb_t_s, kb_i_l, kb_i_t, kb_i_i, kb_i_b, kb_i_s, kb_b_l, kb_b_t, kb_b_i, kb_b_b, kb_b_s, kb_s_l, kb_s_t, kb_s_i, kb_s_b, kb_s_s, kb_N_l, kb_N_t, kb_N_i, kb_N_b, kb_N_s])
local macro_rules | `(tactic| walk_at "g") => `(tactic| simp only [e_fSeq, e_fSl, e_fVar, e_fC, e_fOp, e_fNotV, e_fAndV, e_fIf, e_fChain, e_fNil, e_fCons, e_fTup, e_fLst, e_fCell, e_fNoP, e_fPart, e_fRev, e_fFld, e_fCB, e_fTest, e_fAnd, e_fOr, e_fNot, e_fYes, e_fCall, e_fCallS, e_fMeth, e_fNext, e_fRet, e_fDrop, e_fIfS, e_fSet, e_fSetD, e_fPar, e_fFrz, e_fAppS, e_fSetI, e_fSFld, e_fiL, e_fiB, e_fiR1, e_fiS, e_fiE, e_fiET, e_fFor, e_fLc, e_fRaise, e_fTry, e_fXf, e_fIsE, e_fNeg, e_fMethX, e_fMakeX, e_fOwnEq, e_fIsC, e_fLenO, onLen, e_fCallL, e_fLendE, chkE_ok, chkD_ok, Rv.flatR, e_fLenS, e_fFind, e_fAppE, e_fForC, e_fLcC, e_fInsE, e_fIdxN, e_fUn, e_onLs, lendDs_v, lendDs_fr, lendDs_bo, lendDs_0, chkL_ok, chkI_ok, chkI_ex, exnNoL, chkT_ok, onK_int, onK_str, Da.key, Rv.noL, Da.noL, sq_nx, sq_rt, sq_bk, sq_ct, sq_ex, sq_bad, bd_ok, bd_ex, bd_bad, so_ok, so_ex, so_bad, noX_ok, noX_ex, noX_bad, onB_bl, onD_v, onD_fr, e_onDs, toDs_v, toDs_fr, toDs_0, onO_some, omap_some, Option.map_none, Option.isSome_none, Option.isSome_some, Option.getD_none, Option.getD_some, List.isEmpty_nil, List.isEmpty_cons, e_endO, e_endOr, fin_nx, fin_rt, fin_ex, fin0_nx, fin0_rt, e_fnOf, e_fnOf0, inOf, fHand, fgName, fgTup, fgCons, fgNil, Rv.toD, Rv.rd, Rv.bool, Rv.out, Rv.sx, Rv.isN, Da.sv, svs, Da.tyN, Da.tru, Da.fmt, noExn, oI0, oI, xEq, xIsN, xIx, xIxS, xAddS, xInS, xIn, xCat, xSlL, xSlS, bLen, bLenS, bI1, bI2, bInt1, bList, bTup, bTupN, bAll, putN, scal, cMul, cDiv, cMod, cPow, wipeD, ofString_inj, String.reduceEq, String.reduceNe, getF_cons, List.mem_cons, List.not_mem_nil, List.getElem?_cons_succ, List.getElem?_cons_zero, List.set_cons_succ, List.set_cons_zero, List.length_cons, List.length_nil, List.length_append, List.length_map, List.length_set, Int.toNat_natCast, List.map_cons, List.map_nil, List.cons_append, List.nil_append, List.append_nil, List.zip_cons_cons, List.zip_nil_left, List.zip_nil_right, List.reverse_cons, List.reverse_nil, List.all_cons, List.all_nil, List.lookup_cons, List.lookup_nil, List.replicate_succ, List.replicate_zero, Nat.reduceAdd, Nat.reduceSub, Nat.reduceLT, Nat.reduceLeDiff, Nat.reduceEqDiff, Nat.zero_add, Nat.add_zero, Nat.sub_self, Nat.sub_zero, if_true, if_false, ite_true, ite_false, Bool.false_eq_true, Bool.true_and, Bool.and_true, Bool.false_and, Bool.and_false, Bool.true_or, Bool.or_true, Bool.false_or, Bool.or_false, Bool.not_true, Bool.not_false, decide_true, decide_false, and_self, and_true, true_and, not_true_eq_false, not_false_eq_true, reduceIte, Option.some.injEq, reduceCtorEq, decide_eq_true_eq, ne_eq, Int.reduceLT, Int.reduceLE, Int.reduceEq, Int.reduceNe, Int.reduceAdd, Int.reduceSub, Int.reduceMul, Int.reduceNeg, Int.reducePow, Int.reduceToNat, Int.reduceDiv, Int.reduceMod, Int.reduceAbs, or_true, true_or, or_false, false_or, and_false, false_and, at_0, at_1, at_2, at_3, at_4, at_5, atM_1, V.int.injEq, V.bl.injEq, V.str.injEq, nc0, nc1, nc2, nc3, nc4, nc5, nc6, nc7, nc8, nc9, nc10, nc11, nc12, natAbs10, sx1, sx2, sx3, sx4, sx5, cut1, cut2, cut3, kb_l_l, kb_l_t, kb_l_i, kb_l_b, kb_l_s, kb_t_l, kb_t_t, kb_t_i, kb_t_b, kb_t_s, kb_i_l, kb_i_t, kb_i_i, kb_i_b, kb_i_s, kb_b_l, kb_b_t, kb_b_i, kb_b_b, kb_b_s, kb_s_l, kb_s_t, kb_s_i, kb_s_b, kb_s_s, kb_N_l, kb_N_t, kb_N_i, kb_N_b, kb_N_s, *])
/-! ## pools -/
def Px (p : Nat) (S : Sto) : Prop := ∃ a f c : Int, S[p]? = some (.lst [.int a, .int f, .int c]) ∧ 0 ≤ a ∧ 0 ≤ c
/-- all but the cell p as before -/
def Pt (p : Nat) (S S' : Sto) : Prop := S'.length = S.length ∧ ∀ q, q ≠ p → S'[q]? = S[q]?
theorem Pt.refl (p : Nat) (S : Sto) : Pt p S S := ⟨rfl, fun _ _ => rfl⟩
theorem Pt.trans {p : Nat} {S S1 S2 : Sto} (a : Pt p S S1) (b : Pt p S1 S2) : Pt p S S2 := ⟨b.1.trans a.1, fun q h => (b.2 q h).trans (a.2 q h)⟩
theorem Pt.set (p : Nat) (S : Sto) (d : Da) : Pt p S (S.set p d) := ⟨by simp, fun q h => by rw [List.getElem?_set_ne (fun z => h z.symm)]⟩
theorem Px.lt {p : Nat} {S : Sto} (h : Px p S) : p < S.length := by
  obtain ⟨a, f, c, e, z⟩ := h
  exact (List.getElem?_eq_some_iff.mp e).1
theorem cell_ok {ns : List Int} {k : Int} (h0 : 0 ≤ k) (S : Sto) : ∃ i : Int, 0 ≤ i ∧ f_l_cell [.frl ns, .int k] S = .ok (.v (.int i)) S := by
  by_cases h : k < ns.length
  · have e : atI ns k = some (ns.getD k.toNat 0) := by
      refine atI_of h0 ?_
      have : k.toNat < ns.length := by omega
      simp [List.getElem?_eq_getElem this, List.getD_eq_getElem?_getD]
    refine ⟨if ns.getD k.toNat 0 < 0 then -ns.getD k.toNat 0 else ns.getD k.toNat 0, by split <;> omega, ?_⟩
    simp only [f_l_cell, fb_l_cell]
    walk_at "f"
    simp only [h, e]
    walk_at "f"
  · refine ⟨0, by decide, ?_⟩
    simp only [f_l_cell, fb_l_cell]
    walk_at "f"
    simp only [h]
    walk_at "f"
theorem pool_ok {ns : List Int} {k : Int} (h0 : 0 ≤ k) (h1 : k < 1000000) (S : Sto) : ∃ d, f_l_pool [.frl ns, .int k] S = .ok (.v (.cell S.length)) (S ++ [d]) ∧ Px S.length (S ++ [d]) := by
  obtain ⟨i, hi, e⟩ := cell_ok (ns := ns) h0 S
  have hm : decide ((-18446744073709551616 : Int) < k ∧ k < 18446744073709551616) = true := by simp; omega
  refine ⟨.lst [.int i, .int (if decide ((1000000000000000000 : Int) ≤ i) = true then 1 else 0), .int (1000 * k)], ?_, i, _, 1000 * k, by simp; rfl, hi, by omega⟩
  simp only [f_l_pool, fb_l_pool]
  walk_at "g"
theorem take_ok {p : Nat} {S : Sto} {m : Int} (hp : Px p S) (h0 : 0 < m) (h1 : m < 4611686018427387904) : ∃ (r : Int) (S' : Sto), f_l_take [.cell p, .int m] S = .ok (.v (.int r)) S' ∧ 0 ≤ r ∧ r < m ∧ Px p S' ∧ Pt p S S' := by
  obtain ⟨a, f, c, e, ha, hc⟩ := hp
  have hl := (List.getElem?_eq_some_iff.mp e).1
  have eg : S.getD p .non = .lst [.int a, .int f, .int c] := by rw [List.getD_eq_getElem?_getD, e]; rfl
  have i0 : ixN 3 0 = some 0 := id rfl
  have i2 : ixN 3 2 = some 2 := id rfl
  have hb : (0 < m ∧ m < 4611686018427387904) := ⟨h0, h1⟩
  by_cases hA : f = 1 ∧ 1 < a
  · refine ⟨a % m, S.set p (.lst [.int (a / m), .int f, .int c]), ?_, Int.emod_nonneg _ (by omega), Int.emod_lt_of_pos _ h0, ⟨a / m, f, c, by simp [hl], Int.ediv_nonneg ha (by omega), hc⟩, Pt.set _ _ _⟩
    obtain ⟨hf, ha1⟩ := hA
    subst hf
    simp only [f_l_take, fb_l_take]
    walk_at "g"
  · have hA' : (decide (f = 1) = true ∧ decide (1 < a) = true) = False := by simp; exact fun h => Int.not_lt.mp fun z => hA ⟨h, z⟩
    have bx1 := Int.emod_nonneg ((a + 7) * 48271 + (c + 1) * 69621) (show (2147483629 : Int) ≠ 0 by decide)
    have cx : (if f = 1 then if 1 < a then (0 : Nat) else 1 else 1) = 1 := by
      by_cases h : f = 1
      · have : ¬ 1 < a := fun z => hA ⟨h, z⟩
        simp [h, this]
      · simp [h]
    have step : ∀ (x2 : Int), 0 ≤ x2 → x2 < 2147483587 → ∃ x3 : Int, True := fun x2 _ _ => ⟨x2, True.intro⟩
    generalize hx1 : ((a + 7) * 48271 + (c + 1) * 69621) % 2147483629 = x1
    have b2 := Int.emod_nonneg (x1 * 16807 + (c + 1) * 7919) (show (2147483587 : Int) ≠ 0 by decide)
    have b3 := Int.emod_lt_of_pos (x1 * 16807 + (c + 1) * 7919) (show (0 : Int) < 2147483587 by decide)
    generalize hx2 : (x1 * 16807 + (c + 1) * 7919) % 2147483587 = x2 at b2 b3
    have d1 : -18446744073709551616 < x2 / 7 ∧ x2 / 7 < 18446744073709551616 := by omega
    refine ⟨(if 15 < a then (x2 / 7 * (x2 / 1009 + (c + 1) + 3)) % 2147483563 else x2) / 11 % m, S.set p (.lst [.int a, .int f, .int (c + 1)]), ?_, Int.emod_nonneg _ (by omega), Int.emod_lt_of_pos _ h0, ⟨a, f, c + 1, by simp [hl], ha, by omega⟩, Pt.set _ _ _⟩
    have e' : (S.set p (.lst [.int a, .int f, .int (c + 1)]))[p]? = some (.lst [.int a, .int f, .int (c + 1)]) := by simp [hl]
    have eg' : (S.set p (.lst [.int a, .int f, .int (c + 1)])).getD p .non = .lst [.int a, .int f, .int (c + 1)] := by rw [List.getD_eq_getElem?_getD, e']; rfl
    have hA2 : f = 1 → ¬ 1 < a := fun h z => hA ⟨h, z⟩
    simp only [f_l_take, fb_l_take]
    by_cases hf : f = 1
    · have ha1 := hA2 hf
      clear hA hA2 cx hA' step bx1
      subst hf
      by_cases h15 : 15 < a
      · omega
      · walk_at "g"
    · clear hA hA2 cx hA' step bx1
      by_cases h15 : 15 < a
      · walk_at "g"
      · walk_at "g"
end Cl
/-! ## StrF -/
namespace Cl
open PySem PySem.Spec PyProof.Rows L2
section
open PySem PySem.Spec PyProof.Rows L2
/-! ## texts by their signs -/
def ch (s : Str) : List Nat := s.cps.toList
theorem ch_len (s : Str) : s.length = (ch s).length := (Array.length_toList (xs := s.cps)).symm
theorem ch_ext {s t : Str} (h : ch s = ch t) : s = t := by
  obtain ⟨a⟩ := s
  obtain ⟨b⟩ := t
  have : a = b := Array.toList_inj.mp h
  rw [this]
theorem ch_mk (l : List Nat) : ch ⟨l.toArray⟩ = l := rfl
theorem ch_one (c : Nat) : ch ⟨#[c]⟩ = [c] := rfl
theorem ch_app (a b : Str) : ch (a ++ b) = ch a ++ ch b := by
  show (a.cps ++ b.cps).toList = _
  rw [Array.toList_append]; rfl
theorem ch_cut (z : Str) (lo hi : Option Int) : ch (cutS z lo hi) = ((ch z).drop (HT.sIx (ch z).length 0 lo)).take (HT.sIx (ch z).length (ch z).length hi - HT.sIx (ch z).length 0 lo) := by
  show ((z.cps.toList.drop (HT.sIx z.length 0 lo)).take (HT.sIx z.length z.length hi - HT.sIx z.length 0 lo)) = _
  rw [ch_len]; rfl
theorem ch_to (z : Str) {k : Int} (h : 0 ≤ k) : ch (cutS z none (some k)) = (ch z).take k.toNat := by
  rw [ch_cut]
  show ((ch z).drop 0).take ((if k < 0 then (k + ((ch z).length : Int)).toNat else min k.toNat (ch z).length) - 0) = _
  rw [if_neg (by omega), List.drop_zero, Nat.sub_zero, List.take_eq_take_iff]
  omega
theorem ch_from (z : Str) {k : Int} (h : 0 ≤ k) : ch (cutS z (some k) none) = (ch z).drop k.toNat := by
  rw [ch_cut]
  show ((ch z).drop (if k < 0 then (k + ((ch z).length : Int)).toNat else min k.toNat (ch z).length)).take ((ch z).length - (if k < 0 then (k + ((ch z).length : Int)).toNat else min k.toNat (ch z).length)) = _
  rw [if_neg (by omega)]
  rw [List.take_of_length_le (by rw [List.length_drop]; exact Nat.le_refl _)]
  by_cases hk : k.toNat ≤ (ch z).length
  · rw [Nat.min_eq_left hk]
  · rw [Nat.min_eq_right (by omega), List.drop_length, List.drop_of_length_le (by omega)]
theorem empty_lit : (("" : String) : Str) = Str.empty := by decide +kernel
theorem chD_map (s : Str) : chD s = (ch s).map fun c => Da.str ⟨#[c]⟩ := rfl
end
/-! ## NamB -/
local macro_rules | `(tactic| walk_at "g") => `(tactic| simp only [e_fSeq, e_fSl, e_fVar, e_fC, e_fOp, e_fNotV, e_fAndV, e_fIf, e_fChain, e_fNil, e_fCons, e_fTup, e_fLst, e_fCell, e_fNoP, e_fPart, e_fRev, e_fFld, e_fCB, e_fTest, e_fAnd, e_fOr, e_fNot, e_fYes, e_fCall, e_fCallS, e_fMeth, e_fNext, e_fRet, e_fDrop, e_fIfS, e_fSet, e_fSetD, e_fPar, e_fFrz, e_fAppS, e_fSetI, e_fSFld, e_fiL, e_fiB, e_fiR1, e_fiS, e_fiE, e_fiET, e_fFor, e_fLc, e_fRaise, e_fTry, e_fXf, e_fIsE, e_fNeg, e_fMethX, e_fMakeX, e_fOwnEq, e_fIsC, e_fLenO, onLen, e_fCallL, e_fLendE, chkE_ok, chkD_ok, Rv.flatR, e_fLenS, e_fFind, e_fAppE, e_fForC, e_fLcC, e_fInsE, e_fIdxN, e_fUn, e_onLs, lendDs_v, lendDs_fr, lendDs_bo, lendDs_0, chkL_ok, chkI_ok, chkI_ex, exnNoL, chkT_ok, onK_int, onK_str, Da.key, Rv.noL, Da.noL, sq_nx, sq_rt, sq_bk, sq_ct, sq_ex, sq_bad, bd_ok, bd_ex, bd_bad, so_ok, so_ex, so_bad, noX_ok, noX_ex, noX_bad, onB_bl, onD_v, onD_fr, e_onDs, toDs_v, toDs_fr, toDs_0, onO_some, omap_some, Option.map_none, Option.isSome_none, Option.isSome_some, Option.getD_none, Option.getD_some, List.isEmpty_nil, List.isEmpty_cons, e_endO, e_endOr, fin_nx, fin_rt, fin_ex, fin0_nx, fin0_rt, e_fnOf, e_fnOf0, inOf, fHand, fgName, fgTup, fgCons, fgNil, Rv.toD, Rv.rd, Rv.bool, Rv.out, Rv.sx, Rv.isN, Da.sv, svs, Da.tyN, Da.tru, Da.fmt, noExn, oI0, oI, xEq, xIsN, xIx, xIxS, xAddS, xInS, xIn, xCat, xSlL, xSlS, bLen, bLenS, bI1, bI2, bInt1, bList, bTup, bTupN, bAll, putN, scal, cMul, cDiv, cMod, cPow, wipeD, ofString_inj, String.reduceEq, String.reduceNe, getF_cons, List.mem_cons, List.not_mem_nil, List.getElem?_cons_succ, List.getElem?_cons_zero, List.set_cons_succ, List.set_cons_zero, List.length_cons, List.length_nil, List.length_append, List.length_map, List.length_set, Int.toNat_natCast, List.map_cons, List.map_nil, List.cons_append, List.nil_append, List.append_nil, List.zip_cons_cons, List.zip_nil_left, List.zip_nil_right, List.reverse_cons, List.reverse_nil, List.all_cons, List.all_nil, List.lookup_cons, List.lookup_nil, List.replicate_succ, List.replicate_zero, Nat.reduceAdd, Nat.reduceSub, Nat.reduceLT, Nat.reduceLeDiff, Nat.reduceEqDiff, Nat.zero_add, Nat.add_zero, Nat.sub_self, Nat.sub_zero, if_true, if_false, ite_true, ite_false, Bool.false_eq_true, Bool.true_and, Bool.and_true, Bool.false_and, Bool.and_false, Bool.true_or, Bool.or_true, Bool.false_or, Bool.or_false, Bool.not_true, Bool.not_false, decide_true, decide_false, and_self, and_true, true_and, not_true_eq_false, not_false_eq_true, reduceIte, Option.some.injEq, reduceCtorEq, decide_eq_true_eq, ne_eq, Int.reduceLT, Int.reduceLE, Int.reduceEq, Int.reduceNe, Int.reduceAdd, Int.reduceSub, Int.reduceMul, Int.reduceNeg, Int.reducePow, Int.reduceToNat, Int.reduceDiv, Int.reduceMod, Int.reduceAbs, or_true, true_or, or_false, false_or, and_false, false_and, at_0, at_1, at_2, at_3, at_4, at_5, atM_1, V.int.injEq, V.bl.injEq, V.str.injEq, nc0, nc1, nc2, nc3, nc4, nc5, nc6, nc7, nc8, nc9, nc10, nc11, nc12, natAbs10, sx1, sx2, sx3, sx4, sx5, cut1, cut2, cut3, kb_l_l, kb_l_t, kb_l_i, kb_l_b, kb_l_s, kb_t_l, kb_t_t, kb_t_i, kb_t_b, kb_t_s, kb_i_l, kb_i_t, kb_i_i, kb_i_b, kb_i_s, kb_b_l, kb_b_t, kb_b_i, kb_b_b, kb_b_s, kb_s_l, kb_s_t, kb_s_i, kb_s_b, kb_s_s, kb_N_l, kb_N_t, kb_N_i, kb_N_b, kb_N_s, *])
section
open PySem PySem.Spec PyProof.Rows L2
/-! ## names -/
def LT : Str := "abcdefghijklmnopqrstuvwxyz"
def isL (c : Nat) : Bool := decide (c ∈ ch LT)
def isNm (s : Str) : Bool := decide (1 ≤ (s.length : Int)) && decide ((s.length : Int) ≤ 8) && (ch s).all isL
theorem lt_len : (ch LT).length = 26 := by decide +kernel
theorem is_name_ok {s : Str} (h : s.length ≤ 1000000) (S : Sto) : f_is_name [.str s] S = .ok (.v (.bl (isNm s))) S := by
  have hlc : foldLc (fgName 1) fYes fe_is_name_0 [some (Sx.v (.str s)), none] (chD s) [] S = .ok ([] ++ ((ch s).filter (fun _ => true)).map fun c => .bl (isL c)) S := by
    rw [chD_map]
    refine lc_pure _ _ _ (fun c => [some (Sx.v (.str s)), some (Sx.v (.str ⟨#[c]⟩))]) (fun c _ => ⟨rfl, rfl, fun _ => ⟨.v (.bl (isL c)), rfl, rfl⟩⟩) ?_
    rw [← ch_len]; simpa using h
  rw [List.filter_eq_self.mpr (fun _ _ => rfl), List.nil_append] at hlc
  have hb := bools_map isL (ch s)
  have e : isNm s = (decide (1 ≤ (s.length : Int)) && decide ((s.length : Int) ≤ 8) && (ch s).all isL) := rfl
  have ha : ((ch s).map isL).all id = (ch s).all isL := by rw [List.all_map]; rfl
  by_cases h1 : 1 ≤ (s.length : Int)
  · by_cases h8 : (s.length : Int) ≤ 8
    · rw [e]
      simp only [f_is_name, fb_is_name]
      walk_at "g"
    · rw [e]
      simp only [f_is_name, fb_is_name]
      walk_at "g"
  · rw [e]
    simp only [f_is_name, fb_is_name]
    walk_at "g"
theorem nm_pos {s : Str} (h : isNm s = true) : 1 ≤ s.length ∧ s.length ≤ 8 ∧ ∀ c ∈ ch s, isL c = true := by
  unfold isNm at h
  simp only [Bool.and_eq_true, decide_eq_true_eq, List.all_eq_true] at h
  exact ⟨by omega, by omega, h.2⟩
theorem nm_of {s : Str} (h1 : 1 ≤ s.length) (h2 : s.length ≤ 8) (h3 : ∀ c ∈ ch s, isL c = true) : isNm s = true := by
  unfold isNm
  simp only [Bool.and_eq_true, decide_eq_true_eq, List.all_eq_true]
  exact ⟨⟨by omega, by omega⟩, h3⟩
theorem lt_at {i : Int} (h0 : 0 ≤ i) (h1 : i < 26) : ∃ c, atI (ch LT) i = some c ∧ isL c = true := by
  have hi : i.toNat < (ch LT).length := by rw [lt_len]; omega
  refine ⟨(ch LT)[i.toNat], at_int h0 (List.getElem?_eq_getElem hi), ?_⟩
  unfold isL
  exact decide_eq_true (List.getElem_mem hi)
/-! ## a name unlike others -/
abbrev strsL (ts : List Str) : List Da := ts.map Da.str
theorem svs_str (ts : List Str) : svs (strsL ts) = some (ts.map V.str) := by
  induction ts with
  | nil => rfl
  | cons t ts ih =>
    rw [strsL, List.map_cons]
    show (match (Da.str t).sv, svs (strsL ts) with | some x, some xs => some (x :: xs) | _, _ => none) = _
    rw [ih]; rfl
theorem flat_str (ts : List Str) : (ts.map V.str).all flatV = true := by
  rw [List.all_eq_true]
  intro x hx
  obtain ⟨k, _, rfl⟩ := List.mem_map.mp hx
  rfl
theorem inV_str (s : Str) (ts : List Str) : inV (.str s) (ts.map V.str) = decide (s ∈ ts) := by
  induction ts with
  | nil => rfl
  | cons t ts ih =>
    have : inV (.str s) ((t :: ts).map V.str) = ((t == s) || inV (.str s) (ts.map V.str)) := rfl
    rw [this, ih, Bool.eq_iff_iff]
    simp only [Bool.or_eq_true, decide_eq_true_eq, List.mem_cons]
    constructor
    · rintro (h | h)
      · exact .inl (eq_of_beq h).symm
      · exact .inr h
    · rintro (h | h)
      · exact .inl (by rw [h]; exact beq_self_eq_true _)
      · exact .inr h
/-- of 26 letters one begins a text that is not taken -/
theorem spare_some {r : List Nat} : ∀ {cs : List Nat} {ts : List Str}, cs.Nodup → ts.length < cs.length → ∃ c ∈ cs, (⟨(c :: r).toArray⟩ : Str) ∉ ts
  | [], ts, _, h => by simp at h
  | c :: cs, ts, hn, h => by
    by_cases hc : (⟨(c :: r).toArray⟩ : Str) ∈ ts
    · obtain ⟨h1, h2⟩ := List.nodup_cons.mp hn
      have hl : (ts.erase ⟨(c :: r).toArray⟩).length < cs.length := by
        rw [List.length_erase_of_mem hc]
        have := List.length_pos_of_mem hc
        simp at h; omega
      obtain ⟨d, hd, hd2⟩ := spare_some (r := r) h2 hl
      refine ⟨d, List.mem_cons_of_mem c hd, fun z => hd2 ?_⟩
      have hne : (⟨(d :: r).toArray⟩ : Str) ≠ ⟨(c :: r).toArray⟩ := by
        intro e
        have := congrArg ch e
        rw [ch_mk, ch_mk] at this
        cases this
        exact h1 hd
      exact (List.mem_erase_of_ne hne).mpr z
    · exact ⟨c, by simp, hc⟩
theorem lt_nodup : (ch LT).Nodup := by decide +kernel
end
/-! ## NoF -/
section
open PySem PySem.Spec PyProof.Rows L2
/-! ## stores whose objects hold no list -/
theorem nol_of : ∀ {S : Sto}, (∀ (i : Nat) d, S[i]? = some d → d.noLc = true) → stoNoL S = true
  | [], _ => rfl
  | x :: S, h => by
    unfold stoNoL
    rw [h 0 x rfl, nol_of fun i d e => h (i + 1) d (by simpa using e)]
    rfl
theorem nol_px {p : Nat} {S : Sto} {d : Da} (h : Px p S) (e : S[p]? = some d) : d.noLc = true := by
  obtain ⟨a, f, c, e2, _⟩ := h
  rw [e] at e2
  cases e2
  rfl
theorem nol_pt {p : Nat} {S S' : Sto} (h : stoNoL S = true) (t : Pt p S S') (p' : Px p S') : stoNoL S' = true := nol_of fun i d e => by
  by_cases hi : i = p
  · subst hi; exact nol_px p' e
  · rw [t.2 i hi] at e; exact stoNoL_at h e
end
/-! ## DeqF -/
section
open PySem PySem.Spec PyProof.Rows L2
/-! ## == and in for plain data: numbers, texts, None, lists and tuples of them, to the depth k -/
def Da.pl : Nat → Da → Bool
  | _, .non => true
  | _, .int _ => true
  | _, .str s => PyData.strOk s
  | k + 1, .lst ds => ds.all (Da.pl k)
  | k + 1, .tup ds => ds.all (Da.pl k)
  | _, _ => false
theorem pls_py {k : Nat} (h : ∀ d : Da, d.pl k = true → ∃ p, d.py = some p ∧ p.canLay0 = true ∧ p.depth ≤ k) : ∀ ds : List Da, ds.all (Da.pl k) = true → ∃ ps, pys ds = some ps ∧ PyData.canLayAll0 ps = true ∧ PyData.depthAll ps ≤ k
  | [], _ => ⟨[], rfl, by simp [PyData.canLayAll0], by simp [PyData.depthAll]⟩
  | d :: ds, e => by
    rw [List.all_cons, Bool.and_eq_true] at e
    obtain ⟨p, h1, h2, h3⟩ := h d e.1
    obtain ⟨ps, g1, g2, g3⟩ := pls_py h ds e.2
    refine ⟨p :: ps, by simp only [pys, h1, g1], by simp only [PyData.canLayAll0, h2, g2, Bool.and_self], ?_⟩
    simp only [PyData.depthAll]; omega
theorem pl_py : ∀ (k : Nat) (d : Da), d.pl k = true → ∃ p, d.py = some p ∧ p.canLay0 = true ∧ p.depth ≤ k
  | k, .non, _ => ⟨.none, rfl, by simp [PyData.canLay0], by simp [PyData.depth]⟩
  | k, .int i, _ => ⟨.int i, rfl, by simp [PyData.canLay0], by simp [PyData.depth]⟩
  | k, .str s, h => ⟨.str s, rfl, by unfold PyData.canLay0; cases k <;> exact h, by simp [PyData.depth]⟩
  | k + 1, .lst ds, h => by
    obtain ⟨ps, h1, h2, h3⟩ := pls_py (pl_py k) ds h
    exact ⟨.list ps, by simp only [Da.py, h1], by simpa only [PyData.canLay0] using h2, by simp only [PyData.depth]; omega⟩
  | k + 1, .tup ds, h => by
    obtain ⟨ps, h1, h2, h3⟩ := pls_py (pl_py k) ds h
    exact ⟨.tuple ps, by simp only [Da.py, h1], by simpa only [PyData.canLay0] using h2, by simp only [PyData.depth]; omega⟩
  | 0, .lst _, h => by cases h
  | 0, .tup _, h => by cases h
  | 0, .bl _, h => by cases h
  | 0, .frl _, h => by cases h
  | 0, .obj _ _ _, h => by cases h
  | 0, .dic _ _, h => by cases h
  | 0, .dct _ _, h => by cases h
  | 0, .cell _, h => by cases h
  | 0, .tupN _, h => by cases h
  | k + 1, .bl _, h => by cases h
  | k + 1, .frl _, h => by cases h
  | k + 1, .obj _ _ _, h => by cases h
  | k + 1, .dic _ _, h => by cases h
  | k + 1, .dct _ _, h => by cases h
  | k + 1, .cell _, h => by cases h
  | k + 1, .tupN _, h => by cases h
theorem pys_one {d : Da} {ds : List Da} {ps : List PyData} (h : pys (d :: ds) = some ps) : ∃ p qs, ps = p :: qs ∧ d.py = some p ∧ pys ds = some qs := by
  simp only [pys] at h
  split at h
  · rename_i p qs e1 e2; cases h; exact ⟨p, qs, rfl, e1, e2⟩
  · cases h
theorem pls_eqv {k : Nat} (h : ∀ (d e : Da) p q, d.pl k = true → e.pl k = true → d.py = some p → e.py = some q → (PyData.eqv p q = true ↔ d = e)) : ∀ (ds es : List Da) (ps qs : List PyData), ds.all (Da.pl k) = true → es.all (Da.pl k) = true → pys ds = some ps → pys es = some qs → (PyData.eqvAll ps qs = true ↔ ds = es)
  | [], [], ps, qs, _, _, e1, e2 => by cases e1; cases e2; simp [PyData.eqvAll]
  | [], e :: es, ps, qs, _, _, e1, e2 => by
    cases e1
    obtain ⟨q, qs', rfl, _, _⟩ := pys_one e2
    simp [PyData.eqvAll]
  | d :: ds, [], ps, qs, _, _, e1, e2 => by
    cases e2
    obtain ⟨q, qs', rfl, _, _⟩ := pys_one e1
    simp [PyData.eqvAll]
  | d :: ds, e :: es, ps, qs, h1, h2, e1, e2 => by
    obtain ⟨p, ps', rfl, a1, a2⟩ := pys_one e1
    obtain ⟨q, qs', rfl, b1, b2⟩ := pys_one e2
    rw [List.all_cons, Bool.and_eq_true] at h1 h2
    have i1 := h d e p q h1.1 h2.1 a1 b1
    have i2 := pls_eqv h ds es ps' qs' h1.2 h2.2 a2 b2
    simp only [PyData.eqvAll, Bool.and_eq_true, i1, i2, List.cons.injEq]
theorem py_lst {ds : List Da} {p : PyData} (h : (Da.lst ds).py = some p) : ∃ ps, pys ds = some ps ∧ p = .list ps := by
  simp only [Da.py] at h
  split at h
  · rename_i ps e; cases h; exact ⟨ps, e, rfl⟩
  · cases h
theorem py_tup {ds : List Da} {p : PyData} (h : (Da.tup ds).py = some p) : ∃ ps, pys ds = some ps ∧ p = .tuple ps := by
  simp only [Da.py] at h
  split at h
  · rename_i ps e; cases h; exact ⟨ps, e, rfl⟩
  · cases h
theorem pl_eqv : ∀ (k : Nat) (d e : Da) p q, d.pl k = true → e.pl k = true → d.py = some p → e.py = some q → (PyData.eqv p q = true ↔ d = e) := by
  intro k
  induction k with
  | zero =>
    intro d e p q h1 h2 e1 e2
    cases d <;> first | (cases h1; done) | skip
    all_goals (cases e <;> first | (cases h2; done) | skip)
    all_goals (cases e1; cases e2; simp [PyData.eqv])
  | succ k ih =>
    intro d e p q h1 h2 e1 e2
    cases d with
    | lst ds =>
      obtain ⟨ps, a1, rfl⟩ := py_lst e1
      cases e with
      | lst es =>
        obtain ⟨qs, b1, rfl⟩ := py_lst e2
        simp only [PyData.eqv, pls_eqv ih ds es ps qs h1 h2 a1 b1, Da.lst.injEq]
      | tup es => obtain ⟨qs, b1, rfl⟩ := py_tup e2; simp [PyData.eqv]
      | non => cases e2; simp [PyData.eqv]
      | int i => cases e2; simp [PyData.eqv]
      | str s => cases e2; simp [PyData.eqv]
      | _ => cases h2
    | tup ds =>
      obtain ⟨ps, a1, rfl⟩ := py_tup e1
      cases e with
      | tup es =>
        obtain ⟨qs, b1, rfl⟩ := py_tup e2
        simp only [PyData.eqv, pls_eqv ih ds es ps qs h1 h2 a1 b1, Da.tup.injEq]
      | lst es => obtain ⟨qs, b1, rfl⟩ := py_lst e2; simp [PyData.eqv]
      | non => cases e2; simp [PyData.eqv]
      | int i => cases e2; simp [PyData.eqv]
      | str s => cases e2; simp [PyData.eqv]
      | _ => cases h2
    | non =>
      cases e1
      cases e with
      | lst es => obtain ⟨qs, b1, rfl⟩ := py_lst e2; simp [PyData.eqv]
      | tup es => obtain ⟨qs, b1, rfl⟩ := py_tup e2; simp [PyData.eqv]
      | non => cases e2; simp [PyData.eqv]
      | int i => cases e2; simp [PyData.eqv]
      | str s => cases e2; simp [PyData.eqv]
      | _ => cases h2
    | int i =>
      cases e1
      cases e with
      | lst es => obtain ⟨qs, b1, rfl⟩ := py_lst e2; simp [PyData.eqv]
      | tup es => obtain ⟨qs, b1, rfl⟩ := py_tup e2; simp [PyData.eqv]
      | non => cases e2; simp [PyData.eqv]
      | int i => cases e2; simp [PyData.eqv]
      | str s => cases e2; simp [PyData.eqv]
      | _ => cases h2
    | str s =>
      cases e1
      cases e with
      | lst es => obtain ⟨qs, b1, rfl⟩ := py_lst e2; simp [PyData.eqv]
      | tup es => obtain ⟨qs, b1, rfl⟩ := py_tup e2; simp [PyData.eqv]
      | non => cases e2; simp [PyData.eqv]
      | int i => cases e2; simp [PyData.eqv]
      | str s => cases e2; simp [PyData.eqv]
      | _ => cases h2
    | _ => cases h1
theorem shaped_of {p : PyData} {k : Nat} (h1 : p.canLay0 = true) (h2 : p.depth ≤ k) (hk : k ≤ 60) : SeqAt.shaped p = true := by
  unfold SeqAt.shaped
  rw [h1, decide_eq_true (by omega : p.depth ≤ 64)]; rfl
section
variable {S : Sto} {r1 r2 : Rv} {d e : Da} {k : Nat}
theorem eqD_same (k : Nat) (neg : Bool) (hk : k ≤ 60) (h : d.pl k = true) (e1 : r1.rd S = d) (e2 : r2.rd S = d) : xEqD neg r1 r2 S = .ok (.v (.bl (!neg))) S := by
  obtain ⟨p, h1, h2, h3⟩ := pl_py k d h
  have h4 := (pl_eqv k d d p p h h h1 h1).mpr rfl
  unfold xEqD
  rw [e1, e2, h1]
  simp only [shaped_of h2 h3 hk, Bool.and_self, if_true, h4]
  cases neg <;> rfl
theorem eqD_ne (k : Nat) (neg : Bool) (hk : k ≤ 60) (h : d.pl k = true) (g : e.pl k = true) (hne : d ≠ e) (e1 : r1.rd S = d) (e2 : r2.rd S = e) : xEqD neg r1 r2 S = .ok (.v (.bl neg)) S := by
  obtain ⟨p, h1, h2, h3⟩ := pl_py k d h
  obtain ⟨q, g1, g2, g3⟩ := pl_py k e g
  have h4 : PyData.eqv p q = false := by
    cases h5 : PyData.eqv p q with
    | false => rfl
    | true => exact absurd ((pl_eqv k d e p q h g h1 g1).mp h5) hne
  unfold xEqD
  rw [e1, e2, h1, g1]
  simp only [shaped_of h2 h3 hk, shaped_of g2 g3 hk, Bool.and_self, if_true, h4]
  cases neg <;> rfl
end
theorem pl_map {α : Type} {F : α → Da} {l : List α} {k : Nat} (h : ∀ x ∈ l, (F x).pl k = true) : (l.map F).all (Da.pl k) = true := by
  rw [List.all_eq_true]
  intro d hd
  obtain ⟨x, hx, rfl⟩ := List.mem_map.mp hd
  exact h x hx
theorem strOk_of {s : Str} (h : ∀ c ∈ ch s, c < 1114112) : PyData.strOk s = true := by
  unfold PyData.strOk
  rw [← Array.all_toList, List.all_eq_true]
  intro c hc
  have := h c hc
  simp
  omega
end
/-! ## BkTa -/
section
open PySem PySem.Spec PyProof.Rows L2
/-- a page: its name, its lines, its followers -/
structure Sh where
  n : Str
  ls : List Str
  fs : List Str
deriving Inhabited
def Sh.da (s : Sh) : Da := .tup [.str s.n, .lst (strsL s.ls), .lst (strsL s.fs)]
abbrev shD (l : List Sh) : List Da := l.map Sh.da
abbrev nmS (l : List Sh) : List Str := l.map Sh.n
structure GoodB (l : List Sh) (st ln : List Str) : Prop where
  n1 : 1 ≤ l.length
  n4 : l.length ≤ 4
  nn : ∀ w ∈ nmS l, isNm w = true
  nd : (nmS l).Nodup
  ll : ln.length ≤ 9
  lw : ∀ w ∈ ln, isNm w = true
  lnd : ln.Nodup
  ls : ∀ s ∈ l, (∀ w ∈ s.ls, w ∈ ln) ∧ s.ls.Nodup ∧ s.ls.length ≤ 8
  fs : ∀ s ∈ l, (∀ w ∈ s.fs, w ∈ nmS l) ∧ s.fs.Nodup ∧ s.fs ≠ []
  ss : (∀ w ∈ st, w ∈ nmS l) ∧ st.Nodup ∧ st ≠ []
/-- a short text of plain signs -/
def OkT (s : Str) : Prop := s.length ≤ 1000 ∧ ∀ c ∈ ch s, c < 128
theorem lt_small : ∀ c ∈ ch LT, c < 128 := by decide +kernel
theorem okT_nm {s : Str} (h : isNm s = true) : OkT s := ⟨by have := nm_pos h; omega, fun c hc => lt_small c (of_decide_eq_true ((nm_pos h).2.2 c hc))⟩
theorem okT_pl {s : Str} (h : OkT s) (k : Nat) : (Da.str s).pl k = true := by
  have : PyData.strOk s = true := strOk_of fun c hc => by have := h.2 c hc; omega
  cases k <;> exact this
theorem okT_lst {ts : List Str} (h : ∀ t ∈ ts, OkT t) (k : Nat) : (Da.lst (strsL ts)).pl (k + 1) = true := pl_map (F := Da.str) fun t ht => okT_pl (h t ht) k
theorem strs_at {ws : List Str} {i : Nat} (h : i < ws.length) : atI (strsL ws) (i : Int) = some (.str ws[i]) := by
  refine at_nat ?_
  simp [h]
/-- a slot that holds d, as an own list or as data -/
def OvL (x : Option Sx) (ds : List Da) : Prop := x = some (.own (.lst ds) false) ∨ x = some (.v (.lst ds))
end
/-! ## FndF -/
section
open PySem PySem.Spec PyProof.Rows L2
/-! ## loops that look for the first -/
theorem enD_of : ∀ {xs : List Da} {k i : Nat} {d : Da}, (enD k xs)[i]? = some d → ∃ x, xs[i]? = some x ∧ d = .tup [.int ((k + i : Nat) : Int), x]
  | [], k, i, d, h => by simp [enD] at h
  | x :: xs, k, 0, d, h => by simp [enD] at h; exact ⟨x, rfl, by rw [← h]; rfl⟩
  | x :: xs, k, i + 1, d, h => by
    simp only [enD, List.getElem?_cons_succ] at h
    obtain ⟨y, h1, h2⟩ := enD_of h
    exact ⟨y, by simpa using h1, by rw [h2, show k + 1 + i = k + (i + 1) by omega]⟩
theorem at_nat' {α : Type} {xs : List α} {i : Nat} {a : α} (h : xs[i]? = some a) : atI xs (i : Int) = some a := atI_nat h
theorem at_mapD {α : Type} {F : α → Da} {l : List α} {i : Nat} (x : α) (h : i < l.length) : atI (l.map F) (i : Int) = some (F (l.getD i x)) := by
  refine at_nat' ?_
  simp [h, List.getD_eq_getElem?_getD]
theorem map_at {α : Type} {F : α → Da} {l : List α} {i : Nat} {d : Da} (x : α) (h : (l.map F)[i]? = some d) : i < l.length ∧ d = F (l.getD i x) ∧ l.getD i x ∈ l := by
  rw [List.getElem?_map] at h
  cases e : l[i]? with
  | none => rw [e] at h; cases h
  | some y =>
    rw [e] at h
    cases h
    obtain ⟨hi, hy⟩ := List.getElem?_eq_some_iff.mp e
    exact ⟨hi, by simp [List.getD_eq_getElem?_getD, e], by simp [List.getD_eq_getElem?_getD, e]; rw [← hy]; exact List.getElem_mem hi⟩
end
/-! ## FlatF -/
section
open PySem PySem.Spec PyProof.Rows L2
/-! ## stores without lists in lists -/
theorem flat_of : ∀ {S : Sto}, (∀ (i : Nat) d, S[i]? = some d → d.flatC = true) → stoFlat S = true
  | [], _ => rfl
  | x :: S, h => by
    unfold stoFlat
    rw [h 0 x rfl, flat_of fun i d e => h (i + 1) d (by simpa using e)]
    rfl
theorem flats_ints : ∀ m : List Int, flats (m.map Da.int) = true
  | [] => rfl
  | x :: m => by
    have := flats_ints m
    show ((Da.int x).flat && flats (m.map Da.int)) = true
    rw [this]
    rfl
theorem flat_ints (m : List Int) : (Da.lst (m.map Da.int)).flatC = true := flats_ints m
theorem flat_px {p : Nat} {S : Sto} {d : Da} (h : Px p S) (e : S[p]? = some d) : d.flatC = true := by
  obtain ⟨a, f, c, e2, _⟩ := h
  rw [e] at e2
  cases e2
  exact flat_ints [a, f, c]
end
/-! ## EvC -/
section
open PySem PySem.Spec PyProof.Rows L2
/-! ## walks over a list that is a cell -/
section
variable {n : Nat} {L : List Da} {fg : FG} {fb : FS}
theorem forC_eq (P : Nat → Env → Sto → Prop) (hP : ∀ i σ S, P i σ S → S[n]? = some (.lst L)) : ∀ {items : List Da} {k : Nat} {σ : Env} {S : Sto}, P k σ S →
    (∀ (i : Nat) d σ S, items[i]? = some d → P (k + i) σ S → ∃ σ1, fg d σ = some σ1 ∧ ∀ σ2 S2, (fb σ1 S = .nx σ2 S2 ∨ fb σ1 S = .ct σ2 S2) → P (k + i + 1) σ2 S2) → foldForC n L fg fb items σ S = foldFor fg fb items σ S
  | [], k, σ, S, h0, _ => by unfold foldForC; rw [isC_of (hP _ _ _ h0)]; rfl
  | d :: items, k, σ, S, h0, hs => by
    obtain ⟨σ1, h1, h2⟩ := hs 0 d σ S rfl h0
    have hr : ∀ σ2 S2, P (k + 1) σ2 S2 → foldForC n L fg fb items σ2 S2 = foldFor fg fb items σ2 S2 := fun σ2 S2 h => forC_eq P hP (items := items) (k := k + 1) h fun i d σ S e hp => by
      have := hs (i + 1) d σ S (by simpa using e) (by rw [show k + (i + 1) = k + 1 + i by omega]; exact hp)
      rw [show k + (i + 1) + 1 = k + 1 + i + 1 by omega] at this
      exact this
    unfold foldForC
    rw [isC_of (hP _ _ _ h0)]
    simp only [foldFor, h1]
    cases e : fb σ1 S with
    | nx σ2 S2 => exact hr σ2 S2 (h2 σ2 S2 (.inl e))
    | ct σ2 S2 => exact hr σ2 S2 (h2 σ2 S2 (.inr e))
    | _ => rfl
theorem for_inC (P : Nat → Env → Sto → Prop) (hP : ∀ i σ S, P i σ S → S[n]? = some (.lst L)) {items : List Da} {σ : Env} {S : Sto} (h0 : P 0 σ S)
    (hs : ∀ (i : Nat) d σ S, items[i]? = some d → P i σ S → ∃ σ1, fg d σ = some σ1 ∧ NxP (P (i + 1)) (fb σ1 S)) :
    ∃ σ' S', foldForC n L fg fb items σ S = .nx σ' S' ∧ P items.length σ' S' := by
  obtain ⟨σ', S', e, h⟩ := for_in (fg := fg) (fb := fb) P h0 hs
  refine ⟨σ', S', ?_, h⟩
  rw [← e]
  refine forC_eq P hP (k := 0) h0 fun i d σ S ed hp => ?_
  rw [Nat.zero_add] at hp
  obtain ⟨σ1, h1, h2⟩ := hs i d σ S ed hp
  refine ⟨σ1, h1, fun σ2 S2 h3 => ?_⟩
  rw [Nat.zero_add]
  rcases h3 with h3 | h3 <;> (rw [h3] at h2; exact h2)
end
section
variable {α : Type} {n : Nat} {L : List Da} {fg : FG} {ft : FT} {fe fk fv : FE} {σ : Env} {S : Sto}
theorem lcC_pure (hS : S[n]? = some (.lst L)) (F : α → Da) (g : α → Bool) (h : α → Da) (σ1 : α → Env) : ∀ {l : List α} {acc : List Da}, (∀ x ∈ l, fg (F x) σ = some (σ1 x) ∧ ft (σ1 x) S = .ok (g x) S ∧ (g x = true → ∃ r, fe (σ1 x) S = .ok r S ∧ r.toD = some (h x))) → acc.length + l.length ≤ 1000000 →
    foldLcC n L fg ft fe σ (l.map F) acc S = .ok (acc ++ (l.filter g).map h) S
  | [], acc, _, _ => by rw [List.map_nil]; unfold foldLcC; rw [isC_of hS]; simp
  | x :: l, acc, hx, hz => by
    obtain ⟨h1, h2, h3⟩ := hx x (by simp)
    have hr := fun y hy => hx y (List.mem_cons_of_mem x hy)
    rw [List.map_cons]
    unfold foldLcC
    rw [isC_of hS]
    simp only [h1, h2, Ev.noX, Ev.bd]
    cases hg : g x with
    | true =>
      obtain ⟨r, h4, h5⟩ := h3 hg
      have hl : acc.length < 1000000 := by simp at hz; omega
      simp only [if_true, h4, Ev.noX, Ev.bd, onD, h5, hl]
      rw [lcC_pure hS F g h σ1 hr (by simp at hz ⊢; omega)]
      simp [hg]
    | false =>
      simp only [Bool.false_eq_true, if_false]
      rw [lcC_pure hS F g h σ1 hr (by simp at hz ⊢; omega)]
      simp [hg]
end
end
/-! ## CellY -/
section
open PySem PySem.Spec PyProof.Rows L2
/-! ## walks over a cell or a list, when the store stays -/
section
variable {fe fk : FE} {fg : FG} {fb : FS} {ft : FT} {σ : Env} {S : Sto} {d : Da} {ds : List Da}
theorem rdL (h : (Rv.v d).rd S = .lst ds) : (∃ n, d = .cell n ∧ S[n]? = some (.lst ds)) ∨ d = .lst ds := by
  cases d with
  | cell n =>
    refine .inl ⟨n, rfl, ?_⟩
    have h : S.getD n .non = .lst ds := h
    rw [List.getD_eq_getElem?_getD] at h
    cases e : S[n]? with
    | none => rw [e] at h; cases h
    | some x => rw [e] at h; exact congrArg some h
  | lst xs => exact .inr h
  | _ => cases h
theorem forXE_in (hfe : fe σ S = .ok (.v d) S) (hd : (Rv.v d).rd S = .lst ds) (P : Nat → Env → Prop) (h0 : P 0 σ)
    (hs : ∀ (i : Nat) x σ, ds[i]? = some x → P i σ → ∃ σ1 σ2, fg (.tup [.int (i : Nat), x]) σ = some σ1 ∧ fb σ1 S = .nx σ2 S ∧ P (i + 1) σ2) :
    ∃ σ', fForXE (fCons fe fNil) fg fb σ S = .nx σ' S ∧ P ds.length σ' := by
  have hfa : fCons fe fNil σ S = .ok [.v d] S := by rw [e_fCons, hfe, bd_ok, e_fNil, bd_ok]
  have hs' : ∀ (i : Nat) x σ S', (enD 0 ds)[i]? = some x → (S' = S ∧ P i σ) → ∃ σ1, fg x σ = some σ1 ∧ NxP (fun σ2 S2 => S2 = S ∧ P (i + 1) σ2) (fb σ1 S') := by
    rintro i x σ S' hx ⟨rfl, hp⟩
    obtain ⟨y, hy, rfl⟩ := enD_of hx
    rw [Nat.zero_add]
    obtain ⟨σ1, σ2, h1, h2, h3⟩ := hs i y σ hy hp
    exact ⟨σ1, h1, nx_of h2 ⟨rfl, h3⟩⟩
  have hlen : (enD 0 ds).length = ds.length := enD_len _ _
  rcases rdL hd with ⟨n, rfl, hn⟩ | rfl
  · obtain ⟨σ', S', e, rfl, hp⟩ := for_inC (n := n) (L := ds) (fg := fg) (fb := fb) (fun i σ S' => S' = S ∧ P i σ) (fun i σ S' h => by rw [h.1]; exact hn) (items := enD 0 ds) ⟨rfl, h0⟩ hs'
    rw [hlen] at hp
    refine ⟨σ', ?_, hp⟩
    unfold fForXE fForCE
    rw [hfa]
    simp only [so_ok, hn]
    exact e
  · obtain ⟨σ', S', e, rfl, hp⟩ := for_in (fg := fg) (fb := fb) (fun i σ S' => S' = S ∧ P i σ) (items := enD 0 ds) ⟨rfl, h0⟩ hs'
    rw [hlen] at hp
    refine ⟨σ', ?_, hp⟩
    have hl : fiE (fCons fe fNil) σ S' = .ok (enD 0 ds) S' := by rw [e_fiE, hfa, bd_ok]; rfl
    unfold fForXE
    rw [hfa]
    simp only [e_fFor, hl, so_ok]
    exact e
theorem lcX_pure {α : Type} {fc : FE} {vs : List Nat} {l : List α} (F : α → Da) (hfe : fc σ S = .ok (.v d) S) (hd : (Rv.v d).rd S = .lst (l.map F)) (g : α → Bool) (h : α → Da) (σ1 : α → Env)
    (hx : ∀ x ∈ l, fg (F x) (wipeD σ vs) = some (σ1 x) ∧ ft (σ1 x) S = .ok (g x) S ∧ (g x = true → ∃ r, fk (σ1 x) S = .ok r S ∧ r.toD = some (h x))) (hz : l.length ≤ 1000000) :
    fLcX fc fg ft fk vs σ S = .ok (.fr (.lst ((l.filter g).map h))) S := by
  rcases rdL hd with ⟨n, rfl, hn⟩ | rfl
  · have e := lcC_pure (n := n) hn F g h σ1 (l := l) (acc := []) hx (by simpa using hz)
    unfold fLcX fLcC
    rw [hfe]
    simp only [bd_ok, hn]
    rw [e, bd_ok, List.nil_append]
  · have e := lc_pure F g h σ1 (l := l) (acc := []) hx (by simpa using hz)
    have hl : fiB fc σ S = .ok (l.map F) S := by rw [e_fiB, hfe, bd_ok]
    unfold fLcX
    rw [hfe]
    simp only [e_fLc, hl, bd_ok]
    rw [e, bd_ok, List.nil_append]
end
end
/-! ## BkB -/
section
open PySem PySem.Spec PyProof.Rows L2
section
variable {S : Sto} {d : Da}
theorem gdX {n : Nat} {e : Da} (h : S[n]? = some e) : S.getD n .non = e := by rw [List.getD_eq_getElem?_getD, h]; rfl
theorem strsD_L (ts : List Str) : strsD (strsL ts) = some ts := by
  have := strsD_map (fun t : Str => t) ts
  simpa using this
theorem all_different_rd {ts : List Str} (hd : (Rv.v d).rd S = .lst (strsL ts)) (h : ts.length ≤ 4000) : f_all_different [d] S = .ok (.v (.bl (decide ts.Nodup))) S := by
  have hs := strsD_L ts
  have hl : (strsL ts).length = ts.length := List.length_map _
  have e : decide ((nd ts : Int) = (ts.length : Int)) = decide ts.Nodup := by
    have := nd_iff ts
    rw [Bool.eq_iff_iff, decide_eq_true_eq, decide_eq_true_eq, ← this]
    omega
  rcases rdL hd with ⟨n, rfl, hn⟩ | rfl
  · have g0 := gdX hn
    clear hd hn
    generalize strsL ts = dl at *
    simp only [f_all_different, fb_all_different]
    walk_at "g"
  · clear hd
    generalize strsL ts = dl at *
    simp only [f_all_different, fb_all_different]
    walk_at "g"
def goodN (ts : List Str) : Bool := ts.all isNm && decide ts.Nodup
theorem are_names_rd {ts : List Str} (hd : (Rv.v d).rd S = .lst (strsL ts)) (h : ts.length ≤ 4000) (ht : ∀ t ∈ ts, OkT t) : f_are_names [d] S = .ok (.v (.bl (goodN ts))) S := by
  have hdi := all_different_rd (S := S) hd h
  have hlc := lcX_pure (fg := fgName 1) (ft := fYes) (fk := fe_are_names_0) (fc := fVar 0) (vs := [1]) (σ := [some (Sx.v d), none]) (S := S) (l := ts) Da.str rfl hd (fun _ => true) (fun t => .bl (isNm t)) (fun t => [some (Sx.v d), some (Sx.v (.str t))]) (fun t ht' => ⟨rfl, rfl, fun _ => ⟨.v (.bl (isNm t)), by
    have := is_name_ok (s := t) (by have := (ht t ht').1; omega) S
    clear hd hdi
    simp only [fe_are_names_0]
    walk_at "g", rfl⟩⟩) (by omega)
  rw [List.filter_eq_self.mpr (fun _ _ => rfl)] at hlc
  have hb := bools_map isNm ts
  have ha : ((ts.map isNm).all id) = ts.all isNm := by rw [List.all_map]; rfl
  have e : goodN ts = (ts.all isNm && decide ts.Nodup) := rfl
  rw [e]
  clear ht hd
  cases hc : ts.all isNm
  · rw [hc] at ha
    clear hc
    simp only [f_are_names, fb_are_names]
    walk_at "g"
  · rw [hc] at ha
    clear hc
    simp only [f_are_names, fb_are_names]
    walk_at "g"
def goodS (ns cs : List Str) : Bool := decide (0 < cs.length) && (cs.all (fun w => decide (w ∈ ns)) && decide cs.Nodup)
theorem are_some_of_rd {ns cs : List Str} (hd : (Rv.v d).rd S = .lst (strsL cs)) (h : cs.length ≤ 4000) : f_are_some_of [.lst (strsL ns), d] S = .ok (.v (.bl (goodS ns cs))) S := by
  have hdi := all_different_rd (S := S) hd h
  have hlc := lcX_pure (fg := fgName 2) (ft := fYes) (fk := fe_are_some_of_0) (fc := fVar 1) (vs := [2]) (σ := [some (Sx.v (.lst (strsL ns))), some (Sx.v d), none]) (S := S) (l := cs) Da.str rfl hd (fun _ => true) (fun t => .bl (decide (t ∈ ns))) (fun t => [some (Sx.v (.lst (strsL ns))), some (Sx.v d), some (Sx.v (.str t))]) (fun t ht' => ⟨rfl, rfl, fun _ => ⟨.v (.bl (decide (t ∈ ns))), by
    have hi1 := svs_str ns
    have hi2 := flat_str ns
    have hi3 := inV_str t ns
    have hi4 : ∀ z, flatV (.str z) = true := fun _ => rfl
    clear hd hdi
    generalize strsL ns = dl at *
    simp only [fe_are_some_of_0]
    walk_at "g", rfl⟩⟩) (by omega)
  rw [List.filter_eq_self.mpr (fun _ _ => rfl)] at hlc
  have hb := bools_map (fun t => decide (t ∈ ns)) cs
  have ha : ((cs.map fun t => decide (t ∈ ns)).all id) = cs.all (fun w => decide (w ∈ ns)) := by rw [List.all_map]; rfl
  have hl : (strsL cs).length = cs.length := List.length_map _
  have hln : bLen [.v d] S = .ok (.v (.int (cs.length : Nat))) S := by
    unfold bLen
    simp only [hd, hl]
  unfold goodS
  obtain ⟨bl, hbl⟩ : ∃ bl, bl = bLen := ⟨_, rfl⟩
  rw [← hbl] at hln
  clear hd hl
  generalize strsL ns = dn at *
  generalize hq : (cs.map fun t => decide (t ∈ ns)) = q at *
  by_cases h0 : 0 < cs.length
  · have h0' : (0 : Int) < cs.length := by omega
    rw [decide_eq_true h0]
    clear hq
    cases hc : (cs.all (fun w => decide (w ∈ ns)))
    · rw [hc] at ha
      clear hc
      simp only [f_are_some_of, fb_are_some_of]
      rw [← hbl]
      clear hbl
      walk_at "g"
    · rw [hc] at ha
      clear hc
      simp only [f_are_some_of, fb_are_some_of]
      rw [← hbl]
      clear hbl
      walk_at "g"
  · have h0' : ¬ (0 : Int) < cs.length := by omega
    rw [decide_eq_false h0]
    clear hq ha hb hlc hdi
    simp only [f_are_some_of, fb_are_some_of]
    rw [← hbl]
    clear hbl
    walk_at "g"
/-! ## indexes -/
def ixs (ns cs : List Str) : List Nat := (List.range ns.length).filter fun k => decide (ns.getD k Str.empty ∈ cs)
abbrev ixD (ns cs : List Str) : List Da := (ixs ns cs).map fun k => .int (k : Nat)
theorem ixs_len (ns cs : List Str) : (ixs ns cs).length ≤ ns.length := by
  have := List.length_filter_le (fun k => decide (ns.getD k Str.empty ∈ cs)) (List.range ns.length)
  rw [List.length_range] at this
  exact this
theorem range_consD {α : Type} (f : Nat → α) (n : Nat) : (List.range (n + 1)).map f = f 0 :: (List.range n).map fun k => f (k + 1) := by
  rw [List.range_succ_eq_map, List.map_cons, List.map_map]; rfl
theorem enD_str (ns : List Str) : ∀ k, enD k (strsL ns) = (List.range ns.length).map fun j => Da.tup [.int ((k + j : Nat) : Int), .str (ns.getD j Str.empty)] := by
  induction ns with
  | nil => intro k; rfl
  | cons n ns ih =>
    intro k
    rw [List.length_cons, range_consD]
    show Da.tup [.int (k : Nat), .str n] :: enD (k + 1) (strsL ns) = _
    rw [ih]
    congr 1
    refine List.map_congr_left fun j _ => ?_
    rw [show k + 1 + j = k + (j + 1) by omega]; rfl
theorem indexes_of_rd {ns cs : List Str} {fs : List Str} {ds : List Da} (hd : (Rv.v d).rd S = .lst (strsL cs)) (h : ns.length ≤ 1000) : f_Book_indexes_of [.obj "Book" (("names" : Str) :: fs) (.tupN (strsL ns) :: ds), d] S = .ok (.v (.tup (ixD ns cs))) S := by
  generalize hob : Da.obj "Book" (("names" : Str) :: fs) (.tupN (strsL ns) :: ds) = ob
  have hin : ∀ j : Nat, ft_Book_indexes_of_0 [some (Sx.v ob), some (Sx.v d), some (Sx.v (.int (j : Nat))), some (Sx.v (.str (ns.getD j Str.empty)))] S = .ok (decide (ns.getD j Str.empty ∈ cs)) S := fun j => by
    have hi1 := svs_str cs
    have hi2 := flat_str cs
    have hi3 := inV_str (ns.getD j Str.empty) cs
    have hi4 : ∀ z, flatV (.str z) = true := fun _ => rfl
    rcases rdL hd with ⟨n, rfl, hn⟩ | rfl
    · have g0 := gdX hn
      clear hob hd hn
      generalize strsL cs = dl at *
      generalize ns.getD j Str.empty = w at *
      simp only [ft_Book_indexes_of_0]
      walk_at "g"
    · clear hob hd
      generalize strsL cs = dl at *
      generalize ns.getD j Str.empty = w at *
      simp only [ft_Book_indexes_of_0]
      walk_at "g"
  have hlc := lc_pure (fg := fgTup 2 (fgCons (fgName 2) (fgCons (fgName 3) fgNil))) (ft := ft_Book_indexes_of_0) (fe := fe_Book_indexes_of_0) (σ := [some (Sx.v ob), some (Sx.v d), none, none])
    (fun j : Nat => Da.tup [.int ((0 + j : Nat) : Int), .str (ns.getD j Str.empty)]) (fun k => decide (ns.getD k Str.empty ∈ cs)) (fun k => .int (k : Nat)) (fun j => [some (Sx.v ob), some (Sx.v d), some (Sx.v (.int (j : Nat))), some (Sx.v (.str (ns.getD j Str.empty)))]) (S := S) (l := List.range ns.length) (acc := []) (fun j hj => ⟨by rw [Nat.zero_add]; rfl, hin j, fun _ => ⟨_, rfl, rfl⟩⟩) (by simp; omega)
  rw [List.nil_append, ← enD_str ns 0] at hlc
  change _ = Ev.ok (ixD ns cs) _ at hlc
  have hlen : (ixD ns cs).length ≤ 1000000 := by rw [List.length_map]; have := ixs_len ns cs; omega
  have hll : (strsL ns).length ≤ 1000000 := by simp; omega
  clear hin hd
  generalize ixD ns cs = dx at *
  generalize strsL ns = dn at *
  subst hob
  simp only [f_Book_indexes_of, fb_Book_indexes_of]
  walk_at "g"
end
end
/-! ## BkI -/
local macro_rules | `(tactic| walk_at "o") => `(tactic| simp (disch := omega) only [↓max_if, ↓min_if, if_pos, if_neg, log_lt, log0, decide_eq_true, decide_eq_false, ix_int, e_fSeq, e_fSl, e_fVar, e_fC, e_fOp, e_fNotV, e_fAndV, e_fIf, e_fChain, e_fNil, e_fCons, e_fTup, e_fLst, e_fCell, e_fNoP, e_fPart, e_fRev, e_fFld, e_fCB, e_fTest, e_fAnd, e_fOr, e_fNot, e_fYes, e_fCall, e_fCallS, e_fMeth, e_fNext, e_fRet, e_fDrop, e_fIfS, e_fSet, e_fSetD, e_fPar, e_fFrz, e_fAppS, e_fSetI, e_fSFld, e_fiL, e_fiB, e_fiR1, e_fiS, e_fiE, e_fiET, e_fFor, e_fLc, e_fRaise, e_fTry, e_fXf, e_fIsE, e_fNeg, e_fMethX, e_fMakeX, e_fOwnEq, e_fIsC, e_fLenO, onLen, e_fCallL, e_fLendE, chkE_ok, chkD_ok, Rv.flatR, e_fLenS, e_fFind, e_fAppE, e_fForC, e_fLcC, e_fInsE, e_fIdxN, e_fUn, e_onLs, lendDs_v, lendDs_fr, lendDs_bo, lendDs_0, chkL_ok, chkI_ok, chkI_ex, exnNoL, chkT_ok, onK_int, onK_str, Da.key, Rv.noL, Da.noL, sq_nx, sq_rt, sq_bk, sq_ct, sq_ex, sq_bad, bd_ok, bd_ex, bd_bad, so_ok, so_ex, so_bad, noX_ok, noX_ex, noX_bad, onB_bl, onD_v, onD_fr, e_onDs, toDs_v, toDs_fr, toDs_0, onO_some, omap_some, Option.map_none, Option.isSome_none, Option.isSome_some, Option.getD_none, Option.getD_some, List.isEmpty_nil, List.isEmpty_cons, e_endO, e_endOr, fin_nx, fin_rt, fin_ex, fin0_nx, fin0_rt, e_fnOf, e_fnOf0, inOf, fHand, fgName, fgTup, fgCons, fgNil, Rv.toD, Rv.rd, Rv.bool, Rv.out, Rv.sx, Rv.isN, Da.sv, svs, Da.tyN, Da.tru, Da.fmt, noExn, oI0, oI, xEq, xIsN, xIx, xIxS, xAddS, xInS, xIn, xCat, xSlL, xSlS, bLen, bLenS, bI1, bI2, bInt1, bList, bTup, bTupN, bAll, putN, scal, cMul, cDiv, cMod, cPow, wipeD, ofString_inj, String.reduceEq, String.reduceNe, getF_cons, List.mem_cons, List.not_mem_nil, List.getElem?_cons_succ, List.getElem?_cons_zero, List.set_cons_succ, List.set_cons_zero, List.length_cons, List.length_nil, List.length_append, List.length_map, List.length_set, Int.toNat_natCast, List.map_cons, List.map_nil, List.cons_append, List.nil_append, List.append_nil, List.zip_cons_cons, List.zip_nil_left, List.zip_nil_right, List.reverse_cons, List.reverse_nil, List.all_cons, List.all_nil, List.lookup_cons, List.lookup_nil, List.replicate_succ, List.replicate_zero, Nat.reduceAdd, Nat.reduceSub, Nat.reduceLT, Nat.reduceLeDiff, Nat.reduceEqDiff, Nat.zero_add, Nat.add_zero, Nat.sub_self, Nat.sub_zero, if_true, if_false, ite_true, ite_false, Bool.false_eq_true, Bool.true_and, Bool.and_true, Bool.false_and, Bool.and_false, Bool.true_or, Bool.or_true, Bool.false_or, Bool.or_false, Bool.not_true, Bool.not_false, decide_true, decide_false, and_self, and_true, true_and, not_true_eq_false, not_false_eq_true, reduceIte, Option.some.injEq, reduceCtorEq, decide_eq_true_eq, ne_eq, Int.reduceLT, Int.reduceLE, Int.reduceEq, Int.reduceNe, Int.reduceAdd, Int.reduceSub, Int.reduceMul, Int.reduceNeg, Int.reducePow, Int.reduceToNat, Int.reduceDiv, Int.reduceMod, Int.reduceAbs, or_true, true_or, or_false, false_or, and_false, false_and, at_0, at_1, at_2, at_3, at_4, at_5, atM_1, V.int.injEq, V.bl.injEq, V.str.injEq, nc0, nc1, nc2, nc3, nc4, nc5, nc6, nc7, nc8, nc9, nc10, nc11, nc12, natAbs10, sx1, sx2, sx3, sx4, sx5, cut1, cut2, cut3, kb_l_l, kb_l_t, kb_l_i, kb_l_b, kb_l_s, kb_t_l, kb_t_t, kb_t_i, kb_t_b, kb_t_s, kb_i_l, kb_i_t, kb_i_i, kb_i_b, kb_i_s, kb_b_l, kb_b_t, kb_b_i, kb_b_b, kb_b_s, kb_s_l, kb_s_t, kb_s_i, kb_s_b, kb_s_s, kb_N_l, kb_N_t, kb_N_i, kb_N_b, kb_N_s, *])
section
open PySem PySem.Spec PyProof.Rows L2
/-! ## a good book is made, of lists or of cells -/
def s0 : Sh := ⟨Str.empty, [], []⟩
def bkO (l : List Sh) (st : List Str) : Da := .obj "Book" ["names", "starts", "page_lines", "page_followers"] [.tupN (strsL (nmS l)), .tup (ixD (nmS l) st), .tup (l.map fun s => .tup (strsL s.ls)), .tup (l.map fun s => .tup (ixD (nmS l) s.fs))]
theorem nmS_get {l : List Sh} {i : Nat} (h : i < l.length) : (nmS l).take (i + 1) = (nmS l).take i ++ [(l.getD i s0).n] := by
  have hi : i < (nmS l).length := by simpa using h
  rw [List.take_succ_eq_append_getElem hi]
  simp [List.getD_eq_getElem?_getD, h]
theorem flats_strs : ∀ ts : List Str, flats (strsL ts) = true
  | [] => rfl
  | t :: ts => by
    have := flats_strs ts
    show ((Da.str t).flat && flats (strsL ts)) = true
    rw [this]; rfl
theorem flats_map {α : Type} (f : α → Da) (h : ∀ x, (f x).flat = true) : ∀ l : List α, flats (l.map f) = true
  | [] => rfl
  | x :: l => by
    show ((f x).flat && flats (l.map f)) = true
    rw [h, flats_map f h l]; rfl
theorem len_sub : ∀ {cs ns : List Str}, cs.Nodup → (∀ w ∈ cs, w ∈ ns) → cs.length ≤ ns.length
  | [], ns, _, _ => by simp
  | c :: cs, ns, h1, h2 => by
    obtain ⟨a, b⟩ := List.nodup_cons.mp h1
    have hc := h2 c (by simp)
    have ih := len_sub (cs := cs) (ns := ns.erase c) b fun w hw => (List.mem_erase_of_ne (fun z => a (by rw [← z]; exact hw))).mpr (h2 w (List.mem_cons_of_mem _ hw))
    rw [List.length_erase_of_mem hc] at ih
    have := List.length_pos_of_mem hc
    simp
    omega
theorem good_le {l : List Sh} {st ln : List Str} (h : GoodB l st ln) : st.length ≤ 4 ∧ ∀ s ∈ l, s.fs.length ≤ 4 := by
  have hl : (nmS l).length ≤ 4 := by have := h.n4; simp; omega
  have key : ∀ cs : List Str, cs.Nodup → (∀ w ∈ cs, w ∈ nmS l) → cs.length ≤ 4 := fun cs h1 h2 => by
    have := len_sub h1 h2
    omega
  exact ⟨key st h.ss.2.1 h.ss.1, fun s hs => key _ (h.fs s hs).2.1 (h.fs s hs).1⟩
theorem goodS_of {ns cs : List Str} (h1 : ∀ w ∈ cs, w ∈ ns) (h2 : cs.Nodup) (h3 : cs ≠ []) : goodS ns cs = true := by
  unfold goodS
  simp only [Bool.and_eq_true, decide_eq_true_eq, List.all_eq_true]
  exact ⟨List.length_pos_iff.mpr h3, h1, h2⟩
theorem mem_getD {l : List Sh} {i : Nat} (h : i < l.length) : l.getD i s0 ∈ l := by rw [List.getD_eq_getElem?_getD, List.getElem?_eq_getElem h]; exact List.getElem_mem h
/-- the pages as they are handed in -/
abbrev pgX (l : List Sh) (X Y : Nat → Da) : List Da := (List.range l.length).map fun i => .tup [.str (l.getD i s0).n, X i, Y i]
theorem pgX_at {l : List Sh} {X Y : Nat → Da} {i : Nat} {d : Da} (h : (pgX l X Y)[i]? = some d) : i < l.length ∧ d = .tup [.str (l.getD i s0).n, X i, Y i] := by
  rw [List.getElem?_map] at h
  by_cases hi : i < l.length
  · rw [List.getElem?_range hi] at h
    exact ⟨hi, (Option.some.inj h).symm⟩
  · rw [List.getElem?_eq_none (by rw [List.length_range]; omega)] at h
    cases h
section
variable {S : Sto} {l : List Sh} {st ln : List Str} {X Y : Nat → Da} {d1 d2 : Da}
theorem init_b {i : Nat} {x6 x7 : Option Sx} {sf : Da} (g : GoodB l st ln) (hi : i < l.length) (rx : (Rv.v (X i)).rd S = .lst (strsL (l.getD i s0).ls)) :
    fl_Book___init___0 [some (Sx.own sf true), some (.v d1), some (.v d2), some (.own (.lst (strsL ((nmS l).take i))) false), some (.v (.int (i : Nat))), some (.v (.tup [.str (l.getD i s0).n, X i, Y i])), x6, x7] S
      = .nx [some (Sx.own sf true), some (.v d1), some (.v d2), some (.own (.lst (strsL ((nmS l).take (i + 1)))) false), some (.v (.int (i : Nat))), some (.v (.tup [.str (l.getD i s0).n, X i, Y i])), some (.v (.str (l.getD i s0).n)), some (.v (X i))] S := by
  have hm := mem_getD hi
  have hn := g.nn _ (List.mem_map.mpr ⟨_, hm, rfl⟩)
  obtain ⟨b1, b2, b3⟩ := g.ls _ hm
  have n4 := g.n4
  have e1 := is_name_ok (s := (l.getD i s0).n) (by have := nm_pos hn; omega) S
  rw [hn] at e1
  have ha := are_names_rd (S := S) rx (by omega) fun w hw => okT_nm (g.lw w (b1 w hw))
  have hg : goodN (l.getD i s0).ls = true := by
    unfold goodN
    simp only [Bool.and_eq_true, decide_eq_true_eq, List.all_eq_true]
    exact ⟨fun w hw => g.lw w (b1 w hw), b2⟩
  rw [hg] at ha
  have hnt : (l.getD i s0).n ∉ (nmS l).take i := by
    intro z
    obtain ⟨j, hj, e⟩ := List.getElem_of_mem z
    rw [List.getElem_take] at e
    rw [List.length_take] at hj
    have hk' : i < (nmS l).length := by simpa using hi
    have e2 : (nmS l)[i] = (l.getD i s0).n := by simp [List.getD_eq_getElem?_getD, hi]
    exact List.pairwise_iff_getElem.mp g.nd j i (by omega) hk' (by omega) (e.trans e2.symm)
  have a1 := svs_str ((nmS l).take i)
  have a2 := flat_str ((nmS l).take i)
  have a3 := inV_str (l.getD i s0).n ((nmS l).take i)
  rw [decide_eq_false hnt] at a3
  have a4 : ∀ z, flatV (.str z) = true := fun _ => rfl
  have a5 : (strsL ((nmS l).take i)).length < 1000000 := by simp; omega
  have hln : bLen [.v (X i)] S = .ok (.v (.int ((l.getD i s0).ls.length : Nat))) S := by
    unfold bLen
    simp only [rx, List.length_map]
  have h8 : ¬ (8 : Int) < ((l.getD i s0).ls.length : Nat) := by omega
  rw [nmS_get hi, show strsL ((nmS l).take i ++ [(l.getD i s0).n]) = strsL ((nmS l).take i) ++ [.str (l.getD i s0).n] by simp]
  obtain ⟨bl, hbl⟩ : ∃ bl, bl = bLen := ⟨_, rfl⟩
  rw [← hbl] at hln
  clear hm hn b1 b2 b3 hg hnt g rx
  generalize strsL ((nmS l).take i) = dl at *
  generalize (nmS l).take i = ws at *
  generalize (l.getD i s0).n = n at *
  generalize ((l.getD i s0).ls.length : Int) = m at *
  generalize X i = x at *
  generalize Y i = y at *
  simp only [fl_Book___init___0]
  rw [← hbl]
  clear hbl
  walk_at "o"
theorem init_c {i : Nat} {x3 x6 x7 : Option Sx} {sf : Da} (g : GoodB l st ln) (hi : i < l.length) (ry : (Rv.v (Y i)).rd S = .lst (strsL (l.getD i s0).fs)) (h3 : OvL x3 (strsL (nmS l))) :
    fl_Book___init___1 [some (Sx.own sf true), some (.v d1), some (.v d2), x3, some (.v (.int (i : Nat))), some (.v (.tup [.str (l.getD i s0).n, X i, Y i])), x6, x7] S
      = .nx [some (Sx.own sf true), some (.v d1), some (.v d2), some (.v (.lst (strsL (nmS l)))), some (.v (.int (i : Nat))), some (.v (.tup [.str (l.getD i s0).n, X i, Y i])), x6, x7] S := by
  have hm := mem_getD hi
  obtain ⟨b1, b2, b3⟩ := g.fs _ hm
  have b4 := (good_le g).2 _ hm
  have ha := are_some_of_rd (S := S) (ns := nmS l) ry (by omega)
  rw [goodS_of b1 b2 b3] at ha
  clear hm b1 b2 b3 b4 g ry
  generalize strsL (nmS l) = dn at *
  generalize X i = x at *
  generalize Y i = y at *
  generalize (l.getD i s0).n = n at *
  rcases h3 with rfl | rfl
  · simp only [fl_Book___init___1]
    walk_at "o"
  · simp only [fl_Book___init___1]
    walk_at "o"
theorem make_rd (g : GoodB l st ln) (hf : stoFlat S = true) (r1 : (Rv.v d1).rd S = .lst (pgX l X Y)) (r2 : (Rv.v d2).rd S = .lst (strsL st))
    (rx : ∀ i, i < l.length → (Rv.v (X i)).rd S = .lst (strsL (l.getD i s0).ls)) (ry : ∀ i, i < l.length → (Rv.v (Y i)).rd S = .lst (strsL (l.getD i s0).fs)) :
    f_Book___init__ [d1, d2] S = .ok (bkO l st) S := by
  have n1 := g.n1
  have n4 := g.n4
  have hpl : (pgX l X Y).length = l.length := by simp
  obtain ⟨σ1, e1, x4, x5, x6, x7, rfl⟩ := forXE_in (fe := fVar 1) (fg := fgTup 2 (fgCons (fgName 4) (fgCons (fgName 5) fgNil))) (fb := fl_Book___init___0) (S := S) (σ := [some (Sx.own (.obj "Book" [] []) true), some (.v d1), some (.v d2), some (.own (.lst []) false), none, none, none, none]) rfl r1
    (fun i σ => ∃ x4 x5 x6 x7, σ = [some (Sx.own (.obj "Book" [] []) true), some (.v d1), some (.v d2), some (.own (.lst (strsL ((nmS l).take i))) false), x4, x5, x6, x7]) ⟨_, _, _, _, rfl⟩ (by
    rintro i d σ hd ⟨x4, x5, x6, x7, rfl⟩
    obtain ⟨hi, rfl⟩ := pgX_at hd
    exact ⟨_, _, rfl, init_b g hi (rx i hi), _, _, _, _, rfl⟩)
  rw [hpl, show l.length = (nmS l).length by simp, List.take_length] at e1
  obtain ⟨σ2, e2, y3, y4, y5, y6, y7, rfl, ho⟩ := forXE_in (fe := fVar 1) (fg := fgTup 2 (fgCons (fgName 4) (fgCons (fgName 5) fgNil))) (fb := fl_Book___init___1) (S := S) (σ := [some (Sx.own (.obj "Book" [] []) true), some (.v d1), some (.v d2), some (.own (.lst (strsL (nmS l))) false), x4, x5, x6, x7]) rfl r1
    (fun i σ => ∃ x3 x4 x5 x6 x7, σ = [some (Sx.own (.obj "Book" [] []) true), some (.v d1), some (.v d2), x3, x4, x5, x6, x7] ∧ OvL x3 (strsL (nmS l))) ⟨_, _, _, _, _, rfl, .inl rfl⟩ (by
    rintro i d σ hd ⟨x3, x4, x5, x6, x7, rfl, ho⟩
    obtain ⟨hi, rfl⟩ := pgX_at hd
    exact ⟨_, _, rfl, init_c g hi (ry i hi) ho, _, _, _, _, _, rfl, .inr rfl⟩)
  have hs := are_some_of_rd (S := S) (ns := nmS l) r2 (by have := (good_le g).1; omega)
  rw [goodS_of g.ss.1 g.ss.2.1 g.ss.2.2] at hs
  have hnl : (strsL (nmS l)).length ≤ 1000000 := by simp; omega
  have hnl2 : (nmS l).length ≤ 1000 := by simp; omega
  have i1 := indexes_of_rd (S := S) (ns := nmS l) (fs := []) (ds := []) r2 hnl2
  have f1 : flats (ixD (nmS l) st) = true := flats_map _ (fun _ => rfl) _
  have e0 : (List.range l.length).map (fun i => Da.tup (strsL (l.getD i s0).ls)) = l.map fun s => Da.tup (strsL s.ls) := by
    refine List.ext_getElem (by simp) fun i h1 h2 => ?_
    have hi : i < l.length := by simpa using h1
    simp [List.getD_eq_getElem?_getD, hi]
  have e0' : (List.range l.length).map (fun i => Da.tup (ixD (nmS l) (l.getD i s0).fs)) = l.map fun s => Da.tup (ixD (nmS l) s.fs) := by
    refine List.ext_getElem (by simp) fun i h1 h2 => ?_
    have hi : i < l.length := by simpa using h1
    simp [List.getD_eq_getElem?_getD, hi]
  have lc1 := lcX_pure (fc := fVar 1) (vs := [5]) (fg := fgName 5) (ft := fYes) (fk := fe_Book___init___0) (σ := [some (Sx.own (.obj "Book" ["names", "starts"] [.tupN (strsL (nmS l)), .tup (ixD (nmS l) st)]) true), some (.v d1), some (.v d2), some (.v (.lst (strsL (nmS l)))), y4, y5, y6, y7]) (S := S) (l := List.range l.length) (fun i => .tup [.str (l.getD i s0).n, X i, Y i]) rfl r1 (fun _ => true) (fun i => .tup (strsL (l.getD i s0).ls)) (fun i => [some (Sx.own (.obj "Book" ["names", "starts"] [.tupN (strsL (nmS l)), .tup (ixD (nmS l) st)]) true), some (.v d1), some (.v d2), some (.v (.lst (strsL (nmS l)))), y4, some (.v (.tup [.str (l.getD i s0).n, X i, Y i])), y6, y7]) (fun i hi => ⟨rfl, rfl, fun _ => ⟨.v (.tup (strsL (l.getD i s0).ls)), by
    have hx := rx i (List.mem_range.mp hi)
    have hb : bTup [.v (X i)] S = .ok (.v (.tup (strsL (l.getD i s0).ls))) S := by
      unfold bTup
      simp only [hx]
    obtain ⟨bl, hbl⟩ : ∃ bl, bl = bTup := ⟨_, rfl⟩
    rw [← hbl] at hb
    clear hi hx e1 e2 hs i1 f1 rx ry r1 r2 hnl hnl2 e0 e0' hpl
    generalize strsL (l.getD i s0).ls = dls at *
    generalize (l.getD i s0).n = n at *
    generalize X i = x at *
    generalize Y i = y at *
    generalize strsL (nmS l) = dn at *
    generalize ixD (nmS l) st = dx at *
    simp only [fe_Book___init___0]
    rw [← hbl]
    clear hbl
    walk_at "g", rfl⟩⟩) (by simp; omega)
  have lc2 := lcX_pure (fc := fVar 1) (vs := [5]) (fg := fgName 5) (ft := fYes) (fk := fe_Book___init___1) (σ := [some (Sx.v (.obj "Book" ["names", "starts", "page_lines"] [.tupN (strsL (nmS l)), .tup (ixD (nmS l) st), .tup (l.map fun s => .tup (strsL s.ls))])), some (.v d1), some (.v d2), some (.v (.lst (strsL (nmS l)))), y4, y5, y6, y7]) (S := S) (l := List.range l.length) (fun i => .tup [.str (l.getD i s0).n, X i, Y i]) rfl r1 (fun _ => true) (fun i => .tup (ixD (nmS l) (l.getD i s0).fs)) (fun i => [some (Sx.v (.obj "Book" ["names", "starts", "page_lines"] [.tupN (strsL (nmS l)), .tup (ixD (nmS l) st), .tup (l.map fun s => .tup (strsL s.ls))])), some (.v d1), some (.v d2), some (.v (.lst (strsL (nmS l)))), y4, some (.v (.tup [.str (l.getD i s0).n, X i, Y i])), y6, y7]) (fun i hi => ⟨rfl, rfl, fun _ => ⟨.v (.tup (ixD (nmS l) (l.getD i s0).fs)), by
    have i2 := indexes_of_rd (S := S) (ns := nmS l) (cs := (l.getD i s0).fs) (fs := ["starts", "page_lines"]) (ds := [.tup (ixD (nmS l) st), .tup (l.map fun s => .tup (strsL s.ls))]) (ry i (List.mem_range.mp hi)) hnl2
    clear hi e1 e2 hs i1 f1 rx ry r1 r2 hnl hnl2 e0 e0' hpl lc1
    generalize ixD (nmS l) (l.getD i s0).fs = dx2 at *
    generalize (l.getD i s0).n = n at *
    generalize X i = x at *
    generalize Y i = y at *
    generalize (l.map fun s => Da.tup (strsL s.ls)) = dpl at *
    generalize strsL (nmS l) = dn at *
    generalize ixD (nmS l) st = dx at *
    simp only [fe_Book___init___1]
    walk_at "g", rfl⟩⟩) (by simp; omega)
  rw [List.filter_eq_self.mpr (fun _ _ => rfl), e0] at lc1
  rw [List.filter_eq_self.mpr (fun _ _ => rfl), e0'] at lc2
  have f2 : flats (l.map fun s => Da.tup (ixD (nmS l) s.fs)) = true := flats_map (fun s : Sh => Da.tup (ixD (nmS l) s.fs)) (fun s => by have h := flats_map (α := Nat) (fun k => .int (k : Nat)) (fun _ => rfl) (ixs (nmS l) s.fs); exact h) l
  have m1 : (l.map fun s => Da.tup (strsL s.ls)).length ≤ 1000000 := by simp; omega
  have m2 : (l.map fun s => Da.tup (ixD (nmS l) s.fs)).length ≤ 1000000 := by simp; omega
  have ft1 : (Da.tup (ixD (nmS l) st)).flat = true := f1
  have ft2 : (Da.tup (l.map fun s => Da.tup (ixD (nmS l) s.fs))).flat = true := f2
  have hln : bLen [.v d1] S = .ok (.v (.int (l.length : Nat))) S := by
    unfold bLen
    simp only [r1, hpl]
  obtain ⟨bl, hbl⟩ : ∃ bl, bl = bLen := ⟨_, rfl⟩
  rw [← hbl] at hln
  have k1 : (1 : Int) ≤ (l.length : Nat) := by omega
  have k4 : ((l.length : Nat) : Int) ≤ 4 := by omega
  unfold bkO
  clear g n1 n4 hpl hnl2 f1 f2 e0 e0' r1 r2 rx ry
  generalize ixD (nmS l) st = dx2 at *
  generalize (l.map fun s => Da.tup (ixD (nmS l) s.fs)) = dpf at *
  generalize (l.map fun s => Da.tup (strsL s.ls)) = dpl at *
  generalize strsL (nmS l) = dn at *
  generalize ((l.length : Nat) : Int) = L at *
  rcases ho with rfl | rfl
  · simp only [f_Book___init__, inOf, fb_Book___init__]
    rw [← hbl]
    clear hbl
    walk_at "o"
  · simp only [f_Book___init__, inOf, fb_Book___init__]
    rw [← hbl]
    clear hbl
    walk_at "o"
end
end
/-! ## BkL -/
section
open PySem PySem.Spec PyProof.Rows L2
theorem dep_mapB {α : Type} {F : α → Da} {xs : List α} {n : Nat} (h : ∀ x ∈ xs, (F x).dep n = true) (hl : xs.length ≤ 1000000) : (Da.lst (xs.map F)).dep (n + 1) = true ∧ (Da.tup (xs.map F)).dep (n + 1) = true := by
  have : (xs.map F).all (Da.dep n) = true := by
    rw [List.all_eq_true]
    intro x hx
    obtain ⟨y, hy, rfl⟩ := List.mem_map.mp hx
    exact h y hy
  constructor
  · show (decide ((xs.map F).length ≤ 1000000) && (xs.map F).all (Da.dep n)) = true
    rw [this]; simp; exact hl
  · show (decide ((xs.map F).length ≤ 1000000) && (xs.map F).all (Da.dep n)) = true
    rw [this]; simp; exact hl
theorem strs_dep {ts : List Str} (n : Nat) (h : ts.length ≤ 1000000) : (Da.lst (strsL ts)).dep (n + 1) = true ∧ (Da.tup (strsL ts)).dep (n + 1) = true := dep_mapB (fun x _ => by cases n <;> rfl) h
section
variable {S : Sto} {l : List Sh} {st : List Str}
theorem ix_dep (ns cs : List Str) (h : ns.length ≤ 1000) (n : Nat) : (Da.tup (ixD ns cs)).dep (n + 1) = true := (dep_mapB (F := fun k : Nat => Da.int k) (n := n) (fun x _ => by cases n <;> rfl) (by have := ixs_len ns cs; omega)).2
theorem places_ok {ns cs : List Str} (h : ns.length ≤ 1000) : f_l_places [.lst (strsL ns), .lst (strsL cs)] S = .ok (.fr (.lst (ixD ns cs))) S := by
  have hlc := lc_pure (fg := fgName 2) (ft := ft_l_places_0) (fe := fe_l_places_0) (σ := [some (Sx.v (.lst (strsL ns))), some (.v (.lst (strsL cs))), none]) (fun k : Nat => Da.int k) (fun k => decide (ns.getD k Str.empty ∈ cs)) (fun k => .int (k : Nat)) (fun k => [some (Sx.v (.lst (strsL ns))), some (.v (.lst (strsL cs))), some (.v (.int (k : Nat)))]) (S := S) (l := List.range ns.length) (acc := []) (fun j hj => by
    have hj' := List.mem_range.mp hj
    have hi1 := svs_str cs
    have hi2 := flat_str cs
    have hi3 := inV_str (ns.getD j Str.empty) cs
    have hi4 : ∀ z, flatV (.str z) = true := fun _ => rfl
    have hat := at_mapD (F := Da.str) (l := ns) Str.empty hj'
    change atI (strsL ns) _ = _ at hat
    generalize strsL cs = dl at *
    generalize strsL ns = dn at *
    generalize ns.getD j Str.empty = w at *
    refine ⟨rfl, ?_, fun _ => ⟨_, rfl, rfl⟩⟩
    clear hj hj'
    simp only [ft_l_places_0]
    walk_at "g") (by simp; omega)
  rw [List.nil_append] at hlc
  change foldLc _ _ _ _ (rgD ((ns.length : Nat) : Int)) _ _ = Ev.ok (ixD ns cs) _ at hlc
  have hll : (strsL ns).length = ns.length := List.length_map _
  have hlz : (strsL ns).length ≤ 1000000 := by omega
  have hsb : -4611686018427387904 ≤ (ns.length : Int) ∧ (ns.length : Int) < 4611686018427387904 := by omega
  have hlz2 : ns.length ≤ 1000000 := by omega
  clear hlz
  generalize ixD ns cs = dx at *
  generalize strsL ns = dn at *
  generalize strsL cs = dc at *
  simp only [f_l_places, fb_l_places]
  walk_at "g"
end
end
/-! ## BpA -/
section
open PySem PySem.Spec PyProof.Rows L2
/-! ## what a book tells -/
section
variable {S : Sto} {l : List Sh} {st ln : List Str}
theorem bk_eq : bkO l st = .obj "Book" ["names", "starts", "page_lines", "page_followers"] [.tupN (strsL (nmS l)), .tup (ixD (nmS l) st), .tup (l.map fun s => .tup (strsL s.ls)), .tup (l.map fun s => .tup (ixD (nmS l) s.fs))] := rfl
theorem check_page_ok {i : Nat} (hl : l.length ≤ 1000) (hi : i < l.length) : f_Book_check_page [bkO l st, .int (i : Nat)] S = .ok (.v .non) S := by
  have h1 : (strsL (nmS l)).length = l.length := by simp
  have h2 : (i : Int) < l.length := by omega
  have h3 : (0 : Int) ≤ i := by omega
  have h4 : l.length ≤ 1000000 := by omega
  unfold bkO
  generalize strsL (nmS l) = dn at *
  generalize ixD (nmS l) st = dx at *
  generalize (l.map fun s => Da.tup (strsL s.ls)) = d2 at *
  generalize (l.map fun s => Da.tup (ixD (nmS l) s.fs)) = d3 at *
  simp only [f_Book_check_page, fb_Book_check_page]
  walk_at "g"
theorem check_page_bad {k : Int} (hb : -10000000000 < k ∧ k < 10000000000) (h : k < 0 ∨ (l.length : Nat) ≤ k) : f_Book_check_page [bkO l st, .int k] S = .ex ⟨"UnknownPage", ["number"], [.int k]⟩ S := by
  have h1 : (strsL (nmS l)).length = l.length := by simp
  unfold bkO
  generalize strsL (nmS l) = dn at *
  generalize ixD (nmS l) st = dx at *
  generalize (l.map fun s => Da.tup (strsL s.ls)) = d2 at *
  generalize (l.map fun s => Da.tup (ixD (nmS l) s.fs)) = d3 at *
  by_cases h0 : (0 : Int) ≤ k
  · have h2 : ¬ k < ((dn.length : Nat) : Int) := by omega
    clear h h1
    simp only [f_Book_check_page, fb_Book_check_page]
    walk_at "o"
  · clear h h1
    simp only [f_Book_check_page, fb_Book_check_page]
    walk_at "o"
theorem lines_of_ok {i : Nat} (hl : l.length ≤ 1000) (hi : i < l.length) : f_Book_lines_of [bkO l st, .int (i : Nat)] S = .ok (.v (.tup (strsL (l.getD i s0).ls))) S := by
  have hc := check_page_ok (S := S) (st := st) hl hi
  have hat := at_mapD (F := fun s : Sh => Da.tup (strsL s.ls)) s0 hi
  unfold bkO at hc ⊢
  generalize strsL (nmS l) = dn at *
  generalize ixD (nmS l) st = dx at *
  generalize (l.map fun s => Da.tup (strsL s.ls)) = d2 at *
  generalize (l.map fun s => Da.tup (ixD (nmS l) s.fs)) = d3 at *
  generalize strsL (l.getD i s0).ls = d4 at *
  simp only [f_Book_lines_of, fb_Book_lines_of]
  walk_at "g"
theorem followers_of_ok {i : Nat} (hl : l.length ≤ 1000) (hi : i < l.length) : f_Book_followers_of [bkO l st, .int (i : Nat)] S = .ok (.v (.tup (ixD (nmS l) (l.getD i s0).fs))) S := by
  have hc := check_page_ok (S := S) (st := st) hl hi
  have hat := at_mapD (F := fun s : Sh => Da.tup (ixD (nmS l) s.fs)) s0 hi
  unfold bkO at hc ⊢
  generalize ixD (nmS l) (l.getD i s0).fs = d4 at *
  generalize strsL (nmS l) = dn at *
  generalize ixD (nmS l) st = dx at *
  generalize (l.map fun s => Da.tup (strsL s.ls)) = d2 at *
  generalize (l.map fun s => Da.tup (ixD (nmS l) s.fs)) = d3 at *
  simp only [f_Book_followers_of, fb_Book_followers_of]
  walk_at "g"
theorem lines_of_bad {k : Int} (hb : -10000000000 < k ∧ k < 10000000000) (h : k < 0 ∨ (l.length : Nat) ≤ k) : f_Book_lines_of [bkO l st, .int k] S = .ex ⟨"UnknownPage", ["number"], [.int k]⟩ S := by
  have hc := check_page_bad (S := S) (st := st) hb h
  clear hb h
  unfold bkO at hc ⊢
  generalize strsL (nmS l) = dn at *
  generalize ixD (nmS l) st = dx at *
  generalize (l.map fun s => Da.tup (strsL s.ls)) = d2 at *
  generalize (l.map fun s => Da.tup (ixD (nmS l) s.fs)) = d3 at *
  simp only [f_Book_lines_of, fb_Book_lines_of]
  walk_at "g"
theorem followers_of_bad {k : Int} (hb : -10000000000 < k ∧ k < 10000000000) (h : k < 0 ∨ (l.length : Nat) ≤ k) : f_Book_followers_of [bkO l st, .int k] S = .ex ⟨"UnknownPage", ["number"], [.int k]⟩ S := by
  have hc := check_page_bad (S := S) (st := st) hb h
  clear hb h
  unfold bkO at hc ⊢
  generalize strsL (nmS l) = dn at *
  generalize ixD (nmS l) st = dx at *
  generalize (l.map fun s => Da.tup (strsL s.ls)) = d2 at *
  generalize (l.map fun s => Da.tup (ixD (nmS l) s.fs)) = d3 at *
  simp only [f_Book_followers_of, fb_Book_followers_of]
  walk_at "g"
theorem idx_at {ns : List Str} (hd : ns.Nodup) {p : Nat} (hp : p < ns.length) : idxS (ns.getD p Str.empty) ns = some p := by
  induction ns generalizing p with
  | nil => simp at hp
  | cons n ns ih =>
    obtain ⟨a, b⟩ := List.nodup_cons.mp hd
    unfold idxS
    cases p with
    | zero => simp
    | succ p =>
      have hp' : p < ns.length := by simpa using hp
      have e : (n :: ns).getD (p + 1) Str.empty = ns.getD p Str.empty := rfl
      have hm : ns.getD p Str.empty ∈ ns := by rw [List.getD_eq_getElem?_getD, List.getElem?_eq_getElem hp']; exact List.getElem_mem _
      rw [e, if_neg (fun z => a (by first | (rw [z]; exact hm) | (rw [← z]; exact hm))), ih b hp']
      rfl
theorem index_ok (g : GoodB l st ln) {p : Nat} (hp : p < l.length) : f_Book_index [bkO l st, .str ((nmS l).getD p Str.empty)] S = .ok (.v (.int ((p : Nat) : Int))) S := by
  have h' : p < (nmS l).length := by simpa using hp
  have h2 := idx_at g.nd h'
  have h3 : (nmS l).getD p Str.empty ∈ nmS l := by rw [List.getD_eq_getElem?_getD, List.getElem?_eq_getElem h']; exact List.getElem_mem _
  have h4 : strsD (strsL (nmS l)) = some (nmS l) := strsD_L _
  have hi1 := svs_str (nmS l)
  have hi2 := flat_str (nmS l)
  have hi3 := inV_str ((nmS l).getD p Str.empty) (nmS l)
  rw [decide_eq_true h3] at hi3
  have hi4 : ∀ z, flatV (.str z) = true := fun _ => rfl
  unfold bkO
  clear h3 h' hp g
  generalize (nmS l).getD p Str.empty = z at *
  generalize ixD (nmS l) st = d2 at *
  generalize (l.map fun s => Da.tup (strsL s.ls)) = d3 at *
  generalize (l.map fun s => Da.tup (ixD (nmS l) s.fs)) = d4 at *
  generalize (nmS l).map V.str = vs at *
  generalize strsL (nmS l) = d1 at *
  generalize nmS l = ns at *
  simp only [f_Book_index, fb_Book_index]
  walk_at "g"
theorem index_bad {z : Str} (hz : z.length ≤ 1000) (h3 : z ∉ nmS l) : f_Book_index [bkO l st, .str z] S = .ex ⟨"UnknownName", ["name"], [.str z]⟩ S := by
  have hi1 := svs_str (nmS l)
  have hi2 := flat_str (nmS l)
  have hi3 := inV_str z (nmS l)
  rw [decide_eq_false h3] at hi3
  have hi4 : ∀ z, flatV (.str z) = true := fun _ => rfl
  unfold bkO
  clear h3
  generalize ixD (nmS l) st = d2 at *
  generalize (l.map fun s => Da.tup (strsL s.ls)) = d3 at *
  generalize (l.map fun s => Da.tup (ixD (nmS l) s.fs)) = d4 at *
  generalize (nmS l).map V.str = vs at *
  generalize strsL (nmS l) = d1 at *
  simp only [f_Book_index, fb_Book_index]
  walk_at "g"
end
end
/-! ## BpB -/
section
open PySem PySem.Spec PyProof.Rows L2
section
variable {S : Sto} {l : List Sh} {st ln : List Str}
theorem len_okB (g : GoodB l st ln) : f_Book___len__ [bkO l st] S = .ok (.v (.int (l.length : Nat))) S := by
  have h1 : (strsL (nmS l)).length = l.length := by simp
  unfold bkO
  generalize strsL (nmS l) = dn at *
  generalize ixD (nmS l) st = dx at *
  generalize (l.map fun s => Da.tup (strsL s.ls)) = d2 at *
  generalize (l.map fun s => Da.tup (ixD (nmS l) s.fs)) = d3 at *
  simp only [f_Book___len__, fb_Book___len__]
  walk_at "g"
theorem shows_names : foldLc (fgName 5) fYes fe_l_shows_0 [some (Sx.v (bkO l st)), some (.v (.lst (shD l))), some (.v (.lst (strsL st))), none, none, none] (shD l) [] S = .ok (strsL (nmS l)) S ∨ 1000000 < l.length := by
  by_cases hz : l.length ≤ 1000000
  · have lc := lc_pure (fg := fgName 5) (ft := fYes) (fe := fe_l_shows_0) (σ := [some (Sx.v (bkO l st)), some (.v (.lst (shD l))), some (.v (.lst (strsL st))), none, none, none]) Sh.da (fun _ => true) (fun s => .str s.n) (fun s => [some (Sx.v (bkO l st)), some (.v (.lst (shD l))), some (.v (.lst (strsL st))), none, none, some (.v s.da)]) (S := S) (l := l) (acc := []) (fun s hs' => ⟨rfl, rfl, fun _ => ⟨.v (.str s.n), by
      unfold Sh.da
      generalize strsL s.ls = dls at *
      generalize strsL s.fs = dfs at *
      generalize bkO l st = d1 at *
      clear hs' hz
      simp only [fe_l_shows_0]
      walk_at "g", rfl⟩⟩) (by simp; omega)
    rw [List.filter_eq_self.mpr (fun _ _ => rfl), List.nil_append, show (l.map fun s => Da.str s.n) = strsL (nmS l) by simp [strsL, nmS]] at lc
    exact .inl lc
  · exact .inr (by omega)
theorem shows_ok (g : GoodB l st ln) : f_l_shows [bkO l st, .lst (shD l), .lst (strsL st)] S = .ok (.v (.bl true)) S := by
  have n4 := g.n4
  have hl0 : l.length ≤ 1000 := by omega
  have hnl : (nmS l).length ≤ 1000 := by simp; omega
  have lc := (shows_names (S := S) (l := l) (st := st)).resolve_right (by omega)
  have p1 := places_ok (S := S) (ns := nmS l) (cs := st) hnl
  have s1 := same_ok (S := S) (strs_dep (ts := nmS l) 6 (by omega)).2
  have s2 := same_ok (S := S) (ix_dep (nmS l) st hnl 6)
  have z1 : (strsL (nmS l)).length ≤ 1000000 := by simp; omega
  have z2 : (ixD (nmS l) st).length ≤ 1000000 := by have := ixs_len (nmS l) st; simp; omega
  have hlen := len_okB (S := S) g
  obtain ⟨fb, hfb⟩ : ∃ fb, fb = fl_l_shows_0 := ⟨_, rfl⟩
  have loop := for_in (fg := fgName 4) (fb := fb)
    (fun i σ S' => S' = S ∧ ∃ (x4 : Option Sx), σ = [some (Sx.v (bkO l st)), some (.v (.lst (shD l))), some (.v (.lst (strsL st))), some (.v (.lst (strsL (nmS l)))), x4, none])
    (items := rgD (l.length : Nat)) (σ := [some (Sx.v (bkO l st)), some (.v (.lst (shD l))), some (.v (.lst (strsL st))), some (.v (.lst (strsL (nmS l)))), none, none]) (S := S) ⟨rfl, none, rfl⟩ (by
    rintro i d σ S1 hd ⟨rfl, x4, rfl⟩
    obtain ⟨rfl, hi⟩ := rgD_at hd
    have hi' : i < l.length := by omega
    have hm := mem_getD hi'
    have b2 := (g.ls _ hm).2.2
    have b3 := (good_le g).2 _ hm
    have g1 := lines_of_ok (S := S1) (st := st) hl0 hi'
    have g2 := followers_of_ok (S := S1) (st := st) hl0 hi'
    have g3 := places_ok (S := S1) (ns := nmS l) (cs := (l.getD i s0).fs) hnl
    have g4 := same_ok (S := S1) (strs_dep (ts := (l.getD i s0).ls) 6 (by omega)).2
    have g5 := same_ok (S := S1) (ix_dep (nmS l) (l.getD i s0).fs hnl 6)
    have g6 := index_ok (S := S1) g hi'
    have g7 := same_ok (x := .int (i : Nat)) (S := S1) rfl
    have hs := at_mapD (F := Sh.da) (l := l) s0 hi'
    change atI (shD l) _ = _ at hs
    have hs2 := at_mapD (F := Da.str) (l := nmS l) Str.empty (show i < (nmS l).length by simpa using hi')
    change atI (strsL (nmS l)) _ = _ at hs2
    have y1 : (strsL (l.getD i s0).ls).length ≤ 1000000 := by rw [List.length_map]; omega
    have y2 : (ixD (nmS l) (l.getD i s0).fs).length ≤ 1000000 := by have := ixs_len (nmS l) (l.getD i s0).fs; rw [List.length_map]; omega
    refine ⟨_, rfl, nx_of (σ := [some (Sx.v (bkO l st)), some (.v (.lst (shD l))), some (.v (.lst (strsL st))), some (.v (.lst (strsL (nmS l)))), some (.v (.int (i : Nat))), none]) (S := S1) ?_ ⟨rfl, _, rfl⟩⟩
    rw [hfb]
    unfold Sh.da at hs
    unfold bkO at *
    clear hm hl0 hnl lc p1 s1 s2 z1 z2 hd hi hi' b2 b3 hfb g n4 hlen
    generalize ixD (nmS l) (l.getD i s0).fs = dx at *
    generalize strsL (l.getD i s0).ls = dls at *
    generalize strsL (l.getD i s0).fs = dfs at *
    generalize (l.getD i s0).n = n at *
    generalize (nmS l).getD i Str.empty = z at *
    generalize strsL (nmS l) = dn at *
    generalize strsL st = ds at *
    generalize ixD (nmS l) st = dx2 at *
    generalize (l.map fun s => Da.tup (strsL s.ls)) = d2 at *
    generalize (l.map fun s => Da.tup (ixD (nmS l) s.fs)) = d3 at *
    generalize shD l = d1 at *
    generalize ((i : Nat) : Int) = ii at *
    simp only [fl_l_shows_0]
    walk_at "g")
  obtain ⟨σ', S', e, rfl, x4, rfl⟩ := loop
  rw [hfb] at e
  have hll : (strsL (nmS l)).length = l.length := by simp
  have hsb : -4611686018427387904 ≤ (l.length : Int) ∧ (l.length : Int) < 4611686018427387904 := by omega
  have hlz : l.length ≤ 1000000 := by omega
  clear hl0 hnl hfb z1 g n4
  unfold bkO at *
  generalize ixD (nmS l) st = dx at *
  generalize strsL (nmS l) = dn at *
  generalize strsL st = ds at *
  generalize shD l = d1 at *
  generalize (l.map fun s => Da.tup (strsL s.ls)) = d2 at *
  generalize (l.map fun s => Da.tup (ixD (nmS l) s.fs)) = d3 at *
  have hq : (0 : Int) ≤ (l.length : Nat) ∧ ((l.length : Nat) : Int) < 9223372036854775808 := by omega
  have hne : xEq true (.v (.int ((l.length : Nat) : Int))) (.v (.int ((l.length : Nat) : Int))) S' = .ok (.v (.bl false)) S' := by simp [xEq, Da.sv, scal]
  obtain ⟨xe, hxe⟩ : ∃ x, x = xEq := ⟨_, rfl⟩
  rw [← hxe] at hne
  simp only [f_l_shows, fb_l_shows]
  rw [← hxe]
  clear hxe
  walk_at "g"
/-! ## what a book refuses -/
theorem tbP1 : tab.lookup ((("UnknownPage" : String) : Str), (("UnknownPage" : String) : Str)) = some true := rfl
theorem tbP2 : tab.lookup ((("UnknownName" : String) : Str), (("UnknownName" : String) : Str)) = some true := rfl
theorem gNuP {x : Da} : getF ["number"] [x] "number" = some x := rfl
theorem gNaP {x : Da} : getF ["name"] [x] "name" = some x := rfl
theorem refuses_page_ok {w k : Int} (hw : w = 0 ∨ w = 1) (hb : -10000000000 < k ∧ k < 10000000000) (h : k < 0 ∨ (l.length : Nat) ≤ k) : f_l_refuses_page [bkO l st, .int w, .int k] S = .ok (.v (.bl true)) S := by
  have e1 := lines_of_bad (S := S) (st := st) hb h
  have e2 := followers_of_bad (S := S) (st := st) hb h
  have e3 := same_ok (x := .int k) (S := S) rfl
  have t1 := tbP1
  have t2 := @gNuP
  have ho : ∃ ds, bkO l st = .obj "Book" ["names", "starts", "page_lines", "page_followers"] ds := ⟨_, rfl⟩
  obtain ⟨ds, ho⟩ := ho
  rw [ho] at e1 e2 ⊢
  have e4 : f_l_asked [.obj "Book" ["names", "starts", "page_lines", "page_followers"] ds, .int w, .int k] S = .ex ⟨"UnknownPage", ["number"], [.int k]⟩ S := by
    clear h hb t1 t2 ho e3
    rcases hw with rfl | rfl
    · simp only [f_l_asked, fb_l_asked]
      walk_at "g"
    · simp only [f_l_asked, fb_l_asked]
      walk_at "g"
  clear h hb e1 e2 hw ho
  simp only [f_l_refuses_page, fb_l_refuses_page]
  walk_at "g"
theorem refuses_name_ok {z : Str} (hz : z.length ≤ 1000) (h : z ∉ nmS l) : f_l_refuses_name [bkO l st, .str z] S = .ok (.v (.bl true)) S := by
  have e1 := index_bad (S := S) (st := st) hz h
  have e3 := same_ok (x := .str z) (S := S) rfl
  have t1 := tbP2
  have t2 := @gNaP
  have ho : ∃ ds, bkO l st = .obj "Book" ["names", "starts", "page_lines", "page_followers"] ds := ⟨_, rfl⟩
  obtain ⟨ds, ho⟩ := ho
  rw [ho] at e1 ⊢
  clear h ho
  simp only [f_l_refuses_name, fb_l_refuses_name]
  walk_at "g"
end
end
/-! ## BpD -/
section
open PySem PySem.Spec PyProof.Rows L2
/-! ## == of two books -/
open Classical
section
variable {S : Sto} {l l' : List Sh} {st st' ln ln' : List Str}
theorem nm_plX {s : Str} (k : Nat) (h : isNm s = true) : (Da.str s).pl k = true := okT_pl (okT_nm h) k
theorem strs_plX {ts : List Str} (h : ∀ t ∈ ts, isNm t = true) (k : Nat) : (Da.tup (strsL ts)).pl (k + 1) = true := pl_map (F := Da.str) fun t ht => nm_plX k (h t ht)
theorem tup_cmp {ds es : List Da} (k : Nat) (hk : k ≤ 60) (h : (Da.tup ds).pl k = true) (g : (Da.tup es).pl k = true) : xEqD false (.v (.tup ds)) (.v (.tup es)) S = .ok (.v (.bl (decide (Da.tup ds = Da.tup es)))) S := by
  by_cases e : Da.tup ds = Da.tup es
  · rw [decide_eq_true e]
    exact eqD_same (d := .tup ds) k false hk h rfl (by rw [e]; rfl)
  · rw [decide_eq_false e]
    exact eqD_ne (d := .tup ds) (e := .tup es) k false hk h g e rfl rfl
noncomputable def bkB (l : List Sh) (st : List Str) (l' : List Sh) (st' : List Str) : Bool := decide (Da.tup (strsL (nmS l)) = Da.tup (strsL (nmS l'))) && (decide (Da.tup (l.map fun s => Da.tup (strsL s.ls)) = Da.tup (l'.map fun s => Da.tup (strsL s.ls))) &&
  (decide (Da.tup (l.map fun s => Da.tup (ixD (nmS l) s.fs)) = Da.tup (l'.map fun s => Da.tup (ixD (nmS l') s.fs))) && decide (Da.tup (ixD (nmS l) st) = Da.tup (ixD (nmS l') st'))))
theorem ixD_plX (ns cs : List Str) : (Da.tup (ixD ns cs)).pl 1 = true := pl_map fun _ _ => rfl
theorem book_cmp (hg : GoodB l st ln) (hg' : GoodB l' st' ln') : f_Book___eq__ [bkO l st, bkO l' st'] S = .ok (.v (.bl (bkB l st l' st'))) S := by
  have h1 := fun S => tup_cmp (S := S) 1 (by decide) (strs_plX hg.nn 0) (strs_plX hg'.nn 0)
  have h2 := fun S => tup_cmp (S := S) 1 (by decide) (ixD_plX (nmS l) st) (ixD_plX (nmS l') st')
  have h3 := fun S => tup_cmp (S := S) (ds := (l.map fun s => Da.tup (strsL s.ls))) (es := (l'.map fun s => Da.tup (strsL s.ls))) 2 (by decide) (pl_map fun s hs => strs_plX (fun x hx => hg.lw x ((hg.ls s hs).1 x hx)) 0) (pl_map fun s hs => strs_plX (fun x hx => hg'.lw x ((hg'.ls s hs).1 x hx)) 0)
  have h4 := fun S => tup_cmp (S := S) (ds := (l.map fun s => Da.tup (ixD (nmS l) s.fs))) (es := (l'.map fun s => Da.tup (ixD (nmS l') s.fs))) 2 (by decide) (pl_map fun s _ => ixD_plX (nmS l) s.fs) (pl_map fun s _ => ixD_plX (nmS l') s.fs)
  rw [bk_eq, bk_eq]
  unfold bkB
  clear hg hg'
  generalize decide (Da.tup (strsL (nmS l)) = Da.tup (strsL (nmS l'))) = q1 at *
  generalize decide (Da.tup (ixD (nmS l) st) = Da.tup (ixD (nmS l') st')) = q2 at *
  generalize decide (Da.tup (l.map fun s => Da.tup (strsL s.ls)) = Da.tup (l'.map fun s => Da.tup (strsL s.ls))) = q3 at *
  generalize decide (Da.tup (l.map fun s => Da.tup (ixD (nmS l) s.fs)) = Da.tup (l'.map fun s => Da.tup (ixD (nmS l') s.fs))) = q4 at *
  generalize (l.map fun s => Da.tup (strsL s.ls)) = d3 at *
  generalize (l.map fun s => Da.tup (ixD (nmS l) s.fs)) = d4 at *
  generalize (l'.map fun s => Da.tup (strsL s.ls)) = d7 at *
  generalize (l'.map fun s => Da.tup (ixD (nmS l') s.fs)) = d8 at *
  generalize ixD (nmS l) st = d2 at *
  generalize ixD (nmS l') st' = d6 at *
  generalize strsL (nmS l) = d1 at *
  generalize strsL (nmS l') = d5 at *
  simp only [f_Book___eq__, fb_Book___eq__]
  cases q1
  · walk_at "g"
  · cases q3
    · walk_at "g"
    · cases q4 <;> walk_at "g"
theorem strs_inj : ∀ {a b : List Str}, strsL a = strsL b → a = b
  | [], [], _ => rfl
  | [], y :: ys, h => by simp at h
  | x :: xs, [], h => by simp at h
  | x :: xs, y :: ys, h => by
    simp only [strsL, List.map_cons, List.cons.injEq] at h
    rw [Da.str.inj h.1, strs_inj h.2]
theorem lsD_inj : ∀ {l l' : List Sh}, (l.map fun s => Da.tup (strsL s.ls)) = (l'.map fun s => Da.tup (strsL s.ls)) → l.map Sh.ls = l'.map Sh.ls
  | [], [], _ => rfl
  | [], y :: ys, h => by simp at h
  | x :: xs, [], h => by simp at h
  | x :: xs, y :: ys, h => by
    simp only [List.map_cons, List.cons.injEq, Da.tup.injEq] at h
    rw [List.map_cons, List.map_cons, strs_inj h.1, lsD_inj h.2]
/-- two books are unlike when names, lines, or the numbers of followers or of starts are -/
theorem bkB_ne (h : nmS l ≠ nmS l' ∨ l.map Sh.ls ≠ l'.map Sh.ls ∨ (l.map fun s => (ixs (nmS l) s.fs).length) ≠ (l'.map fun s => (ixs (nmS l') s.fs).length) ∨ (ixs (nmS l) st).length ≠ (ixs (nmS l') st').length) : bkB l st l' st' = false ∧ bkB l' st' l st = false := by
  have key : ∀ {l l' : List Sh} {st st' : List Str}, bkB l st l' st' = true → nmS l = nmS l' ∧ l.map Sh.ls = l'.map Sh.ls ∧ (l.map fun s => (ixs (nmS l) s.fs).length) = (l'.map fun s => (ixs (nmS l') s.fs).length) ∧ (ixs (nmS l) st).length = (ixs (nmS l') st').length := by
    intro l l' st st' hb
    unfold bkB at hb
    simp only [Bool.and_eq_true, decide_eq_true_eq, Da.tup.injEq] at hb
    obtain ⟨h1, h2, h3, h4⟩ := hb
    refine ⟨strs_inj h1, lsD_inj h2, ?_, ?_⟩
    · have := congrArg (List.map fun d => match d with | Da.tup ds => ds.length | _ => 0) h3
      simpa [Function.comp_def] using this
    · have := congrArg List.length h4
      simpa using this
  constructor
  · cases e : bkB l st l' st' with
    | false => rfl
    | true =>
      obtain ⟨a, b, c, d⟩ := key e
      rcases h with h | h | h | h
      · exact absurd a h
      · exact absurd b h
      · exact absurd c h
      · exact absurd d h
  · cases e : bkB l' st' l st with
    | false => rfl
    | true =>
      obtain ⟨a, b, c, d⟩ := key e
      rcases h with h | h | h | h
      · exact absurd a.symm h
      · exact absurd b.symm h
      · exact absurd c.symm h
      · exact absurd d.symm h
theorem bkB_self : bkB l st l st = true := by
  unfold bkB
  simp
/-- as many numbers as names, when these are unlike and all known -/
theorem ixs_full {ns cs : List Str} (hn : ns.Nodup) (hc : cs.Nodup) (h : ∀ c ∈ cs, c ∈ ns) : (ixs ns cs).length = cs.length := by
  have e : ((ixs ns cs).map fun k => ns.getD k Str.empty).Perm cs := by
    refine (List.perm_ext_iff_of_nodup ?_ hc).mpr fun z => ?_
    · refine List.pairwise_map.mpr (List.Pairwise.imp_of_mem (fun {a b} ha hb hne e => hne ?_) (List.Pairwise.filter _ List.nodup_range : (ixs ns cs).Nodup))
      have ha' := List.mem_range.mp (List.mem_filter.mp ha).1
      have hb' := List.mem_range.mp (List.mem_filter.mp hb).1
      rw [List.getD_eq_getElem?_getD, List.getElem?_eq_getElem ha', List.getD_eq_getElem?_getD, List.getElem?_eq_getElem hb'] at e
      exact (List.getElem_inj hn).mp e
    · constructor
      · intro hz
        obtain ⟨k, hk, rfl⟩ := List.mem_map.mp hz
        exact of_decide_eq_true (List.mem_filter.mp hk).2
      · intro hz
        obtain ⟨k, hk, e⟩ := List.getElem_of_mem (h z hz)
        have e2 : ns.getD k Str.empty = z := by rw [List.getD_eq_getElem?_getD, List.getElem?_eq_getElem hk]; exact e
        exact List.mem_map.mpr ⟨k, List.mem_filter.mpr ⟨List.mem_range.mpr hk, by rw [e2]; exact decide_eq_true hz⟩, e2⟩
  have := e.length_eq
  rw [List.length_map] at this
  exact this
end
end
/-! ## BpE -/
section
open PySem PySem.Spec PyProof.Rows L2
/-! ## books that are nearly alike -/
section
variable {l : List Sh} {st ln : List Str} {k : Nat} {f : Str}
theorem set_cut {α : Type} {l : List α} {k : Nat} {x : α} (h : k < l.length) : l.set k x = (l.take k ++ [x]) ++ l.drop (k + 1) := by
  rw [List.set_eq_take_append_cons_drop, if_pos h]; simp
theorem map_set_same {α β : Type} {l : List α} {k : Nat} {x d : α} {F : α → β} (h : k < l.length) (e : F x = F (l.getD k d)) : (l.set k x).map F = l.map F := by
  rw [List.map_set]
  refine List.ext_getElem (by simp) fun i h1 h2 => ?_
  rw [List.getElem_set]
  split
  · rename_i hk
    subst hk
    rw [e, List.getD_eq_getElem?_getD, List.getElem?_eq_getElem h]
    simp
  · rfl
theorem map_set_ne {α β : Type} {l : List α} {k : Nat} {x d : α} {F : α → β} (h : k < l.length) (e : F x ≠ F (l.getD k d)) : l.map F ≠ (l.set k x).map F := fun z => by
  have h1 : (l.map F)[k]'(by simpa using h) = ((l.set k x).map F)[k]'(by simpa using h) := by simp only [z]
  apply e
  rw [List.getElem_map, List.getElem_map, List.getElem_set_self] at h1
  rw [← h1, List.getD_eq_getElem?_getD, List.getElem?_eq_getElem h]
  rfl
theorem good_set {s : Sh} {ln' : List Str} (g : GoodB l st ln) (h : k < l.length) (hn : s.n = (l.getD k s0).n) (l1 : ln'.length ≤ 9) (l2 : ∀ w ∈ ln', isNm w = true) (l3 : ln'.Nodup) (l4 : ∀ w ∈ ln, w ∈ ln')
    (h1 : (∀ w ∈ s.ls, w ∈ ln') ∧ s.ls.Nodup ∧ s.ls.length ≤ 8) (h2 : (∀ w ∈ s.fs, w ∈ nmS l) ∧ s.fs.Nodup ∧ s.fs ≠ []) : GoodB (l.set k s) st ln' := by
  have hnm : nmS (l.set k s) = nmS l := map_set_same (F := Sh.n) h hn
  refine ⟨by rw [List.length_set]; exact g.n1, by rw [List.length_set]; exact g.n4, by rw [hnm]; exact g.nn, by rw [hnm]; exact g.nd, l1, l2, l3, fun x hx => ?_, fun x hx => ?_, by rw [hnm]; exact g.ss⟩
  · rcases List.mem_or_eq_of_mem_set hx with hx | rfl
    · exact ⟨fun w hw => l4 w ((g.ls x hx).1 w hw), (g.ls x hx).2⟩
    · exact h1
  · rw [hnm]
    rcases List.mem_or_eq_of_mem_set hx with hx | rfl
    · exact g.fs x hx
    · exact h2
/-- a book nearly alike -/
def Near (l : List Sh) (st : List Str) (l' : List Sh) (st' : List Str) : Prop := (∃ ln', GoodB l' st' ln') ∧ bkB l st l' st' = false ∧ bkB l' st' l st = false
theorem near_lines {ls : List Str} (g : GoodB l st ln) (h8 : ln.length ≤ 8) (h : k < l.length) (hf : isNm f = true) (hfl : f ∉ ln) (hl : ls ≠ (l.getD k s0).ls) (h1 : ∀ w ∈ ls, w = f ∨ w ∈ ln) (h2 : ls.Nodup) (h3 : ls.length ≤ 8) :
    Near l st (l.set k ⟨(l.getD k s0).n, ls, (l.getD k s0).fs⟩) st := by
  have hm := mem_getD h
  refine ⟨⟨f :: ln, good_set g h rfl (by simp; omega) (fun w hw => ?_) (List.nodup_cons.mpr ⟨hfl, g.lnd⟩) (fun w hw => List.mem_cons_of_mem _ hw) ⟨fun w hw => ?_, h2, h3⟩ (g.fs (l.getD k s0) hm)⟩, bkB_ne (.inr (.inl (map_set_ne (F := Sh.ls) (d := s0) h hl)))⟩
  · rcases List.mem_cons.mp hw with rfl | hw
    · exact hf
    · exact g.lw w hw
  · rcases h1 w hw with rfl | hw
    · simp
    · exact List.mem_cons_of_mem _ hw
theorem near_fol {cs : List Str} (g : GoodB l st ln) (h : k < l.length) (h1 : ∀ w ∈ cs, w ∈ nmS l) (h2 : cs.Nodup) (h3 : cs ≠ []) (h4 : cs.length ≠ (l.getD k s0).fs.length) :
    Near l st (l.set k ⟨(l.getD k s0).n, (l.getD k s0).ls, cs⟩) st := by
  have hm := mem_getD h
  have hnm : nmS (l.set k ⟨(l.getD k s0).n, (l.getD k s0).ls, cs⟩) = nmS l := map_set_same (F := Sh.n) h rfl
  refine ⟨⟨ln, good_set g h rfl g.ll g.lw g.lnd (fun _ h => h) (g.ls (l.getD k s0) hm) ⟨h1, h2, h3⟩⟩, bkB_ne (.inr (.inr (.inl ?_)))⟩
  rw [hnm]
  refine map_set_ne (F := fun s : Sh => (ixs (nmS l) s.fs).length) (d := s0) h ?_
  obtain ⟨b1, b2, -⟩ := g.fs _ hm
  show (ixs (nmS l) cs).length ≠ (ixs (nmS l) (l.getD k s0).fs).length
  rw [ixs_full g.nd h2 h1, ixs_full g.nd b2 b1]
  exact h4
theorem near_st {cs : List Str} (g : GoodB l st ln) (h1 : ∀ w ∈ cs, w ∈ nmS l) (h2 : cs.Nodup) (h3 : cs ≠ []) (h4 : cs.length ≠ st.length) : Near l st l cs := by
  refine ⟨⟨ln, { g with ss := ⟨h1, h2, h3⟩ }⟩, bkB_ne (.inr (.inr (.inr ?_)))⟩
  rw [ixs_full g.nd h2 h1, ixs_full g.nd g.ss.2.1 g.ss.1]
  exact fun e => h4 e.symm
/-! ### a page with another name -/
def rn (n f w : Str) : Str := if w = n then f else w
def rnS (n f : Str) (s : Sh) : Sh := ⟨rn n f s.n, s.ls, s.fs.map (rn n f)⟩
theorem rn_nd {n f : Str} : ∀ {ws : List Str}, ws.Nodup → f ∉ ws → (ws.map (rn n f)).Nodup
  | [], _, _ => by simp
  | w :: ws, h1, h2 => by
    obtain ⟨a, b⟩ := List.nodup_cons.mp h1
    have h3 : f ∉ ws := fun z => h2 (List.mem_cons_of_mem _ z)
    have h4 : f ≠ w := fun z => h2 (by rw [z]; simp)
    rw [List.map_cons]
    refine List.nodup_cons.mpr ⟨fun z => ?_, rn_nd b h3⟩
    obtain ⟨u, hu, e⟩ := List.mem_map.mp z
    unfold rn at e
    by_cases h5 : u = n
    · rw [if_pos h5] at e
      by_cases h6 : w = n
      · exact a (by rw [h6, ← h5]; exact hu)
      · rw [if_neg h6] at e
        exact h4 e
    · rw [if_neg h5] at e
      by_cases h6 : w = n
      · rw [if_pos h6] at e
        exact h3 (by rw [← e]; exact hu)
      · rw [if_neg h6] at e
        exact a (by rw [← e]; exact hu)
theorem nmS_rn (n f : Str) : nmS (l.map (rnS n f)) = (nmS l).map (rn n f) := by simp [nmS, rnS, Function.comp_def]
theorem near_rn (g : GoodB l st ln) (h : k < l.length) (hf : isNm f = true) (hfn : f ∉ nmS l) : Near l st (l.map (rnS (l.getD k s0).n f)) (st.map (rn (l.getD k s0).n f)) := by
  have hnm := nmS_rn (l := l) (l.getD k s0).n f
  have sub : ∀ cs : List Str, (∀ c ∈ cs, c ∈ nmS l) → ∀ w ∈ cs.map (rn (l.getD k s0).n f), w ∈ (nmS l).map (rn (l.getD k s0).n f) := fun cs hc w hw => by
    obtain ⟨c, hc', rfl⟩ := List.mem_map.mp hw
    exact List.mem_map.mpr ⟨c, hc c hc', rfl⟩
  have nof : ∀ cs : List Str, (∀ c ∈ cs, c ∈ nmS l) → f ∉ cs := fun cs hc z => hfn (hc f z)
  have isn : ∀ w, isNm w = true → isNm (rn (l.getD k s0).n f w) = true := fun w hw => by
    unfold rn
    split
    · exact hf
    · exact hw
  refine ⟨⟨ln, ?_, ?_, fun w hw => ?_, ?_, g.ll, g.lw, g.lnd, fun s hs => ?_, fun s hs => ?_, ?_, ?_, ?_⟩, bkB_ne (.inl fun e => ?_)⟩
  · rw [List.length_map]; exact g.n1
  · rw [List.length_map]; exact g.n4
  · rw [hnm] at hw
    obtain ⟨c, hc, rfl⟩ := List.mem_map.mp hw
    exact isn c (g.nn c hc)
  · rw [hnm]; exact rn_nd g.nd hfn
  · obtain ⟨s', hs', rfl⟩ := List.mem_map.mp hs
    exact g.ls s' hs'
  · obtain ⟨s', hs', rfl⟩ := List.mem_map.mp hs
    obtain ⟨b1, b2, b3⟩ := g.fs s' hs'
    rw [hnm]
    exact ⟨sub _ b1, rn_nd b2 (nof _ b1), by show s'.fs.map _ ≠ []; simpa using b3⟩
  · rw [hnm]; exact sub _ g.ss.1
  · exact rn_nd g.ss.2.1 (nof _ g.ss.1)
  · simpa using g.ss.2.2
  · rw [hnm] at e
    apply hfn
    rw [e]
    exact List.mem_map.mpr ⟨(l.getD k s0).n, List.mem_map.mpr ⟨_, mem_getD h, rfl⟩, by unfold rn; rw [if_pos rfl]⟩
/-! ### pages in another order, a page more -/
theorem near_turn (g : GoodB l st ln) (h : 1 < l.length) : Near l st (l.drop 1 ++ l.take 1) st := by
  have hp : (l.drop 1 ++ l.take 1).Perm l := by
    have := List.perm_append_comm (l₁ := l.drop 1) (l₂ := l.take 1)
    rwa [List.take_append_drop] at this
  have hn : (nmS (l.drop 1 ++ l.take 1)).Perm (nmS l) := hp.map _
  refine ⟨⟨ln, by rw [hp.length_eq]; exact g.n1, by rw [hp.length_eq]; exact g.n4, fun w hw => g.nn w (hn.mem_iff.mp hw), hn.nodup_iff.mpr g.nd, g.ll, g.lw, g.lnd, fun s hs => g.ls s (hp.mem_iff.mp hs), fun s hs => ?_, fun w hw => hn.mem_iff.mpr (g.ss.1 w hw), g.ss.2⟩, bkB_ne (.inl fun e => ?_)⟩
  · obtain ⟨b1, b2⟩ := g.fs s (hp.mem_iff.mp hs)
    exact ⟨fun w hw => hn.mem_iff.mpr (b1 w hw), b2⟩
  · match l, h, e, g with
    | a :: b :: r, _, e, g =>
      have hd := g.nd
      simp only [nmS, List.drop_succ_cons, List.drop_zero, List.take_succ_cons, List.take_zero, List.cons_append, List.map_cons, List.cons.injEq] at e hd
      rw [e.1] at hd
      simp at hd
theorem near_more (g : GoodB l st ln) (h : l.length < 4) (hf : isNm f = true) (hfn : f ∉ nmS l) : Near l st (l ++ [⟨f, [], [f]⟩]) st := by
  have hnm : nmS (l ++ [⟨f, [], [f]⟩]) = nmS l ++ [f] := by simp [nmS]
  refine ⟨⟨ln, by simp, by simp; omega, fun w hw => ?_, ?_, g.ll, g.lw, g.lnd, fun s hs => ?_, fun s hs => ?_, fun w hw => ?_, g.ss.2⟩, bkB_ne (.inl fun e => ?_)⟩
  · rw [hnm] at hw
    rcases List.mem_append.mp hw with hw | hw
    · exact g.nn w hw
    · rw [List.mem_singleton.mp hw]; exact hf
  · rw [hnm, List.nodup_append]
    refine ⟨g.nd, by simp, ?_⟩
    rintro a ha b hb rfl
    rw [List.mem_singleton.mp hb] at ha
    exact hfn ha
  · rcases List.mem_append.mp hs with hs | hs
    · exact g.ls s hs
    · rw [List.mem_singleton.mp hs]; exact ⟨by simp, by simp, by simp⟩
  · rw [hnm]
    rcases List.mem_append.mp hs with hs | hs
    · obtain ⟨b1, b2⟩ := g.fs s hs
      exact ⟨fun w hw => List.mem_append_left _ (b1 w hw), b2⟩
    · rw [List.mem_singleton.mp hs]; exact ⟨by simp, by simp, by simp⟩
  · rw [hnm]; exact List.mem_append_left _ (g.ss.1 w hw)
  · rw [hnm] at e
    have := congrArg List.length e
    rw [List.length_append, List.length_singleton] at this
    omega
end
end
/-! ## CutF -/
section
open PySem PySem.Spec PyProof.Rows L2
/-! ## slices as take and drop -/
theorem cut_take {α : Type} {l : List α} {i : Int} (h0 : 0 ≤ i) : cutG l none (some i) = l.take i.toNat := by
  unfold cutG HT.sIx
  simp only
  rw [if_neg (by omega), List.drop_zero, Nat.sub_zero]
  by_cases h : i.toNat ≤ l.length
  · rw [Nat.min_eq_left h]
  · rw [Nat.min_eq_right (by omega), List.take_length, List.take_of_length_le (by omega)]
theorem cut_drop {α : Type} {l : List α} {i : Int} (h0 : 0 ≤ i) : cutG l (some i) none = l.drop i.toNat := by
  unfold cutG HT.sIx
  simp only
  rw [if_neg (by omega)]
  by_cases h : i.toNat ≤ l.length
  · rw [Nat.min_eq_left h, List.take_of_length_le (by rw [List.length_drop]; exact Nat.le_refl _)]
  · rw [Nat.min_eq_right (by omega), Nat.sub_self, List.take_zero, List.drop_eq_nil_of_le (by omega)]
end
/-! ## BpF -/
local macro_rules | `(tactic| walk_at "f") => `(tactic| simp only [e_fSeq, e_fSl, e_fVar, e_fC, e_fOp, e_fNotV, e_fAndV, e_fIf, e_fChain, e_fNil, e_fCons, e_fTup, e_fLst, e_fCell, e_fNoP, e_fPart, e_fRev, e_fFld, e_fCB, e_fTest, e_fAnd, e_fOr, e_fNot, e_fYes, e_fCall, e_fCallS, e_fMeth, e_fNext, e_fRet, e_fDrop, e_fIfS, e_fSet, e_fSetD, e_fPar, e_fFrz, e_fAppS, e_fSetI, e_fSFld, e_fiL, e_fiB, e_fiR1, e_fiS, e_fiE, e_fiET, e_fFor, e_fLc, e_fRaise, e_fTry, e_fXf, e_fIsE, e_fNeg, e_fMethX, e_fMakeX, e_fOwnEq, e_fIsC, e_fLenO, onLen, e_fCallL, e_fLendE, chkE_ok, chkD_ok, Rv.flatR, e_fLenS, e_fFind, e_fAppE, e_fForC, e_fLcC, e_fInsE, e_fIdxN, e_fUn, e_onLs, lendDs_v, lendDs_fr, lendDs_bo, lendDs_0, chkL_ok, chkI_ok, chkI_ex, exnNoL, chkT_ok, onK_int, onK_str, Da.key, Rv.noL, Da.noL, sq_nx, sq_rt, sq_bk, sq_ct, sq_ex, sq_bad, bd_ok, bd_ex, bd_bad, so_ok, so_ex, so_bad, noX_ok, noX_ex, noX_bad, onB_bl, onD_v, onD_fr, e_onDs, toDs_v, toDs_fr, toDs_0, onO_some, omap_some, Option.map_none, Option.isSome_none, Option.isSome_some, Option.getD_none, Option.getD_some, List.isEmpty_nil, List.isEmpty_cons, e_endO, e_endOr, fin_nx, fin_rt, fin_ex, fin0_nx, fin0_rt, e_fnOf, e_fnOf0, inOf, fHand, fgName, fgTup, fgCons, fgNil, Rv.toD, Rv.rd, Rv.bool, Rv.out, Rv.sx, Rv.isN, Da.sv, svs, Da.tyN, Da.tru, Da.fmt, noExn, oI0, oI, xEq, xIsN, xIx, xIxS, xAddS, xInS, xIn, xCat, xSlL, xSlS, bLen, bLenS, bI1, bI2, bInt1, bList, bTup, bTupN, bAll, putN, scal, cMul, cDiv, cMod, cPow, wipeD, ofString_inj, String.reduceEq, String.reduceNe, getF_cons, List.mem_cons, List.not_mem_nil, List.getElem?_cons_succ, List.getElem?_cons_zero, List.set_cons_succ, List.set_cons_zero, List.length_cons, List.length_nil, List.length_append, List.length_map, List.length_set, Int.toNat_natCast, List.map_cons, List.map_nil, List.cons_append, List.nil_append, List.append_nil, List.zip_cons_cons, List.zip_nil_left, List.zip_nil_right, List.reverse_cons, List.reverse_nil, List.all_cons, List.all_nil, List.lookup_cons, List.lookup_nil, List.replicate_succ, List.replicate_zero, Nat.reduceAdd, Nat.reduceSub, Nat.reduceLT, Nat.reduceLeDiff, Nat.reduceEqDiff, Nat.zero_add, Nat.add_zero, Nat.sub_self, Nat.sub_zero, if_true, if_false, ite_true, ite_false, Bool.false_eq_true, Bool.true_and, Bool.and_true, Bool.false_and, Bool.and_false, Bool.true_or, Bool.or_true, Bool.false_or, Bool.or_false, Bool.not_true, Bool.not_false, decide_true, decide_false, and_self, and_true, true_and, not_true_eq_false, not_false_eq_true, reduceIte, Option.some.injEq, reduceCtorEq, decide_eq_true_eq, ne_eq, Int.reduceLT, Int.reduceLE, Int.reduceEq, Int.reduceNe, Int.reduceAdd, Int.reduceSub, Int.reduceMul, Int.reduceNeg, Int.reducePow, Int.reduceToNat, Int.reduceDiv, Int.reduceMod, Int.reduceAbs, or_true, true_or, or_false, false_or, and_false, false_and, at_0, at_1, at_2, at_3, at_4, at_5, atM_1, V.int.injEq, V.bl.injEq, V.str.injEq, nc0, nc1, nc2, nc3, nc4, nc5, nc6, nc7, nc8, nc9, nc10, nc11, nc12, natAbs10, sx1, sx2, sx3, sx4, sx5, cut1, cut2, cut3, kb_l_l, kb_l_t, kb_l_i, kb_l_b, kb_l_s, kb_t_l, kb_t_t, kb_t_i, kb_t_b, kb_t_s, kb_i_l, kb_i_t, kb_i_i, kb_i_b, kb_i_s, kb_b_l, kb_b_t, kb_b_i, kb_b_b, kb_b_s, kb_s_l, kb_s_t, kb_s_i, kb_s_b, kb_s_s, kb_N_l, kb_N_t, kb_N_i, kb_N_b, kb_N_s])
section
open PySem PySem.Spec PyProof.Rows L2
section
variable {S : Sto} {ns cs : List Str}
theorem renamed_ok {n f : Str} (h : cs.length ≤ 1000) : f_l_renamed [.lst (strsL cs), .str n, .str f] S = .ok (.fr (.lst (strsL (cs.map (rn n f))))) S := by
  have lc := lc_pure (fg := fgName 3) (ft := fYes) (fe := fe_l_renamed_0) (σ := [some (Sx.v (.lst (strsL cs))), some (.v (.str n)), some (.v (.str f)), none]) Da.str (fun _ => true) (fun w => .str (rn n f w)) (fun w => [some (Sx.v (.lst (strsL cs))), some (.v (.str n)), some (.v (.str f)), some (.v (.str w))]) (S := S) (l := cs) (acc := []) (fun w _ => ⟨rfl, rfl, fun _ => ⟨.v (.str (rn n f w)), by
    unfold rn
    generalize strsL cs = d at *
    simp only [fe_l_renamed_0]
    by_cases hw : w = n
    · rw [if_pos hw]
      walk_at "g"
    · rw [if_neg hw]
      walk_at "g", rfl⟩⟩) (by simp; omega)
  rw [List.filter_eq_self.mpr (fun _ _ => rfl), List.nil_append, show (cs.map fun w => Da.str (rn n f w)) = strsL (cs.map (rn n f)) by simp [Function.comp_def]] at lc
  change foldLc _ _ _ _ (strsL cs) _ _ = _ at lc
  clear h
  generalize strsL (cs.map (rn n f)) = d2 at *
  generalize strsL cs = d at *
  simp only [f_l_renamed, fb_l_renamed]
  walk_at "g"
theorem strs_nilB {ws : List Str} {r : Rv} (h : ∀ w ∈ ws, isNm w = true) (hr : r.rd S = .lst (strsL ws)) : xEqD true r (.fr (.lst [])) S = .ok (.v (.bl (!ws.isEmpty))) S := by
  cases ws with
  | nil => exact eqD_same (d := .lst []) 1 true (by decide) rfl hr rfl
  | cons w ws =>
    exact eqD_ne (d := .lst (strsL (w :: ws))) (e := .lst []) 1 true (by decide) (okT_lst (fun t ht => okT_nm (h t ht)) 0) rfl (fun z => by simp at z) hr rfl
theorem other_some_ok (hn : ns.length ≤ 4) (hnn : ∀ w ∈ ns, isNm w = true) (h1 : ∀ w ∈ cs, w ∈ ns) (h2 : cs.Nodup) (h4 : cs.length ≤ 4) :
    f_l_other_some [.lst (strsL ns), .lst (strsL cs)] S = .ok (.v .non) S ∨
    ∃ es : List Str, f_l_other_some [.lst (strsL ns), .lst (strsL cs)] S = .ok (.fr (.lst (strsL es))) S ∧ (∀ w ∈ es, w ∈ ns) ∧ es.Nodup ∧ es ≠ [] ∧ es.length ≠ cs.length := by
  obtain ⟨ks, hks⟩ : ∃ ks, ks = ns.filter (fun w => !decide (w ∈ cs)) := ⟨_, rfl⟩
  have lc := lc_pure (fg := fgName 3) (ft := ft_l_other_some_0) (fe := fe_l_other_some_0) (σ := [some (Sx.v (.lst (strsL ns))), some (.v (.lst (strsL cs))), none, none]) Da.str (fun w => !decide (w ∈ cs)) Da.str (fun w => [some (Sx.v (.lst (strsL ns))), some (.v (.lst (strsL cs))), none, some (.v (.str w))]) (S := S) (l := ns) (acc := []) (fun w _ => ⟨rfl, by
    have hi1 := svs_str cs
    have hi2 := flat_str cs
    have hi3 := inV_str w cs
    have hi4 : ∀ z, flatV (.str z) = true := fun _ => rfl
    clear h1 h2 h4 hn hnn hks
    generalize decide (w ∈ cs) = q at *
    generalize cs.map V.str = v0 at *
    generalize strsL cs = d4 at *
    generalize strsL ns = d3 at *
    simp only [ft_l_other_some_0]
    walk_at "g", fun _ => ⟨.v (.str w), by simp only [fe_l_other_some_0]; walk_at "f", rfl⟩⟩) (by simp; omega)
  rw [List.nil_append, ← hks] at lc
  change foldLc _ _ _ _ (strsL ns) _ _ = .ok (strsL ks) _ at lc
  have hkm : ∀ w ∈ ks, w ∈ ns ∧ w ∉ cs := fun w hw => by
    rw [hks] at hw
    obtain ⟨a, b⟩ := List.mem_filter.mp hw
    exact ⟨a, by simpa using b⟩
  have hnil := fun S => strs_nilB (S := S) (ws := ks) (r := .v (.lst (strsL ks))) (fun w hw => hnn w (hkm w hw).1) rfl
  have hcl : (strsL cs).length = cs.length := List.length_map _
  cases he : ks with
  | cons w ws =>
    refine .inr ⟨cs ++ [w], ?_, fun x hx => ?_, ?_, by simp, by simp⟩
    · have hat : atI (strsL ks) 0 = some (.str w) := by rw [he]; exact at_mapD (F := Da.str) (l := w :: ws) Str.empty (i := 0) (by simp)
      rw [he] at hnil
      have hcat : strsL (cs ++ [w]) = strsL cs ++ [.str w] := by simp
      have hz : (strsL cs).length + 1 ≤ 1000000 := by omega
      rw [he] at lc hat
      have hnl : ∀ S, xEqD true (.v (.lst (strsL (w :: ws)))) (.fr (.lst [])) S = .ok (.v (.bl true)) S := hnil
      rw [hcat]
      clear hnil hkm hks h1 h2 h4 hn hnn he hcat hcl
      generalize strsL cs = d4 at *
      generalize strsL ns = d3 at *
      generalize strsL (w :: ws) = d5 at *
      simp only [f_l_other_some, fb_l_other_some]
      walk_at "o"
    · rcases List.mem_append.mp hx with hx | hx
      · exact h1 x hx
      · rw [List.mem_singleton.mp hx]; exact (hkm w (by rw [he]; simp)).1
    · rw [List.nodup_append]
      refine ⟨h2, by simp, ?_⟩
      rintro a ha b hb rfl
      rw [List.mem_singleton.mp hb] at ha
      exact (hkm w (by rw [he]; simp)).2 ha
  | nil =>
    rw [he] at hnil lc
    have hnl : ∀ S, xEqD true (.v (.lst [])) (.fr (.lst [])) S = .ok (.v (.bl false)) S := hnil
    change _ = Ev.ok [] _ at lc
    by_cases hc : (1 : Int) < ((strsL cs).length : Nat)
    · refine .inr ⟨cs.take (cs.length - 1), ?_, fun x hx => h1 x (List.mem_of_mem_take hx), h2.sublist (List.take_sublist _ _), fun z => ?_, ?_⟩
      · have hcut : cutG (strsL cs) none (some (((strsL cs).length : Nat) - 1 : Int)) = strsL (cs.take (cs.length - 1)) := by
          rw [cut_take (by omega), show (((strsL cs).length : Nat) - 1 : Int).toNat = cs.length - 1 by omega]; simp [List.map_take]
        clear hnil hkm hks h1 h2 h4 hn hnn he hcl
        generalize strsL (cs.take (cs.length - 1)) = d6 at *
        generalize strsL cs = d4 at *
        generalize strsL ns = d3 at *
        simp only [f_l_other_some, fb_l_other_some]
        walk_at "o"
      · have := congrArg List.length z
        rw [List.length_take, List.length_nil] at this
        omega
      · rw [List.length_take]
        omega
    · refine .inl ?_
      clear hnil hkm hks h1 h2 h4 hn hnn he hcl
      generalize strsL cs = d4 at *
      generalize strsL ns = d3 at *
      simp only [f_l_other_some, fb_l_other_some]
      walk_at "o"
end
end
/-! ## BpG -/
section
open PySem PySem.Spec PyProof.Rows L2
section
variable {S : Sto} {l : List Sh} {st ln : List Str} {k : Nat} {f : Str}
abbrev nA (l : List Sh) (st : List Str) (w : Int) (k : Nat) (f : Str) (x5 x6 x10 x11 x12 : Option Sx) : Env := [some (.v (.lst (shD l))), some (.v (.lst (strsL st))), some (.v (.int w)), some (.v (.int ((k : Nat) : Int))), some (.v (.str f)), x5, x6, none, none, none, x10, x11, x12]
theorem near_names {w : Int} (n4 : l.length ≤ 4) : foldLc (fgName 11) fYes fe_l_near_0 (nA l st w k f none none none none none) (shD l) [] S = .ok (strsL (nmS l)) S := by
  have lc := lc_pure (fg := fgName 11) (ft := fYes) (fe := fe_l_near_0) (σ := nA l st w k f none none none none none) Sh.da (fun _ => true) (fun s => .str s.n) (fun s => nA l st w k f none none none (some (.v s.da)) none) (S := S) (l := l) (acc := []) (fun s hs' => ⟨rfl, rfl, fun _ => ⟨.v (.str s.n), by
    unfold Sh.da nA
    generalize strsL s.ls = dls at *
    generalize strsL s.fs = dfs at *
    generalize shD l = d1 at *
    generalize strsL st = d2 at *
    generalize ((k : Nat) : Int) = kk at *
    clear hs' n4
    simp only [fe_l_near_0]
    walk_at "g", rfl⟩⟩) (by simp; omega)
  rw [List.filter_eq_self.mpr (fun _ _ => rfl), List.nil_append, show (l.map fun s => Da.str s.n) = strsL (nmS l) by simp [strsL, nmS]] at lc
  exact lc
theorem near_turns {n z : Str} (n4 : l.length ≤ 4) (hz : ∀ s ∈ l, s.fs.length ≤ 4) {w : Int} {x5 : Option Sx} {hls hfs : List Da} :
    ∃ x11 x12, foldFor (fgName 11) fl_l_near_0 (shD l) (nA l st w k f x5 (some (.v (.tup [.str n, .lst hls, .lst hfs]))) (some (.own (.lst []) false)) none none) S = .nx (nA l st w k f x5 (some (.v (.tup [.str n, .lst hls, .lst hfs]))) (some (.own (.lst (shD (l.map (rnS n f)))) false)) x11 x12) S := by
  obtain ⟨σ', S', e, rfl, x11, x12, rfl⟩ := for_inv (fg := fgName 11) (fb := fl_l_near_0) (fun i σ S' => S' = S ∧ ∃ x11 x12, σ = nA l st w k f x5 (some (.v (.tup [.str n, .lst hls, .lst hfs]))) (some (.own (.lst (shD ((l.take i).map (rnS n f)))) false)) x11 x12)
    (items := shD l) (n := 0) (σ := nA l st w k f x5 (some (.v (.tup [.str n, .lst hls, .lst hfs]))) (some (.own (.lst []) false)) none none) (S := S) ⟨rfl, none, none, rfl⟩ (by
    rintro i d σ S1 hd ⟨rfl, x11, x12, rfl⟩
    obtain ⟨hi, rfl, hm⟩ := map_at (F := Sh.da) s0 hd
    have e1 := renamed_ok (S := S1) (cs := [(l.getD i s0).n]) (n := n) (f := f) (by simp)
    have e2 := renamed_ok (S := S1) (cs := (l.getD i s0).fs) (n := n) (f := f) (by have := hz _ hm; omega)
    have ht : l.take (i + 1) = l.take i ++ [l.getD i s0] := by
      rw [List.take_succ_eq_append_getElem hi, List.getD_eq_getElem?_getD, List.getElem?_eq_getElem hi]; rfl
    have hc : shD ((l.take (i + 1)).map (rnS n f)) = shD ((l.take i).map (rnS n f)) ++ [.tup [.str (rn n f (l.getD i s0).n), .lst (strsL (l.getD i s0).ls), .lst (strsL ((l.getD i s0).fs.map (rn n f)))]] := by
      rw [ht, List.map_append]
      show List.map _ _ = _
      rw [List.map_append]
      rfl
    have hl : (shD ((l.take i).map (rnS n f))).length < 1000000 := by simp; omega
    change f_l_renamed [.lst [.str (l.getD i s0).n], .str n, .str f] S1 = .ok (.fr (.lst [.str (rn n f (l.getD i s0).n)])) S1 at e1
    refine ⟨_, _, S1, rfl, .inl ?_, rfl, some (.v (l.getD i s0).da), some (.v (.str (rn n f (l.getD i s0).n))), by rw [Nat.zero_add]⟩
    rw [Nat.zero_add, hc]
    clear hd hm hi ht hc hz n4
    unfold nA Sh.da
    generalize shD ((l.take i).map (rnS n f)) = acc at *
    generalize strsL ((l.getD i s0).fs.map (rn n f)) = d5 at *
    generalize rn n f (l.getD i s0).n = rr at *
    generalize strsL (l.getD i s0).fs = d3 at *
    generalize strsL (l.getD i s0).ls = d4 at *
    generalize (l.getD i s0).n = z at *
    generalize shD l = d1 at *
    generalize strsL st = d2 at *
    generalize ((k : Nat) : Int) = kk at *
    simp only [fl_l_near_0]
    walk_at "o")
  rw [Nat.zero_add, List.length_map, List.take_length] at e
  exact ⟨x11, x12, e⟩
/-- what the law's near gives -/
def NearR (l : List Sh) (st : List Str) (r : Rv) : Prop := r = .v .non ∨ ∃ l' st', r = .v (.tup [.lst (shD l'), .lst (strsL st')]) ∧ Near l st l' st'
theorem shD_set {s : Sh} (h : k < l.length) : shD (l.set k s) = (shD (l.take k) ++ [.tup [.str s.n, .lst (strsL s.ls), .lst (strsL s.fs)]]) ++ shD (l.drop (k + 1)) := by
  rw [set_cut h]; simp [shD, Sh.da]
theorem cut_a (h : k < l.length) : cutG (shD l) none (some ((k : Nat) : Int)) = shD (l.take k) := by rw [cut_take (by omega)]; simp [shD, List.map_take]
theorem cut_b : cutG (shD l) (some (((k : Nat) : Int) + 1)) none = shD (l.drop (k + 1)) := by rw [cut_drop (by omega), show (((k : Nat) : Int) + 1).toNat = k + 1 by omega]; simp [shD, List.map_drop]
theorem near_0 (g : GoodB l st ln) (h8 : ln.length ≤ 8) (h : k < l.length) (hf : isNm f = true) (hfl : f ∉ ln) : ∃ r, f_l_near [.lst (shD l), .lst (strsL st), .int 0, .int (k : Nat), .str f] S = .ok r S ∧ NearR l st r := by
  have n4 := g.n4
  have hm := mem_getD h
  obtain ⟨b1, b2, b3⟩ := g.ls _ hm
  have lc := near_names (S := S) (st := st) (k := k) (f := f) (w := 0) n4
  have hat : atI (shD l) ((k : Nat) : Int) = some (.tup [.str (l.getD k s0).n, .lst (strsL (l.getD k s0).ls), .lst (strsL (l.getD k s0).fs)]) := at_mapD (F := Sh.da) s0 h
  have hca := cut_a h
  have hcb := cut_b (l := l) (k := k)
  have hnil := fun S => strs_nilB (S := S) (ws := (l.getD k s0).ls) (r := .v (.lst (strsL (l.getD k s0).ls))) (fun w hw => g.lw w (b1 w hw)) rfl
  have z1 : (shD (l.take k)).length + 1 ≤ 1000000 := by simp; omega
  have z2 : (shD (l.take k)).length + 1 + (shD (l.drop (k + 1))).length ≤ 1000000 := by simp; omega
  have z3 : (strsL (l.getD k s0).ls).length + 1 ≤ 1000000 := by rw [List.length_map]; omega
  cases he : (l.getD k s0).ls with
  | nil =>
    refine ⟨_, ?_, .inr ⟨_, st, rfl, near_lines (ls := [f]) g h8 h hf hfl (by rw [he]; simp) (fun w hw => .inl (List.mem_singleton.mp hw)) (by simp) (by simp)⟩⟩
    rw [shD_set h]
    rw [he] at hat hnil z3
    have hnl : ∀ S, xEqD true (.v (.lst [])) (.fr (.lst [])) S = .ok (.v (.bl false)) S := hnil
    change atI _ _ = some (Da.tup [_, Da.lst [], _]) at hat
    show _ = Ev.ok (Rv.v (.tup [.lst ((shD (l.take k) ++ [.tup [.str (l.getD k s0).n, .lst [.str f], .lst (strsL (l.getD k s0).fs)]]) ++ shD (l.drop (k + 1))), .lst (strsL st)])) S
    unfold nA at lc
    clear g n4 hm b1 b2 b3 hnil he z3 h h8 hf hfl
    generalize shD (l.take k) = da at *
    generalize shD (l.drop (k + 1)) = db at *
    generalize strsL (l.getD k s0).fs = df at *
    generalize (l.getD k s0).n = n at *
    generalize strsL (nmS l) = dn at *
    generalize shD l = d1 at *
    generalize strsL st = d2 at *
    generalize ((k : Nat) : Int) = kk at *
    simp only [f_l_near, fb_l_near]
    walk_at "o"
  | cons x xs =>
    have hb1 : ∀ w ∈ xs, w ∈ ln := fun w hw => b1 w (by rw [he]; exact List.mem_cons_of_mem _ hw)
    rw [he] at b2 b3
    refine ⟨_, ?_, .inr ⟨_, st, rfl, near_lines (ls := xs) g h8 h hf hfl (fun z => by rw [he] at z; exact absurd (congrArg List.length z) (by simp)) (fun w hw => .inr (hb1 w hw)) (List.nodup_cons.mp b2).2 (by simp at b3; omega)⟩⟩
    rw [shD_set h]
    rw [he] at hat hnil z3
    have hnl : ∀ S, xEqD true (.v (.lst (strsL (x :: xs)))) (.fr (.lst [])) S = .ok (.v (.bl true)) S := hnil
    have hcx : cutG (strsL (x :: xs)) (some 1) none = strsL xs := by rw [cut_drop (by decide)]; rfl
    show _ = Ev.ok (Rv.v (.tup [.lst ((shD (l.take k) ++ [.tup [.str (l.getD k s0).n, .lst (strsL xs), .lst (strsL (l.getD k s0).fs)]]) ++ shD (l.drop (k + 1))), .lst (strsL st)])) S
    unfold nA at lc
    clear g n4 hm b1 b2 b3 hnil he hb1 h h8 hf hfl
    generalize strsL (x :: xs) = dx at *
    generalize strsL xs = dy at *
    generalize shD (l.take k) = da at *
    generalize shD (l.drop (k + 1)) = db at *
    generalize strsL (l.getD k s0).fs = df at *
    generalize (l.getD k s0).n = n at *
    generalize strsL (nmS l) = dn at *
    generalize shD l = d1 at *
    generalize strsL st = d2 at *
    generalize ((k : Nat) : Int) = kk at *
    simp only [f_l_near, fb_l_near]
    walk_at "o"
theorem near_1 (g : GoodB l st ln) (h : k < l.length) : ∃ r, f_l_near [.lst (shD l), .lst (strsL st), .int 1, .int (k : Nat), .str f] S = .ok r S ∧ NearR l st r := by
  have n4 := g.n4
  have hm := mem_getD h
  obtain ⟨b1, b2, b3⟩ := g.fs _ hm
  have b4 := (good_le g).2 _ hm
  have lc := near_names (S := S) (st := st) (k := k) (f := f) (w := 1) n4
  have hat : atI (shD l) ((k : Nat) : Int) = some (.tup [.str (l.getD k s0).n, .lst (strsL (l.getD k s0).ls), .lst (strsL (l.getD k s0).fs)]) := at_mapD (F := Sh.da) s0 h
  have hca := cut_a h
  have hcb := cut_b (l := l) (k := k)
  have z1 : (shD (l.take k)).length + 1 ≤ 1000000 := by simp; omega
  have z2 : (shD (l.take k)).length + 1 + (shD (l.drop (k + 1))).length ≤ 1000000 := by simp; omega
  rcases other_some_ok (S := S) (by simpa using n4) g.nn b1 b2 b4 with e | ⟨es, e, c1, c2, c3, c4⟩
  · refine ⟨_, ?_, .inl rfl⟩
    unfold nA at lc
    clear g n4 hm b1 b2 b3 b4 h hca hcb
    generalize strsL (l.getD k s0).fs = df at *
    generalize strsL (l.getD k s0).ls = dl at *
    generalize (l.getD k s0).n = n at *
    generalize strsL (nmS l) = dn at *
    generalize shD l = d1 at *
    generalize strsL st = d2 at *
    generalize ((k : Nat) : Int) = kk at *
    simp only [f_l_near, fb_l_near]
    walk_at "o"
  · refine ⟨_, ?_, .inr ⟨_, st, rfl, near_fol g h c1 c2 c3 c4⟩⟩
    rw [shD_set h]
    show _ = Ev.ok (Rv.v (.tup [.lst ((shD (l.take k) ++ [.tup [.str (l.getD k s0).n, .lst (strsL (l.getD k s0).ls), .lst (strsL es)]]) ++ shD (l.drop (k + 1))), .lst (strsL st)])) S
    unfold nA at lc
    clear g n4 hm b1 b2 b3 b4 h c1 c2 c3 c4
    generalize strsL es = de at *
    generalize shD (l.take k) = da at *
    generalize shD (l.drop (k + 1)) = db at *
    generalize strsL (l.getD k s0).fs = df at *
    generalize strsL (l.getD k s0).ls = dl at *
    generalize (l.getD k s0).n = n at *
    generalize strsL (nmS l) = dn at *
    generalize shD l = d1 at *
    generalize strsL st = d2 at *
    generalize ((k : Nat) : Int) = kk at *
    simp only [f_l_near, fb_l_near]
    walk_at "o"
theorem near_2 (g : GoodB l st ln) (h : k < l.length) : ∃ r, f_l_near [.lst (shD l), .lst (strsL st), .int 2, .int (k : Nat), .str f] S = .ok r S ∧ NearR l st r := by
  have n4 := g.n4
  obtain ⟨b1, b2, b3⟩ := g.ss
  have b4 := (good_le g).1
  have lc := near_names (S := S) (st := st) (k := k) (f := f) (w := 2) n4
  have hat : atI (shD l) ((k : Nat) : Int) = some (.tup [.str (l.getD k s0).n, .lst (strsL (l.getD k s0).ls), .lst (strsL (l.getD k s0).fs)]) := at_mapD (F := Sh.da) s0 h
  rcases other_some_ok (S := S) (by simpa using n4) g.nn b1 b2 b4 with e | ⟨es, e, c1, c2, c3, c4⟩
  · refine ⟨_, ?_, .inl rfl⟩
    unfold nA at lc
    clear g n4 b1 b2 b3 b4 h
    generalize strsL (l.getD k s0).fs = df at *
    generalize strsL (l.getD k s0).ls = dl at *
    generalize (l.getD k s0).n = n at *
    generalize strsL (nmS l) = dn at *
    generalize shD l = d1 at *
    generalize strsL st = d2 at *
    generalize ((k : Nat) : Int) = kk at *
    simp only [f_l_near, fb_l_near]
    walk_at "o"
  · refine ⟨_, ?_, .inr ⟨l, es, rfl, near_st g c1 c2 c3 c4⟩⟩
    unfold nA at lc
    clear g n4 b1 b2 b3 b4 h c1 c2 c3 c4
    generalize strsL es = de at *
    generalize strsL (l.getD k s0).fs = df at *
    generalize strsL (l.getD k s0).ls = dl at *
    generalize (l.getD k s0).n = n at *
    generalize strsL (nmS l) = dn at *
    generalize shD l = d1 at *
    generalize strsL st = d2 at *
    generalize ((k : Nat) : Int) = kk at *
    simp only [f_l_near, fb_l_near]
    walk_at "o"
theorem near_3 (g : GoodB l st ln) (h : k < l.length) (hf : isNm f = true) (hfn : f ∉ nmS l) : ∃ r, f_l_near [.lst (shD l), .lst (strsL st), .int 3, .int (k : Nat), .str f] S = .ok r S ∧ NearR l st r := by
  have n4 := g.n4
  have b4 := (good_le g).1
  have lc := near_names (S := S) (st := st) (k := k) (f := f) (w := 3) n4
  have hat : atI (shD l) ((k : Nat) : Int) = some (.tup [.str (l.getD k s0).n, .lst (strsL (l.getD k s0).ls), .lst (strsL (l.getD k s0).fs)]) := at_mapD (F := Sh.da) s0 h
  have e2 := renamed_ok (S := S) (cs := st) (n := (l.getD k s0).n) (f := f) (by omega)
  obtain ⟨x11, x12, lp⟩ := near_turns (S := S) (l := l) (st := st) (k := k) (f := f) (w := 3) (n := (l.getD k s0).n) (x5 := some (.v (.lst (strsL (nmS l))))) (hls := strsL (l.getD k s0).ls) (hfs := strsL (l.getD k s0).fs) (z := f) n4 (good_le g).2
  refine ⟨_, ?_, .inr ⟨_, _, rfl, near_rn g h hf hfn⟩⟩
  unfold nA at lc lp
  clear g n4 b4 h hf hfn
  generalize shD (l.map (rnS (l.getD k s0).n f)) = dr at *
  generalize strsL (st.map (rn (l.getD k s0).n f)) = ds at *
  generalize strsL (l.getD k s0).fs = df at *
  generalize strsL (l.getD k s0).ls = dl at *
  generalize (l.getD k s0).n = n at *
  generalize strsL (nmS l) = dn at *
  generalize shD l = d1 at *
  generalize strsL st = d2 at *
  generalize ((k : Nat) : Int) = kk at *
  simp only [f_l_near, fb_l_near]
  walk_at "o"
theorem near_4 (g : GoodB l st ln) (h : k < l.length) : ∃ r, f_l_near [.lst (shD l), .lst (strsL st), .int 4, .int (k : Nat), .str f] S = .ok r S ∧ NearR l st r := by
  have n4 := g.n4
  have lc := near_names (S := S) (st := st) (k := k) (f := f) (w := 4) n4
  have hat : atI (shD l) ((k : Nat) : Int) = some (.tup [.str (l.getD k s0).n, .lst (strsL (l.getD k s0).ls), .lst (strsL (l.getD k s0).fs)]) := at_mapD (F := Sh.da) s0 h
  have hsl : (shD l).length = l.length := List.length_map _
  by_cases hc : (1 : Int) < ((shD l).length : Nat)
  · have hcat : shD (l.drop 1 ++ l.take 1) = shD (l.drop 1) ++ shD (l.take 1) := List.map_append
    have c1 : cutG (shD l) (some 1) none = shD (l.drop 1) := by rw [cut_drop (by decide)]; simp [shD, List.map_drop]
    have c2 : cutG (shD l) none (some 1) = shD (l.take 1) := by rw [cut_take (by decide)]; simp [shD, List.map_take]
    have z1 : (shD (l.drop 1)).length + (shD (l.take 1)).length ≤ 1000000 := by simp; omega
    refine ⟨_, ?_, .inr ⟨_, st, rfl, near_turn g (by omega)⟩⟩
    rw [hcat]
    unfold nA at lc
    clear g n4 h hcat hsl
    generalize shD (l.drop 1) = da at *
    generalize shD (l.take 1) = db at *
    generalize strsL (l.getD k s0).fs = df at *
    generalize strsL (l.getD k s0).ls = dl at *
    generalize (l.getD k s0).n = n at *
    generalize strsL (nmS l) = dn at *
    generalize shD l = d1 at *
    generalize strsL st = d2 at *
    generalize ((k : Nat) : Int) = kk at *
    simp only [f_l_near, fb_l_near]
    walk_at "o"
  · refine ⟨_, ?_, .inl rfl⟩
    unfold nA at lc
    clear g n4 h hsl
    generalize strsL (l.getD k s0).fs = df at *
    generalize strsL (l.getD k s0).ls = dl at *
    generalize (l.getD k s0).n = n at *
    generalize strsL (nmS l) = dn at *
    generalize shD l = d1 at *
    generalize strsL st = d2 at *
    generalize ((k : Nat) : Int) = kk at *
    simp only [f_l_near, fb_l_near]
    walk_at "o"
theorem near_5 (g : GoodB l st ln) (h : k < l.length) (hf : isNm f = true) (hfn : f ∉ nmS l) : ∃ r, f_l_near [.lst (shD l), .lst (strsL st), .int 5, .int (k : Nat), .str f] S = .ok r S ∧ NearR l st r := by
  have n4 := g.n4
  have lc := near_names (S := S) (st := st) (k := k) (f := f) (w := 5) n4
  have hat : atI (shD l) ((k : Nat) : Int) = some (.tup [.str (l.getD k s0).n, .lst (strsL (l.getD k s0).ls), .lst (strsL (l.getD k s0).fs)]) := at_mapD (F := Sh.da) s0 h
  have hsl : (shD l).length = l.length := List.length_map _
  by_cases hc : ((shD l).length : Int) < 4
  · have hcat : shD (l ++ [⟨f, [], [f]⟩]) = shD l ++ [.tup [.str f, .lst [], .lst [.str f]]] := by simp [shD, Sh.da]
    have z1 : (shD l).length + 1 ≤ 1000000 := by omega
    refine ⟨_, ?_, .inr ⟨_, st, rfl, near_more g (by omega) hf hfn⟩⟩
    rw [hcat]
    unfold nA at lc
    clear g n4 h hcat hsl hf hfn
    generalize strsL (l.getD k s0).fs = df at *
    generalize strsL (l.getD k s0).ls = dl at *
    generalize (l.getD k s0).n = n at *
    generalize strsL (nmS l) = dn at *
    generalize shD l = d1 at *
    generalize strsL st = d2 at *
    generalize ((k : Nat) : Int) = kk at *
    simp only [f_l_near, fb_l_near]
    walk_at "o"
  · refine ⟨_, ?_, .inl rfl⟩
    unfold nA at lc
    clear g n4 h hsl hf hfn
    generalize strsL (l.getD k s0).fs = df at *
    generalize strsL (l.getD k s0).ls = dl at *
    generalize (l.getD k s0).n = n at *
    generalize strsL (nmS l) = dn at *
    generalize shD l = d1 at *
    generalize strsL st = d2 at *
    generalize ((k : Nat) : Int) = kk at *
    simp only [f_l_near, fb_l_near]
    walk_at "o"
end
end
/-! ## BpC -/
section
open PySem PySem.Spec PyProof.Rows L2
/-! ## pages handed in as cells -/
abbrev cX (n : Nat) (i : Nat) : Da := .cell (n + 2 * i)
abbrev cY (n : Nat) (i : Nat) : Da := .cell (n + 2 * i + 1)
def hcS (l : List Sh) (i : Nat) : Sto := (List.range i).flatMap fun j => [.lst (strsL (l.getD j s0).ls), .lst (strsL (l.getD j s0).fs)]
def Cel (S : Sto) (n : Nat) (l : List Sh) : Prop := ∀ j, j < l.length → S[n + 2 * j]? = some (.lst (strsL (l.getD j s0).ls)) ∧ S[n + 2 * j + 1]? = some (.lst (strsL (l.getD j s0).fs))
section
variable {S : Sto} {l : List Sh}
theorem hcS_succ (i : Nat) : hcS l (i + 1) = (hcS l i ++ [.lst (strsL (l.getD i s0).ls)]) ++ [.lst (strsL (l.getD i s0).fs)] := by
  unfold hcS
  rw [List.range_succ, List.flatMap_append]
  simp
theorem hcS_len (i : Nat) : (hcS l i).length = 2 * i := by
  induction i with
  | zero => rfl
  | succ i ih => rw [hcS_succ, List.length_append, List.length_append, ih]; simp; omega
theorem hcS_at {i j : Nat} (h : j < i) : (S ++ hcS l i)[S.length + 2 * j]? = some (.lst (strsL (l.getD j s0).ls)) ∧ (S ++ hcS l i)[S.length + 2 * j + 1]? = some (.lst (strsL (l.getD j s0).fs)) := by
  induction i with
  | zero => omega
  | succ i ih =>
    have hl := hcS_len (l := l) i
    have e : S ++ hcS l (i + 1) = ((S ++ hcS l i) ++ [.lst (strsL (l.getD i s0).ls)]) ++ [.lst (strsL (l.getD i s0).fs)] := by rw [hcS_succ]; simp
    rw [e]
    have hz : (S ++ hcS l i).length = S.length + 2 * i := by rw [List.length_append, hl]
    by_cases hj : j < i
    · obtain ⟨a, b⟩ := ih hj
      constructor
      · rw [List.getElem?_append_left (by rw [List.length_append, hz]; simp; omega), List.getElem?_append_left (by omega)]; exact a
      · rw [List.getElem?_append_left (by rw [List.length_append, hz]; simp; omega), List.getElem?_append_left (by omega)]; exact b
    · have : j = i := by omega
      subst this
      constructor
      · rw [List.getElem?_append_left (by rw [List.length_append, hz]; simp), List.getElem?_append_right (by omega), hz]; simp
      · rw [List.getElem?_append_right (by rw [List.length_append, hz]; simp), List.length_append, hz]; simp
theorem flat_all : ∀ S : Sto, stoFlat S = S.all Da.flatC
  | [] => rfl
  | d :: S => by
    show (d.flatC && stoFlat S) = _
    rw [flat_all S]; rfl
theorem flat_appX {T : Sto} (h1 : stoFlat S = true) (h2 : ∀ d ∈ T, d.flatC = true) : stoFlat (S ++ T) = true := by
  rw [flat_all] at h1 ⊢
  rw [List.all_append, h1, Bool.true_and, List.all_eq_true]
  exact h2
theorem hcS_flat {i : Nat} : ∀ d ∈ hcS l i, d.flatC = true := fun d hd => by
  obtain ⟨j, -, hj⟩ := List.mem_flatMap.mp hd
  simp only [List.mem_cons, List.not_mem_nil, or_false] at hj
  rcases hj with rfl | rfl
  · exact flats_strs _
  · exact flats_strs _
theorem pgX_flat {X Y : Nat → Da} (hx : ∀ i, (X i).flat = true) (hy : ∀ i, (Y i).flat = true) : (Da.lst (pgX l X Y)).flatC = true := by
  show flats _ = true
  refine flats_map (fun i => Da.tup [.str (l.getD i s0).n, X i, Y i]) (fun i => ?_) _
  show ((Da.str (l.getD i s0).n).flat && ((X i).flat && ((Y i).flat && true))) = true
  rw [hx, hy]; rfl
theorem handed_okC (hz : ∀ s ∈ l, s.ls.length ≤ 1000 ∧ s.fs.length ≤ 1000) (hl : l.length ≤ 1000) : f_l_handed [.lst (shD l)] S = .ok (.fr (.lst (pgX l (cX S.length) (cY S.length)))) (S ++ hcS l l.length) := by
  obtain ⟨acc, S', e, rfl, rfl⟩ := lc_inv (fg := fgName 1) (ft := fYes) (fe := fe_l_handed_0) (σ := [some (Sx.v (.lst (shD l))), none])
    (fun i acc S' => acc = (List.range i).map (fun j => Da.tup [.str (l.getD j s0).n, cX S.length j, cY S.length j]) ∧ S' = S ++ hcS l i) (items := shD l) (n := 0) (acc := []) (S := S) ⟨rfl, by simp [hcS]⟩ (by simp; omega) (by
    rintro i d acc S1 hd ⟨rfl, rfl⟩
    obtain ⟨hi, rfl, hm⟩ := map_at (F := Sh.da) s0 hd
    obtain ⟨b1, b2⟩ := hz _ hm
    have hzz : (S ++ hcS l (0 + i)).length = S.length + 2 * i := by rw [List.length_append, hcS_len, Nat.zero_add]
    have hz2 : ((S ++ hcS l (0 + i)) ++ [Da.lst (strsL (l.getD i s0).ls)]).length = S.length + 2 * i + 1 := by rw [List.length_append, hzz]; rfl
    refine ⟨_, true, _, rfl, rfl, fun h => (by cases h), fun _ => ⟨.v (.tup [.str (l.getD i s0).n, cX S.length i, cY S.length i]), .tup [.str (l.getD i s0).n, cX S.length i, cY S.length i], ((S ++ hcS l (0 + i)) ++ [.lst (strsL (l.getD i s0).ls)]) ++ [.lst (strsL (l.getD i s0).fs)], ?_, rfl, ?_, ?_⟩⟩
    · have c1 : (strsL (l.getD i s0).ls).length ≤ 1000000 := by rw [List.length_map]; omega
      have c2 : (strsL (l.getD i s0).fs).length ≤ 1000000 := by rw [List.length_map]; omega
      unfold Sh.da
      clear hd hm hz hi b1 b2 hl
      generalize S ++ hcS l (0 + i) = T at *
      generalize strsL (l.getD i s0).ls = d1 at *
      generalize strsL (l.getD i s0).fs = d2 at *
      generalize (l.getD i s0).n = n at *
      generalize shD l = d3 at *
      simp only [fe_l_handed_0]
      obtain ⟨N, hN⟩ : ∃ N, N = S.length + 2 * i := ⟨_, rfl⟩
      show _ = Ev.ok (Rv.v (.tup [.str n, .cell (S.length + 2 * i), .cell (S.length + 2 * i + 1)])) _
      rw [← hN] at hzz hz2 ⊢
      clear hN
      simp only [e_fTup, e_fCons, e_fNil, e_fCell, e_fOp, e_fVar, e_fC, e_fCB, bd_ok, xIx, bList, Rv.rd, List.getElem?_cons_succ, List.getElem?_cons_zero, at_0, at_1, at_2, if_true, hzz, hz2, c1, c2, e_onDs, toDs_v, toDs_fr, toDs_0]
      walk_at "g"
    · rw [Nat.zero_add, List.range_succ, List.map_append]; rfl
    · rw [show 0 + i + 1 = i + 1 by omega, hcS_succ, Nat.zero_add]; simp)
  have hlen : 0 + (shD l).length = l.length := by simp
  rw [hlen] at e
  clear hz hl hlen
  generalize S ++ hcS l l.length = T at *
  generalize hp : ((List.range l.length).map fun j => Da.tup [.str (l.getD j s0).n, cX S.length j, cY S.length j]) = P at *
  generalize shD l = d1 at *
  simp only [f_l_handed, fb_l_handed]
  walk_at "g"
theorem cel_handed : Cel (S ++ hcS l l.length) S.length l := fun j hj => hcS_at hj
theorem Cel.app {n : Nat} {T : Sto} (h : Cel S n l) : Cel (S ++ T) n l := fun j hj => by
  obtain ⟨a, b⟩ := h j hj
  have h1 := (List.getElem?_eq_some_iff.mp a).1
  have h2 := (List.getElem?_eq_some_iff.mp b).1
  exact ⟨by rw [List.getElem?_append_left h1]; exact a, by rw [List.getElem?_append_left h2]; exact b⟩
theorem cel_rd {n : Nat} (h : Cel S n l) {i : Nat} (hi : i < l.length) : (Rv.v (cX n i)).rd S = .lst (strsL (l.getD i s0).ls) ∧ (Rv.v (cY n i)).rd S = .lst (strsL (l.getD i s0).fs) := ⟨gdX (h i hi).1, gdX (h i hi).2⟩
end
end
/-! ## BpH -/
section
open PySem PySem.Spec PyProof.Rows L2
section
variable {S : Sto} {l : List Sh} {st ln : List Str} {k : Nat} {f : Str}
theorem good_hz (g : GoodB l st ln) : (∀ s ∈ l, s.ls.length ≤ 1000 ∧ s.fs.length ≤ 1000) ∧ l.length ≤ 1000 := by
  have n4 := g.n4
  exact ⟨fun s hs => ⟨by have := (g.ls s hs).2.2; omega, by have := (good_le g).2 s hs; omega⟩, by omega⟩
theorem near_all (g : GoodB l st ln) (h8 : ln.length ≤ 8) (h : k < l.length) (hf : isNm f = true) (hfl : f ∉ ln) (hfn : f ∉ nmS l) {w : Int} (w0 : 0 ≤ w) (w6 : w < 6) : ∃ r, f_l_near [.lst (shD l), .lst (strsL st), .int w, .int (k : Nat), .str f] S = .ok r S ∧ NearR l st r := by
  have : w = 0 ∨ w = 1 ∨ w = 2 ∨ w = 3 ∨ w = 4 ∨ w = 5 := by omega
  rcases this with rfl | rfl | rfl | rfl | rfl | rfl
  · exact near_0 g h8 h hf hfl
  · exact near_1 g h
  · exact near_2 g h
  · exact near_3 g h hf hfn
  · exact near_4 g h
  · exact near_5 g h hf hfn
theorem unlike_b {w : Int} {x6 x7 : Option Sx} (hS : stoFlat S = true) (g : GoodB l st ln) (h8 : ln.length ≤ 8) (h : k < l.length) (hf : isNm f = true) (hfl : f ∉ ln) (hfn : f ∉ nmS l) (w0 : 0 ≤ w) (w6 : w < 6) :
    ∃ y6 y7 S', fl_l_unlike_0 [some (.v (bkO l st)), some (.v (.lst (shD l))), some (.v (.lst (strsL st))), some (.v (.int (k : Nat))), some (.v (.str f)), some (.v (.int w)), x6, x7] S
      = .nx [some (.v (bkO l st)), some (.v (.lst (shD l))), some (.v (.lst (strsL st))), some (.v (.int (k : Nat))), some (.v (.str f)), some (.v (.int w)), y6, y7] S' ∧ stoFlat S' = true := by
  obtain ⟨r, e, rfl | ⟨l', st', rfl, ⟨ln', g'⟩, q1, q2⟩⟩ := near_all (S := S) g h8 h hf hfl hfn w0 w6
  · refine ⟨some (.v .non), x7, S, ?_, hS⟩
    clear hS g h8 h hf hfl hfn w0 w6
    generalize bkO l st = b at *
    generalize shD l = d1 at *
    generalize strsL st = d2 at *
    generalize ((k : Nat) : Int) = kk at *
    simp only [fl_l_unlike_0]
    walk_at "g"
  · obtain ⟨z1, z2⟩ := good_hz g'
    have hf1 : stoFlat (S ++ hcS l' l'.length) = true := flat_appX hS hcS_flat
    have e1 := handed_okC (S := S) z1 z2
    have hc := cel_handed (S := S) (l := l')
    have e2 := make_rd (S := S ++ hcS l' l'.length) (d1 := .lst (pgX l' (cX S.length) (cY S.length))) (d2 := .lst (strsL st')) g' hf1 rfl rfl (fun i hi => (cel_rd hc hi).1) (fun i hi => (cel_rd hc hi).2)
    have e3 := shows_ok (S := S ++ hcS l' l'.length) g'
    have e4 := book_cmp (S := S ++ hcS l' l'.length) g g'
    have e5 := book_cmp (S := S ++ hcS l' l'.length) g' g
    rw [q1] at e4
    rw [q2] at e5
    have e6 := same_ok (x := .bl false) (S := S ++ hcS l' l'.length) rfl
    have z3 : (strsL st').length ≤ 1000000 := by have := (good_le g').1; rw [List.length_map]; omega
    have hb1 : ∃ ds, bkO l st = .obj "Book" ["names", "starts", "page_lines", "page_followers"] ds := ⟨_, rfl⟩
    have hb2 : ∃ ds, bkO l' st' = .obj "Book" ["names", "starts", "page_lines", "page_followers"] ds := ⟨_, rfl⟩
    obtain ⟨b1, hb1⟩ := hb1
    obtain ⟨b2, hb2⟩ := hb2
    refine ⟨some (.v (.tup [.lst (shD l'), .lst (strsL st')])), some (.v (bkO l' st')), S ++ hcS l' l'.length, ?_, hf1⟩
    rw [hb1] at e4 e5 ⊢
    rw [hb2] at e2 e3 e4 e5 ⊢
    clear hS g h8 h hf hfl hfn w0 w6 g' q1 q2 z1 z2 hf1 hc hb1 hb2
    generalize S ++ hcS l' l'.length = T at *
    generalize pgX l' (cX S.length) (cY S.length) = pg at *
    generalize shD l = d1 at *
    generalize strsL st = d2 at *
    generalize shD l' = d3 at *
    generalize strsL st' = d4 at *
    generalize ((k : Nat) : Int) = kk at *
    simp only [fl_l_unlike_0]
    walk_at "g"
theorem unlike_ok (hS : stoFlat S = true) (g : GoodB l st ln) (h8 : ln.length ≤ 8) (h : k < l.length) (hf : isNm f = true) (hfl : f ∉ ln) (hfn : f ∉ nmS l) :
    ∃ S', f_l_unlike [bkO l st, .lst (shD l), .lst (strsL st), .int (k : Nat), .str f] S = .ok (.v (.bl true)) S' ∧ stoFlat S' = true := by
  obtain ⟨σ', S', e, hS', x5, x6, x7, rfl⟩ := for_inv (fg := fgName 5) (fb := fl_l_unlike_0) (fun i σ S' => stoFlat S' = true ∧ ∃ x5 x6 x7, σ = [some (.v (bkO l st)), some (.v (.lst (shD l))), some (.v (.lst (strsL st))), some (.v (.int (k : Nat))), some (.v (.str f)), x5, x6, x7])
    (items := rgD 6) (n := 0) (σ := [some (.v (bkO l st)), some (.v (.lst (shD l))), some (.v (.lst (strsL st))), some (.v (.int (k : Nat))), some (.v (.str f)), none, none, none]) (S := S) ⟨hS, _, _, _, rfl⟩ (by
    rintro i d σ S1 hd ⟨hS1, x5, x6, x7, rfl⟩
    obtain ⟨rfl, hi⟩ := rgD_at hd
    obtain ⟨y6, y7, S2, e, hS2⟩ := unlike_b (w := (i : Nat)) (x6 := x6) (x7 := x7) hS1 g h8 h hf hfl hfn (by omega) (by omega)
    exact ⟨_, _, S2, rfl, .inl e, hS2, _, _, _, rfl⟩)
  refine ⟨S', ?_, hS'⟩
  clear hS g h8 h hf hfl hfn hS'
  generalize bkO l st = b at *
  generalize shD l = d1 at *
  generalize strsL st = d2 at *
  generalize ((k : Nat) : Int) = kk at *
  simp only [f_l_unlike, fb_l_unlike]
  walk_at "g"
/-! ## the twin -/
def tw (s : Sh) : Sh := ⟨s.n, s.ls, s.fs.reverse⟩
theorem ixs_rev (ns cs : List Str) : ixs ns cs.reverse = ixs ns cs := by
  unfold ixs
  simp only [List.mem_reverse]
theorem ixD_rev (ns cs : List Str) : ixD ns cs.reverse = ixD ns cs := by
  show (ixs ns cs.reverse).map _ = _
  rw [ixs_rev]
theorem twin_nm : nmS (l.map tw) = nmS l := by simp [nmS, tw, Function.comp_def]
theorem twin_bk : bkO (l.map tw) st.reverse = bkO l st := by
  rw [bk_eq, bk_eq, twin_nm, ixD_rev]
  simp only [List.map_map]
  have e1 : ((fun s => Da.tup (strsL s.ls)) ∘ tw) = fun s : Sh => Da.tup (strsL s.ls) := rfl
  have e2 : ((fun s => Da.tup (ixD (nmS l) s.fs)) ∘ tw) = fun s : Sh => Da.tup (ixD (nmS l) s.fs) := by
    funext s
    show Da.tup (ixD (nmS l) s.fs.reverse) = _
    rw [ixD_rev]
  rw [e1, e2]
theorem twin_good (g : GoodB l st ln) : GoodB (l.map tw) st.reverse ln := by
  refine ⟨by rw [List.length_map]; exact g.n1, by rw [List.length_map]; exact g.n4, by rw [twin_nm]; exact g.nn, by rw [twin_nm]; exact g.nd, g.ll, g.lw, g.lnd, fun s hs => ?_, fun s hs => ?_, ?_, ?_, ?_⟩
  · obtain ⟨s', hs', rfl⟩ := List.mem_map.mp hs
    exact g.ls s' hs'
  · obtain ⟨s', hs', rfl⟩ := List.mem_map.mp hs
    obtain ⟨b1, b2, b3⟩ := g.fs s' hs'
    rw [twin_nm]
    exact ⟨fun w hw => b1 w (List.mem_reverse.mp hw), (List.reverse_perm _).nodup_iff.mpr b2, by show s'.fs.reverse ≠ []; simpa using b3⟩
  · rw [twin_nm]; exact fun w hw => g.ss.1 w (List.mem_reverse.mp hw)
  · exact (List.reverse_perm _).nodup_iff.mpr g.ss.2.1
  · simpa using g.ss.2.2
theorem shD_pg : shD l = pgX l (fun i => .lst (strsL (l.getD i s0).ls)) (fun i => .lst (strsL (l.getD i s0).fs)) := by
  refine List.ext_getElem (by simp) fun i h1 h2 => ?_
  have hi : i < l.length := by simpa using h1
  simp [shD, Sh.da, List.getD_eq_getElem?_getD, hi]
theorem make_lst (g : GoodB l st ln) (hf : stoFlat S = true) : f_Book___init__ [.lst (shD l), .lst (strsL st)] S = .ok (bkO l st) S :=
  make_rd (X := fun i => .lst (strsL (l.getD i s0).ls)) (Y := fun i => .lst (strsL (l.getD i s0).fs)) g hf (by rw [shD_pg]; rfl) rfl (fun _ _ => rfl) (fun _ _ => rfl)
end
end
/-! ## BkW -/
section
open PySem PySem.Spec PyProof.Rows L2
section
variable {p : Nat} {S : Sto}
theorem at_last (ts : List Str) (t : Str) : atI (strsL (ts ++ [t])) (-1) = some (.str t) := by
  have e : ixN (strsL (ts ++ [t])).length (-1) = some ts.length := by
    simp [ixN]
    omega
  simp only [atI, e]
  simp
/-- a name with one letter other -/
theorem near_nm {s : Str} {c : Nat} {i : Int} (hs : isNm s = true) (hc : isL c = true) (i0 : 0 ≤ i) (i1 : i < s.length) : isNm (cutS s none (some i) ++ ⟨#[c]⟩ ++ cutS s (some (i + 1)) none) = true := by
  obtain ⟨h1, h2, h3⟩ := nm_pos hs
  have e : ch (cutS s none (some i) ++ ⟨#[c]⟩ ++ cutS s (some (i + 1)) none) = (ch s).take i.toNat ++ [c] ++ (ch s).drop (i + 1).toNat := by
    rw [ch_app, ch_app, ch_to _ i0, ch_from _ (by omega)]; rfl
  have hl := ch_len s
  refine nm_of ?_ ?_ ?_
  · rw [ch_len, e]; simp; omega
  · rw [ch_len, e]; simp; omega
  · intro x hx
    rw [e] at hx
    simp only [List.mem_append, List.mem_singleton] at hx
    rcases hx with (hx | rfl) | hx
    · exact h3 x (List.mem_of_mem_take hx)
    · exact hc
    · exact h3 x (List.mem_of_mem_drop hx)
theorem lt_idx : ∀ k, k < 26 → (ch LT)[k]? = some (97 + k) := by decide +kernel
theorem lt_find : ∀ k, k < 26 → Txt.find LT ⟨#[97 + k]⟩ = (k : Int) := by decide +kernel
theorem lt_of_isL {c : Nat} (h : isL c = true) : ∃ k, k < 26 ∧ c = 97 + k := by
  have hm : c ∈ ch LT := of_decide_eq_true h
  obtain ⟨k, hk, e⟩ := List.getElem_of_mem hm
  rw [lt_len] at hk
  have := lt_idx k hk
  rw [List.getElem?_eq_getElem (by rw [lt_len]; exact hk), e] at this
  exact ⟨k, hk, Option.some.inj this⟩
theorem isL_idx {k : Nat} (h : k < 26) : isL (97 + k) = true := decide_eq_true (List.mem_of_getElem? (lt_idx k h))
/-- the word whose first letter is turned j times -/
def rotW (a : Nat) (r : List Nat) (j : Nat) : Str := ⟨((97 + (a + j) % 26) :: r).toArray⟩
theorem rot_nm {a j : Nat} {r : List Nat} (hr : ∀ c ∈ r, isL c = true) (hl : r.length ≤ 7) : isNm (rotW a r j) = true := by
  have e : ch (rotW a r j) = (97 + (a + j) % 26) :: r := ch_mk _
  refine nm_of (by rw [ch_len, e]; simp) (by rw [ch_len, e]; simp; omega) fun c hc => ?_
  rw [e] at hc
  rcases List.mem_cons.mp hc with rfl | hc
  · exact isL_idx (Nat.mod_lt _ (by decide))
  · exact hr c hc
theorem rot_of {w : Str} (h : isNm w = true) : ∃ a r, w = rotW a r 0 ∧ (∀ c ∈ r, isL c = true) ∧ r.length ≤ 7 := by
  obtain ⟨h1, h2, h3⟩ := nm_pos h
  rw [ch_len] at h1 h2
  cases e : ch w with
  | nil => rw [e] at h1; simp at h1
  | cons c r =>
    rw [e] at h2 h3
    obtain ⟨k, hk, rfl⟩ := lt_of_isL (h3 c (by simp))
    refine ⟨k, r, ch_ext ?_, fun x hx => h3 x (List.mem_cons_of_mem _ hx), by simp at h2; omega⟩
    rw [e]
    show _ = (97 + (k + 0) % 26) :: r
    rw [Nat.add_zero, Nat.mod_eq_of_lt hk]
theorem rot_b {ts : List Str} {a j : Nat} {r : List Nat} {x7 x8 : Option Sx} {c w z : Int} (hr : ∀ c ∈ r, isL c = true) (hl : r.length ≤ 7) :
    fl_l_word_1 [some (.v (.cell p)), some (.v (.lst (strsL ts))), some (.v (.str LT)), some (.v (.int c)), some (.v (.int w)), some (.v (.int z)), some (.v (.str (rotW a r j))), x7, x8] S
      = .nx [some (.v (.cell p)), some (.v (.lst (strsL ts))), some (.v (.str LT)), some (.v (.int c)), some (.v (.int w)), some (.v (.int z)), some (.v (.str (if rotW a r j ∈ ts then rotW a r (j + 1) else rotW a r j))), x7, x8] S := by
  have hi1 := svs_str ts
  have hi2 := flat_str ts
  have hi3 := inV_str (rotW a r j) ts
  have hi4 : ∀ z, flatV (.str z) = true := fun _ => rfl
  have hk : (a + j) % 26 < 26 := Nat.mod_lt _ (by decide)
  have e0 : atI (rotW a r j).cps.toList 0 = some (97 + (a + j) % 26) := at_0
  have ef := lt_find _ hk
  have hz : LT.length ≤ 1000000 := by decide +kernel
  have e1 : atI LT.cps.toList ((((a + j) % 26 : Nat) : Int) + 1) = atI LT.cps.toList ((((a + j) % 26 : Nat) : Int) + 1) := rfl
  have em : ((((a + j) % 26 : Nat) : Int) + 1) % 26 = (((a + (j + 1)) % 26 : Nat) : Int) := by omega
  have e2 : atI LT.cps.toList (((a + (j + 1)) % 26 : Nat) : Int) = some (97 + (a + (j + 1)) % 26) := at_nat (lt_idx _ (Nat.mod_lt _ (by decide)))
  have hw : (rotW a r j).length ≤ 1000000 := by rw [ch_len]; show ((97 + (a + j) % 26) :: r).length ≤ _; simp; omega
  have hc : (⟨#[97 + (a + (j + 1)) % 26]⟩ : Str) ++ cutS (rotW a r j) (some 1) none = rotW a r (j + 1) := ch_ext (by rw [ch_app, ch_from _ (by decide), ch_one]; rfl)
  have hcl : (⟨#[97 + (a + (j + 1)) % 26]⟩ : Str).length + (cutS (rotW a r j) (some 1) none).length ≤ 1000000 := by
    show 1 + _ ≤ _
    rw [ch_len, ch_from _ (by decide), List.length_drop, ← ch_len]; omega
  clear e1 hr hl hk
  by_cases hm : rotW a r j ∈ ts
  · rw [decide_eq_true hm] at hi3
    rw [if_pos hm]
    clear hm
    generalize strsL ts = dl at *
    generalize (a + j) % 26 = k at *
    generalize (a + (j + 1)) % 26 = k' at *
    generalize rotW a r j = W at *
    generalize rotW a r (j + 1) = W' at *
    simp only [fl_l_word_1]
    walk_at "g"
  · rw [decide_eq_false hm] at hi3
    rw [if_neg hm]
    clear hm hc hcl
    generalize strsL ts = dl at *
    generalize (a + j) % 26 = k at *
    generalize (a + (j + 1)) % 26 = k' at *
    generalize rotW a r j = W at *
    simp only [fl_l_word_1]
    walk_at "g"
theorem rot_ok {ts : List Str} {w : Str} {x7 x8 : Option Sx} {c v z : Int} (hw : isNm w = true) :
    ∃ (w' : Str) (y7 : Option Sx), foldFor (fgName 7) fl_l_word_1 (rgD 26) [some (.v (.cell p)), some (.v (.lst (strsL ts))), some (.v (.str LT)), some (.v (.int c)), some (.v (.int v)), some (.v (.int z)), some (.v (.str w)), x7, x8] S
      = .nx [some (.v (.cell p)), some (.v (.lst (strsL ts))), some (.v (.str LT)), some (.v (.int c)), some (.v (.int v)), some (.v (.int z)), some (.v (.str w')), y7, x8] S ∧ isNm w' = true ∧ (ts.length ≤ 25 → w' ∉ ts) := by
  obtain ⟨a, r, rfl, hr, hl⟩ := rot_of hw
  obtain ⟨σ', S', e, rfl, j, y7, rfl, h1, h2⟩ := for_in (fg := fgName 7) (fb := fl_l_word_1)
    (fun i σ S' => S' = S ∧ ∃ (j : Nat) (y7 : Option Sx), σ = [some (.v (.cell p)), some (.v (.lst (strsL ts))), some (.v (.str LT)), some (.v (.int c)), some (.v (.int v)), some (.v (.int z)), some (.v (.str (rotW a r j))), y7, x8] ∧ (∀ j', j' < j → rotW a r j' ∈ ts) ∧ (j = i ∨ rotW a r j ∉ ts))
    (items := rgD 26) (σ := [some (.v (.cell p)), some (.v (.lst (strsL ts))), some (.v (.str LT)), some (.v (.int c)), some (.v (.int v)), some (.v (.int z)), some (.v (.str (rotW a r 0))), x7, x8]) (S := S) ⟨rfl, 0, x7, rfl, fun _ h => by omega, .inl rfl⟩ (by
    rintro i d σ S1 hd ⟨rfl, j, y7, rfl, h1, h2⟩
    have e := rot_b (p := p) (S := S1) (ts := ts) (a := a) (j := j) (x7 := some (.v d)) (x8 := x8) (c := c) (w := v) (z := z) hr hl
    by_cases hm : rotW a r j ∈ ts
    · rw [if_pos hm] at e
      refine ⟨_, rfl, nx_of e ⟨rfl, j + 1, _, rfl, fun j' hj => ?_, ?_⟩⟩
      · by_cases h : j' = j
        · rw [h]; exact hm
        · exact h1 j' (by omega)
      · rcases h2 with h2 | h2
        · exact .inl (by rw [h2])
        · exact absurd hm h2
    · rw [if_neg hm] at e
      exact ⟨_, rfl, nx_of e ⟨rfl, j, _, rfl, h1, .inr hm⟩⟩)
  rw [rgD_len] at h2
  refine ⟨rotW a r j, y7, e, rot_nm hr hl, fun hts hm => ?_⟩
  rcases h2 with h2 | h2
  · obtain ⟨c0, hc0, hc1⟩ := spare_some (r := r) (ts := ts) lt_nodup (by rw [lt_len]; omega)
    obtain ⟨k, hk, rfl⟩ := lt_of_isL (decide_eq_true hc0)
    refine hc1 ?_
    have h3 := h1 ((k + 26 - a % 26) % 26) (by rw [h2]; exact Nat.mod_lt _ (by decide))
    unfold rotW at h3
    rw [show (a + (k + 26 - a % 26) % 26) % 26 = k by omega] at h3
    exact h3
  · exact h2 hm
/-- letters one behind the other -/
theorem grow_ok {ts : List Str} {x7 x8 : Option Sx} {c v z : Int} (hc : 0 ≤ c) (z0 : 1 ≤ z) (z8 : z ≤ 8) :
    ∃ (w : Str) (c' : Int) (y7 : Option Sx), foldFor (fgName 7) fl_l_word_0 (rgD z) [some (.v (.cell p)), some (.v (.lst (strsL ts))), some (.v (.str LT)), some (.v (.int c)), some (.v (.int v)), some (.v (.int z)), some (.v (.str (("" : String) : Str))), x7, x8] S
      = .nx [some (.v (.cell p)), some (.v (.lst (strsL ts))), some (.v (.str LT)), some (.v (.int c')), some (.v (.int v)), some (.v (.int z)), some (.v (.str w)), y7, x8] S ∧ isNm w = true := by
  obtain ⟨σ', S', e, rfl, w, c', y7, rfl, hw1, hw2, hc'⟩ := for_in (fg := fgName 7) (fb := fl_l_word_0)
    (fun i σ S' => S' = S ∧ ∃ (w : Str) (c' : Int) (y7 : Option Sx), σ = [some (.v (.cell p)), some (.v (.lst (strsL ts))), some (.v (.str LT)), some (.v (.int c')), some (.v (.int v)), some (.v (.int z)), some (.v (.str w)), y7, x8] ∧ w.length = i ∧ (∀ x ∈ ch w, isL x = true) ∧ 0 ≤ c')
    (items := rgD z) (σ := [some (.v (.cell p)), some (.v (.lst (strsL ts))), some (.v (.str LT)), some (.v (.int c)), some (.v (.int v)), some (.v (.int z)), some (.v (.str (("" : String) : Str))), x7, x8]) (S := S) ⟨rfl, _, c, x7, rfl, by rw [empty_lit]; rfl, (by rw [empty_lit]; intro x hx; cases hx), hc⟩ (by
    rintro i d σ S1 hd ⟨rfl, w, c', y7, rfl, hw1, hw2, hc'⟩
    obtain ⟨rfl, hi⟩ := rgD_at hd
    obtain ⟨x, ex, hx⟩ := lt_at (i := c' % 26) (Int.emod_nonneg _ (by decide)) (Int.emod_lt_of_pos _ (by decide))
    have ex' : atI LT.cps.toList (c' % 26) = some x := ex
    have hz : LT.length ≤ 1000000 := by decide +kernel
    have hl : w.length + (⟨#[x]⟩ : Str).length ≤ 1000000 := by show _ + 1 ≤ _; omega
    refine ⟨_, rfl, nx_of (σ := [some (.v (.cell p)), some (.v (.lst (strsL ts))), some (.v (.str LT)), some (.v (.int (c' / 26))), some (.v (.int v)), some (.v (.int z)), some (.v (.str (w ++ ⟨#[x]⟩))), some (.v (.int (i : Nat))), x8]) (S := S1) ?_ ⟨rfl, w ++ ⟨#[x]⟩, c' / 26, _, rfl, ?_, fun y hy => ?_, Int.ediv_nonneg hc' (by decide)⟩⟩
    · clear hw1 hw2 hd hi
      generalize strsL ts = dl at *
      simp only [fl_l_word_0]
      walk_at "g"
    · rw [ch_len, ch_app, List.length_append, ← ch_len, hw1]; rfl
    · rw [ch_app, ch_one] at hy
      rcases List.mem_append.mp hy with h | h
      · exact hw2 y h
      · simp at h; subst h; exact hx)
  rw [rgD_len] at hw1
  exact ⟨w, c', y7, e, nm_of (by omega) (by omega) hw2⟩
theorem word_ok {ts : List Str} (hp : Px p S) (ht : ∀ t ∈ ts, OkT t) (hl : ts = [] ∨ ∃ us t, ts = us ++ [t] ∧ isNm t = true) :
    ∃ s S', f_l_word [.cell p, .lst (strsL ts)] S = .ok (.v (.str s)) S' ∧ isNm s = true ∧ (ts.length ≤ 25 → s ∉ ts) ∧ Px p S' ∧ Pt p S S' := by
  obtain ⟨c, S1, e1, c0, c1, p1, q1⟩ := take_ok hp (m := 5011849549824) (by decide) (by decide)
  have hz : LT.length ≤ 1000000 := by decide +kernel
  have hh : LT = (("abcdefghijklmnopqrstuvwxyz" : String) : Str) := rfl
  have hLc : LT.cps.toList = ch LT := rfl
  by_cases hc : c % 3 = 0 ∧ ts ≠ []
  · obtain ⟨hc3, hne⟩ := hc
    rcases hl with hl | ⟨us, w, hus, hw⟩
    · exact absurd hl hne
    have hat := at_last us w
    rw [← hus] at hat
    obtain ⟨h1, h2, h3⟩ := nm_pos hw
    have hwl : (w.length : Int) ≠ 0 := by omega
    have i0 := Int.emod_nonneg (1 + c / 3 % 8) hwl
    have i1 := Int.emod_lt_of_pos (1 + c / 3 % 8) (show (0 : Int) < w.length by omega)
    obtain ⟨x, ex, hx⟩ := lt_at (i := c / 24 % 26) (Int.emod_nonneg _ (by decide)) (Int.emod_lt_of_pos _ (by decide))
    rw [← hLc] at ex
    have hnn := near_nm hw hx i0 i1
    have heq := eqD_ne (d := .lst (strsL ts)) (e := .lst []) (r1 := .v (.lst (strsL ts))) (r2 := .fr (.lst [])) (S := S1) 1 true (by decide) (okT_lst ht 0) rfl (fun z => hne (by injection z with z; exact List.map_eq_nil_iff.mp z)) rfl rfl
    obtain ⟨w', y7, e2, g1, g2⟩ := rot_ok (p := p) (S := S1) (ts := ts) (x7 := none) (x8 := some (.v (.int ((1 + c / 3 % 8) % w.length)))) (c := c / 24) (v := c % 3) (z := 1 + c / 3 % 8) hnn
    rw [hc3] at e2
    have hwz : w.length ≤ 1000000 := by omega
    have hwb : (0 : Int) < w.length ∧ (w.length : Int) < 4611686018427387904 := by omega
    generalize hiv : (1 + c / 3 % 8) % (w.length : Int) = iv at *
    have l1 : (cutS w none (some iv)).length ≤ 8 := by rw [ch_len, ch_to _ i0, List.length_take, ← ch_len]; omega
    have l2 : (cutS w (some (iv + 1)) none).length ≤ 8 := by rw [ch_len, ch_from _ (by omega), List.length_drop, ← ch_len]; omega
    have l3 : (cutS w none (some iv)).length + (⟨#[x]⟩ : Str).length ≤ 1000000 := by show _ + 1 ≤ _; omega
    have l4 : (cutS w none (some iv) ++ ⟨#[x]⟩).length = (cutS w none (some iv)).length + 1 := by rw [ch_len, ch_app, List.length_append, ← ch_len]; rfl
    have l5 : (cutS w none (some iv) ++ ⟨#[x]⟩).length + (cutS w (some (iv + 1)) none).length ≤ 1000000 := by omega
    refine ⟨w', S1, ?_, g1, g2, p1, q1⟩
    rw [hh] at e2 ex hz
    clear l1 l2 l4 hLc hh hne hus ht hw h1 h2 h3 hnn i0 i1 g1 g2 p1 q1 hp hx
    generalize strsL ts = dl at *
    simp only [f_l_word, fb_l_word]
    walk_at "g"
  · obtain ⟨w, c', y7, e2, hw⟩ := grow_ok (p := p) (S := S1) (ts := ts) (x7 := none) (x8 := none) (c := c / 24) (v := c % 3) (z := 1 + c / 3 % 8) (by omega) (by omega) (by omega)
    obtain ⟨w', y8, e3, g1, g2⟩ := rot_ok (p := p) (S := S1) (ts := ts) (x7 := y7) (x8 := none) (c := c') (v := c % 3) (z := 1 + c / 3 % 8) hw
    refine ⟨w', S1, ?_, g1, g2, p1, q1⟩
    rw [hh] at e2 e3 hz
    have hzb : -4611686018427387904 ≤ 1 + c / 3 % 8 ∧ 1 + c / 3 % 8 < 4611686018427387904 := by omega
    by_cases hc3 : c % 3 = 0
    · have hts : ts = [] := Classical.byContradiction fun z => hc ⟨hc3, z⟩
      subst hts
      have heq := eqD_same (d := .lst []) (r1 := .v (.lst [])) (r2 := .fr (.lst [])) (S := S1) 1 true (by decide) rfl rfl rfl
      rw [hc3] at e2 e3
      simp only [strsL, List.map_nil] at *
      clear hLc hh hc hw g1 g2 p1 q1 hp ht hl
      simp only [f_l_word, fb_l_word]
      walk_at "g"
    · clear hLc hh hc hw g1 g2 p1 q1 hp ht hl
      generalize strsL ts = dl at *
      simp only [f_l_word, fb_l_word]
      walk_at "g"
end
end
/-! ## BkS -/
section
open PySem PySem.Spec PyProof.Rows L2
section
variable {p : Nat} {S : Sto}
theorem snoc_or {α : Type} (l : List α) : l = [] ∨ ∃ us t, l = us ++ [t] := by
  rcases List.eq_nil_or_concat l with h | ⟨us, t, h⟩
  · exact .inl h
  · exact .inr ⟨us, t, by rw [h]; simp⟩
theorem last_nm {ts : List Str} (h : ∀ t ∈ ts, isNm t = true) : ts = [] ∨ ∃ us t, ts = us ++ [t] ∧ isNm t = true := by
  rcases snoc_or ts with h1 | ⟨us, t, h1⟩
  · exact .inl h1
  · exact .inr ⟨us, t, h1, h t (by rw [h1]; simp)⟩
theorem words_ok {m : Int} (hp : Px p S) (hN : stoNoL S = true) (m0 : 0 ≤ m) (m1 : m ≤ 8) : ∃ (ws : List Str) (S' : Sto), f_l_words [.cell p, .int m] S = .ok (.fr (.lst (strsL ws))) S' ∧ ws.length = m.toNat ∧ (∀ w ∈ ws, isNm w = true) ∧ ws.Nodup ∧ Px p S' ∧ Pt p S S' := by
  obtain ⟨σ', S', e, p', t', ws, y3, rfl, hl, hw, hd⟩ := for_in (fg := fgName 3) (fb := fl_l_words_0)
    (fun i σ S' => Px p S' ∧ Pt p S S' ∧ ∃ (ws : List Str) (x3 : Option Sx), σ = [some (.v (.cell p)), some (.v (.int m)), some (.own (.lst (strsL ws)) false), x3] ∧ ws.length = i ∧ (∀ w ∈ ws, isNm w = true) ∧ ws.Nodup)
    (items := rgD m) (σ := [some (.v (.cell p)), some (.v (.int m)), some (.own (.lst []) false), none]) (S := S) ⟨hp, Pt.refl _ _, [], none, rfl, rfl, by simp, by simp⟩ (by
    rintro i d σ S1 hd ⟨p1, q1, ws, x3, rfl, hl, hw, hnd⟩
    obtain ⟨rfl, hi⟩ := rgD_at hd
    obtain ⟨t, S2, e2, t1, t2, p2, q2⟩ := word_ok p1 (fun t ht => okT_nm (hw t ht)) (last_nm hw)
    have hN2 := nol_pt hN (q1.trans q2) p2
    have hll : (strsL ws).length < 1000000 := by simp; omega
    have app : strsL (ws ++ [t]) = strsL ws ++ [.str t] := by simp
    refine ⟨_, rfl, nx_of (σ := [some (.v (.cell p)), some (.v (.int m)), some (.own (.lst (strsL (ws ++ [t]))) false), some (.v (.int (i : Nat)))]) (S := S2) ?_ ⟨p2, q1.trans q2, ws ++ [t], _, rfl, by simp; omega, fun w h => ?_, ?_⟩⟩
    · rw [app]
      clear hw hnd p1 q1 p2 q2 t1 t2 app hN hd
      generalize strsL ws = dl at *
      simp only [fl_l_words_0]
      walk_at "g"
    · rcases List.mem_append.mp h with h | h
      · exact hw w h
      · simp at h; subst h; exact t1
    · rw [List.nodup_append]
      exact ⟨hnd, by simp, fun a ha b hb => by simp at hb; subst hb; intro z; subst z; exact t2 (by omega) ha⟩)
  rw [rgD_len] at hl
  refine ⟨ws, S', ?_, hl, hw, hd, p', t'⟩
  have mb : -4611686018427387904 ≤ m ∧ m < 4611686018427387904 := by omega
  clear hw hd hN hl
  generalize strsL ws = dl at *
  simp only [f_l_words, fb_l_words]
  walk_at "g"
theorem some_b {ns left chosen : List Str} {a b c n : Int} {x8 x9 : Option Sx} (hc : 0 ≤ c) (hl : 1 ≤ left.length) (hl2 : left.length ≤ 1000) (hl3 : chosen.length ≤ 1000) :
    ∃ (j : Nat) (hj : j < left.length), fl_l_some_0 [some (.v (.cell p)), some (.v (.lst (strsL ns))), some (.v (.int a)), some (.v (.int b)), some (.v (.int c)), some (.v (.int n)), some (.v (.lst (strsL left))), some (.own (.lst (strsL chosen)) false), x8, x9] S
      = .nx [some (.v (.cell p)), some (.v (.lst (strsL ns))), some (.v (.int a)), some (.v (.int b)), some (.v (.int (c / left.length))), some (.v (.int n)), some (.v (.lst (strsL (left.take j ++ left.drop (j + 1))))), some (.own (.lst (strsL (chosen ++ [left[j]]))) false), x8, some (.v (.int j))] S := by
  have i0 := Int.emod_nonneg c (show (left.length : Int) ≠ 0 by omega)
  have i1 := Int.emod_lt_of_pos c (show (0 : Int) < left.length by omega)
  have hj : (c % left.length).toNat < left.length := by omega
  refine ⟨(c % left.length).toNat, hj, ?_⟩
  have ej : ((((c % left.length).toNat : Nat)) : Int) = c % left.length := Int.toNat_of_nonneg i0
  have hlen : (strsL left).length = left.length := List.length_map _
  have hlc : (strsL chosen).length < 1000000 := by simp; omega
  have hlb : (0 : Int) < (left.length : Int) ∧ (left.length : Int) < 4611686018427387904 := by omega
  have hat := strs_at (ws := left) hj
  rw [ej] at hat
  have c1 : cutG (strsL left) none (some (c % left.length)) = strsL (left.take (c % left.length).toNat) := by rw [cut_take i0]; simp only [strsL, List.map_take]
  have c2 : cutG (strsL left) (some (c % left.length + 1)) none = strsL (left.drop ((c % left.length).toNat + 1)) := by rw [cut_drop (by omega), show (c % left.length + 1).toNat = (c % left.length).toNat + 1 by omega]; simp only [strsL, List.map_drop]
  have l1 : (strsL (left.take (c % left.length).toNat)).length + (strsL (left.drop ((c % left.length).toNat + 1))).length ≤ 1000000 := by simp; omega
  have a1 : strsL (left.take (c % left.length).toNat ++ left.drop ((c % left.length).toNat + 1)) = strsL (left.take (c % left.length).toNat) ++ strsL (left.drop ((c % left.length).toNat + 1)) := List.map_append
  have a2 : strsL (chosen ++ [left[(c % left.length).toNat]]) = strsL chosen ++ [.str left[(c % left.length).toNat]] := by simp
  rw [a1, a2, ej]
  generalize left[(c % left.length).toNat] = w at *
  clear a1 a2 hj ej i0 i1
  generalize strsL (left.take (c % left.length).toNat) = d1 at *
  generalize strsL (left.drop ((c % left.length).toNat + 1)) = d2 at *
  generalize strsL chosen = d3 at *
  generalize strsL left = d4 at *
  simp only [fl_l_some_0]
  walk_at "g"
theorem some_ok {ns : List Str} {a b : Int} (hp : Px p S) (h0 : 0 ≤ a) (h1 : a ≤ b) (h2 : b ≤ ns.length) (hn : ns.length ≤ 1000) :
    ∃ (ws : List Str) (S' : Sto), f_l_some [.cell p, .lst (strsL ns), .int a, .int b] S = .ok (.fr (.lst (strsL ws))) S' ∧ a ≤ ws.length ∧ ws.length ≤ b ∧ (∃ left, (ws ++ left).Perm ns) ∧ Px p S' ∧ Pt p S S' := by
  obtain ⟨c, S1, e1, c0, c1, p1, q1⟩ := take_ok hp (m := 1000000000) (by decide) (by decide)
  have k0 := Int.emod_nonneg c (show b - a + 1 ≠ 0 by omega)
  have k1 := Int.emod_lt_of_pos c (show 0 < b - a + 1 by omega)
  have d0 := Int.ediv_nonneg c0 (show 0 ≤ b - a + 1 by omega)
  have hb : 0 < b - a + 1 ∧ b - a + 1 < 4611686018427387904 := by omega
  generalize hk : c % (b - a + 1) = k at *
  generalize hd : c / (b - a + 1) = d at *
  obtain ⟨σ', S', e, rfl, left, ws, c', x8, x9, rfl, hc', hpm, hl⟩ := for_in (fg := fgName 8) (fb := fl_l_some_0)
    (fun i σ S' => S' = S1 ∧ ∃ (left ws : List Str) (c' : Int) (x8 x9 : Option Sx), σ = [some (.v (.cell p)), some (.v (.lst (strsL ns))), some (.v (.int a)), some (.v (.int b)), some (.v (.int c')), some (.v (.int (a + k))), some (.v (.lst (strsL left))), some (.own (.lst (strsL ws)) false), x8, x9] ∧ 0 ≤ c' ∧ (ws ++ left).Perm ns ∧ ws.length = i)
    (items := rgD (a + k)) (σ := [some (.v (.cell p)), some (.v (.lst (strsL ns))), some (.v (.int a)), some (.v (.int b)), some (.v (.int d)), some (.v (.int (a + k))), some (.v (.lst (strsL ns))), some (.own (.lst []) false), none, none]) (S := S1)
    ⟨rfl, ns, [], d, none, none, rfl, d0, by simp, rfl⟩ (by
    rintro i dd σ S2 hdd ⟨rfl, left, ws, c', x8, x9, rfl, hc', hpm, hl⟩
    obtain ⟨rfl, hi⟩ := rgD_at hdd
    have hlen := hpm.length_eq
    rw [List.length_append] at hlen
    obtain ⟨j, hj, e⟩ := some_b (p := p) (S := S2) (ns := ns) (left := left) (chosen := ws) (a := a) (b := b) (c := c') (n := a + k) (x8 := some (.v (.int (i : Nat)))) (x9 := x9) hc' (by omega) (by omega) (by omega)
    refine ⟨_, rfl, nx_of e ⟨rfl, _, _, _, _, _, rfl, Int.ediv_nonneg hc' (by omega), ?_, by simp; omega⟩⟩
    refine List.Perm.trans ?_ hpm
    rw [List.append_assoc]
    refine List.Perm.append_left ws ?_
    have : left = left.take j ++ left[j] :: left.drop (j + 1) := by rw [← List.drop_eq_getElem_cons hj, List.take_append_drop]
    conv => rhs; rw [this]
    show (left[j] :: (left.take j ++ left.drop (j + 1))).Perm _
    exact List.perm_middle.symm)
  rw [rgD_len] at hl
  refine ⟨ws, S', ?_, by omega, by omega, ⟨left, hpm⟩, p1, q1⟩
  have hlen : (strsL ns).length ≤ 1000000 := by simp; omega
  have mb : -4611686018427387904 ≤ a + k ∧ a + k < 4611686018427387904 := by omega
  clear hpm hl hc' p1 q1 hp k0 k1 d0 h0 h1 h2 c0 c1
  generalize strsL ws = dw at *
  generalize strsL left = dl at *
  generalize strsL ns = dn at *
  simp only [f_l_some, fb_l_some]
  walk_at "g"
theorem some_sub {ws ns : List Str} (h : ∃ left, (ws ++ left).Perm ns) : (∀ w ∈ ws, w ∈ ns) ∧ (ns.Nodup → ws.Nodup) := by
  obtain ⟨left, h⟩ := h
  exact ⟨fun w hw => h.mem_iff.mp (List.mem_append_left _ hw), fun hn => (List.nodup_append.mp (h.nodup_iff.mpr hn)).1⟩
end
end
/-! ## BkT -/
section
open PySem PySem.Spec PyProof.Rows L2
section
variable {p : Nat} {S : Sto}
theorem six_at {r : Int} (h0 : 0 ≤ r) (h1 : r < 6) : ∃ m : Int, atI [Da.int 3, .int 2, .int 8, .int 0, .int 1, .int 4] r = some (.int m) ∧ 0 ≤ m ∧ m ≤ 8 := by
  have : r = 0 ∨ r = 1 ∨ r = 2 ∨ r = 3 ∨ r = 4 ∨ r = 5 := by omega
  rcases this with rfl | rfl | rfl | rfl | rfl | rfl
  · exact ⟨_, at_0, by decide, by decide⟩
  · exact ⟨_, at_1, by decide, by decide⟩
  · exact ⟨_, at_2, by decide, by decide⟩
  · exact ⟨_, at_3, by decide, by decide⟩
  · exact ⟨_, at_4, by decide, by decide⟩
  · exact ⟨_, at_5, by decide, by decide⟩
theorem sheets_b {ln ns : List Str} {l : List Sh} {x1 x5 x6 : Option Sx} {dn : Int} {w : Str} (hp : Px p S) (hN : stoNoL S = true) (h1 : OvL x1 (strsL ln)) (hd1 : 1 ≤ dn) (hd2 : dn ≤ ns.length) (hn : ns.length ≤ 1000) (hl : ln.length ≤ 1000) (hll : l.length < 1000) :
    ∃ (s : Sh) (S' : Sto) (y6 : Option Sx), fl_l_sheets_0 [some (.v (.cell p)), x1, some (.v (.lst (strsL ns))), some (.v (.int dn)), some (.own (.lst (shD l)) false), some (.v (.str w)), x6] S
      = .nx [some (.v (.cell p)), some (.v (.lst (strsL ln))), some (.v (.lst (strsL ns))), some (.v (.int dn)), some (.own (.lst (shD (l ++ [s]))) false), some (.v (.str w)), y6] S' ∧ s.n = w ∧ (∃ left, (s.ls ++ left).Perm ln) ∧ (∃ left, (s.fs ++ left).Perm ns) ∧ 1 ≤ s.fs.length ∧ Px p S' ∧ Pt p S S' := by
  obtain ⟨ws, S1, e1, _, _, g1, p1, q1⟩ := some_ok (ns := ln) (a := 0) (b := ln.length) hp (by decide) (by omega) (by omega) hl
  obtain ⟨us, S2, e2, u1, _, g2, p2, q2⟩ := some_ok (ns := ns) (a := 1) (b := dn) p1 (by decide) (by omega) (by omega) hn
  refine ⟨⟨w, ws, us⟩, S2, some (.v (.lst (strsL ws))), ?_, rfl, g1, g2, by show 1 ≤ us.length; omega, p2, q1.trans q2⟩
  have app : shD (l ++ [⟨w, ws, us⟩]) = shD l ++ [.tup [.str w, .lst (strsL ws), .lst (strsL us)]] := by simp [Sh.da]
  have hla : (shD l).length < 1000000 := by simp; omega
  have hlen : (strsL ln).length = ln.length := List.length_map _
  rw [app]
  rcases h1 with rfl | rfl
  · clear app g1 g2 p1 p2 q1 q2 hp u1
    generalize shD l = dl at *
    generalize strsL ns = d2 at *
    generalize strsL ln = d3 at *
    simp only [fl_l_sheets_0]
    walk_at "g"
  · clear app g1 g2 p1 p2 q1 q2 hp u1
    generalize shD l = dl at *
    generalize strsL ns = d2 at *
    generalize strsL ln = d3 at *
    simp only [fl_l_sheets_0]
    walk_at "g"
theorem sheets_end {ln ns : List Str} {dn : Int} {x5 x6 : Option Sx} (hp : Px p S) (hN : stoNoL S = true) (hns : 1 ≤ ns.length) (hd1 : 1 ≤ dn) (hd2 : dn ≤ ns.length) (hn4 : ns.length ≤ 4) (hl : ln.length ≤ 8) :
    ∃ (l : List Sh) (x1 x5 x6 : Option Sx) (S' : Sto), foldFor (fgName 5) fl_l_sheets_0 (strsL ns) [some (.v (.cell p)), some (.own (.lst (strsL ln)) false), some (.v (.lst (strsL ns))), some (.v (.int dn)), some (.own (.lst []) false), none, none] S
      = .nx [some (.v (.cell p)), x1, some (.v (.lst (strsL ns))), some (.v (.int dn)), some (.own (.lst (shD l)) false), x5, x6] S' ∧ OvL x1 (strsL ln) ∧ nmS l = ns ∧ (∀ s ∈ l, (∃ left, (s.ls ++ left).Perm ln) ∧ (∃ left, (s.fs ++ left).Perm ns) ∧ 1 ≤ s.fs.length) ∧ Px p S' ∧ Pt p S S' := by
  obtain ⟨σ', S', e, p', t', l, x1, x5, x6, rfl, h1, hl', hn, hg⟩ := for_in (fg := fgName 5) (fb := fl_l_sheets_0)
    (fun i σ S' => Px p S' ∧ Pt p S S' ∧ ∃ (l : List Sh) (x1 x5 x6 : Option Sx), σ = [some (.v (.cell p)), x1, some (.v (.lst (strsL ns))), some (.v (.int dn)), some (.own (.lst (shD l)) false), x5, x6] ∧ OvL x1 (strsL ln) ∧ l.length = i ∧ nmS l = ns.take i ∧ (∀ s ∈ l, (∃ left, (s.ls ++ left).Perm ln) ∧ (∃ left, (s.fs ++ left).Perm ns) ∧ 1 ≤ s.fs.length))
    (items := strsL ns) (σ := [some (.v (.cell p)), some (.own (.lst (strsL ln)) false), some (.v (.lst (strsL ns))), some (.v (.int dn)), some (.own (.lst []) false), none, none]) (S := S) ⟨hp, Pt.refl _ _, [], _, none, none, rfl, .inl rfl, rfl, by simp, by simp⟩ (by
    rintro i d σ S1 hd ⟨p1, q1, l, x1, x5, x6, rfl, h1, hl', hn, hg⟩
    rw [List.getElem?_map] at hd
    cases ei : ns[i]? with
    | none => rw [ei] at hd; cases hd
    | some w =>
      rw [ei] at hd
      cases hd
      have hi := (List.getElem?_eq_some_iff.mp ei).1
      obtain ⟨s, S2, y6, e2, g0, g1, g2, g3, p2, q2⟩ := sheets_b (p := p) (S := S1) (ln := ln) (ns := ns) (l := l) (x1 := x1) (x5 := x5) (x6 := x6) (dn := dn) (w := w) p1 (nol_pt hN q1 p1) h1 hd1 hd2 (by omega) (by omega) (by omega)
      refine ⟨_, rfl, nx_of e2 ⟨p2, q1.trans q2, l ++ [s], _, _, _, rfl, .inr rfl, by simp; omega, ?_, fun t ht => ?_⟩⟩
      · show List.map Sh.n (l ++ [s]) = _; rw [List.map_append, show List.map Sh.n l = nmS l from rfl, hn, List.take_add_one, ei, List.map_cons, List.map_nil, g0]; rfl
      · rcases List.mem_append.mp ht with ht | ht
        · exact hg t ht
        · simp at ht; subst ht; exact ⟨g1, g2, g3⟩)
  rw [List.length_map] at hl' hn
  exact ⟨l, x1, x5, x6, S', e, h1, by rw [hn, List.take_length], hg, p', t'⟩
theorem sheets_ok8 (hp : Px p S) (hN : stoNoL S = true) : ∃ (l : List Sh) (st ln : List Str) (S' : Sto), f_l_sheets [.cell p] S = .ok (.v (.tup [.lst (shD l), .lst (strsL st), .lst (strsL ln)])) S' ∧ GoodB l st ln ∧ ln.length ≤ 8 ∧ Px p S' ∧ Pt p S S' := by
  obtain ⟨r1, S1, e1, r10, r11, p1, q1⟩ := take_ok hp (m := 6) (by decide) (by decide)
  obtain ⟨m, em, m0, m1⟩ := six_at r10 r11
  obtain ⟨ln0, S2, e2, l1, l2, l3, p2, q2⟩ := words_ok p1 (nol_pt hN q1 p1) m0 m1
  obtain ⟨r3, S3, e3, r30, r31, p3, q3⟩ := take_ok p2 (m := 4) (by decide) (by decide)
  have Q3 := (q1.trans q2).trans q3
  obtain ⟨ns, S4, e4, n1, n2, n3, p4, q4⟩ := words_ok (m := 1 + r3) p3 (nol_pt hN Q3 p3) (by omega) (by omega)
  have Q4 := Q3.trans q4
  obtain ⟨r5, S5, e5, r50, r51, p5, q5⟩ := take_ok p4 (m := 3) (by decide) (by decide)
  obtain ⟨r6, S6, e6, r60, r61, p6, q6⟩ := take_ok p5 (m := 4) (by decide) (by decide)
  have Q6 := (Q4.trans q5).trans q6
  have hN6 := nol_pt hN Q6 p6
  -- the lines
  obtain ⟨n0, hn0⟩ : ∃ n0, ns[0]? = some n0 := ⟨ns[0]'(by omega), List.getElem?_eq_getElem (by omega)⟩
  have hat : atI (strsL ns) 0 = some (.str n0) := at_int (by decide) (by simp [hn0])
  have fin : ∀ (ln : List Str), ln.length ≤ 8 → (∀ w ∈ ln, isNm w = true) → ln.Nodup →
      (∀ (σ : Env), σ = [some (.v (.cell p)), some (.own (.lst (strsL ln)) false), some (.v (.lst (strsL ns))), none, none, none, none] →
        f_l_sheets [.cell p] S = (So.sq (.nx σ S5) (fSeq (fSetD 3 (fCB bMin2 (fCons (fCB bLen (fCons (fVar 2) fNil)) (fCons (fOp xAdd (fC (.int 1)) (fCall f_l_take (fCons (fVar 0) (fCons (fC (.int 4)) fNil)))) fNil))))
    (fSeq (fSet 4 (fLst fNil))
    (fSeq (fFor (fiL (fVar 2)) (fgName 5) fl_l_sheets_0)
    (fSeq (fSetD 3 (fCB bMin2 (fCons (fCB bLen (fCons (fVar 2) fNil)) (fCons (fOp xAdd (fC (.int 1)) (fCall f_l_take (fCons (fVar 0) (fCons (fC (.int 4)) fNil)))) fNil))))
    (fFrz 4 (fFrz 1 (fRet (fTup (fCons (fVar 4) (fCons (fCall f_l_some (fCons (fVar 0) (fCons (fVar 2) (fCons (fC (.int 1)) (fCons (fVar 3) fNil))))) (fCons (fVar 1) fNil)))))))))))).fin0) →
      ∃ (l : List Sh) (st ln : List Str) (S' : Sto), f_l_sheets [.cell p] S = .ok (.v (.tup [.lst (shD l), .lst (strsL st), .lst (strsL ln)])) S' ∧ GoodB l st ln ∧ ln.length ≤ 8 ∧ Px p S' ∧ Pt p S S' := by
    intro ln a1 a2 a3 go
    obtain ⟨l, x1, x5, x6, S7, e7, b1, b2, b3, p7, q7⟩ := sheets_end (p := p) (S := S6) (ln := ln) (ns := ns) (dn := min (ns.length : Int) (1 + r6)) (x5 := none) (x6 := none) p6 hN6 (by omega) (by omega) (by omega) (by omega) a1
    obtain ⟨r8, S8, e8, r80, r81, p8, q8⟩ := take_ok p7 (m := 4) (by decide) (by decide)
    obtain ⟨st, S9, e9, s1, s2, s3, p9, q9⟩ := some_ok (ns := ns) (a := 1) (b := min (ns.length : Int) (1 + r8)) p8 (by decide) (by omega) (by omega) (by omega)
    have hlen : (strsL ns).length = ns.length := List.length_map _
    refine ⟨l, st, ln, S9, ?_, ?_, a1, p9, ((Q6.trans q7).trans q8).trans q9⟩
    · rw [go _ rfl]
      have hb : (ns.length : Int) ≤ 4 := by omega
      have hb2 : 1 ≤ (ns.length : Int) := by omega
      clear n1 l1 b2 b3 s1 s2 s3 go p1 p2 p3 p4 p5 p6 p7 p8 p9 q1 q2 q3 q4 q5 q6 q7 q8 q9 Q3 Q4 Q6 hp hN hN6 l2 l3 n2 n3 a1 a2 a3 e1 e2 e3 e4 e5 em m0 m1 hat hn0
      rcases b1 with rfl | rfl
      · generalize shD l = d1 at *
        generalize strsL ns = d2 at *
        generalize strsL ln = d3 at *
        generalize strsL st = d4 at *
        walk_at "o"
      · generalize shD l = d1 at *
        generalize strsL ns = d2 at *
        generalize strsL ln = d3 at *
        generalize strsL st = d4 at *
        walk_at "o"
    · have hll : l.length = ns.length := by rw [← b2]; simp
      refine ⟨by omega, by omega, by rw [b2]; exact n2, by rw [b2]; exact n3, Nat.le_succ_of_le a1, a2, a3, fun s hs => ?_, fun s hs => ?_, ?_⟩
      · obtain ⟨c1, c2, c3⟩ := b3 s hs
        refine ⟨(some_sub c1).1, (some_sub c1).2 a3, ?_⟩
        obtain ⟨left, c1⟩ := c1
        have := c1.length_eq
        rw [List.length_append] at this
        omega
      · obtain ⟨c1, c2, c3⟩ := b3 s hs
        rw [b2]
        exact ⟨(some_sub c2).1, (some_sub c2).2 n3, fun z => by rw [z] at c3; simp at c3⟩
      · rw [b2]
        exact ⟨(some_sub s3).1, (some_sub s3).2 n3, fun z => by rw [z] at s1; simp at s1⟩
  have hlen0 : (strsL ln0).length = ln0.length := List.length_map _
  have mb : -4611686018427387904 ≤ 1 + r3 ∧ 1 + r3 < 4611686018427387904 := by omega
  have hi1 := svs_str ln0
  have hi2 := flat_str ln0
  have hi3 := inV_str n0 ln0
  have hi4 : ∀ z, flatV (.str z) = true := fun _ => rfl
  by_cases hr : r5 = 0
  · subst hr
    by_cases hl : ln0 = []
    · subst hl
      have heq := eqD_same (d := .lst []) (r1 := .bo (.lst [])) (r2 := .fr (.lst [])) (S := S5) 1 true (by decide) rfl rfl rfl
      refine fin [] (by simp) (by simp) (by simp) fun σ hσ => ?_
      subst hσ
      simp only [strsL, List.map_nil] at *
      clear fin n1 n2 n3 l1 l2 l3 hlen0 p1 p2 p3 p4 p5 p6 q1 q2 q3 q4 q5 q6 Q3 Q4 Q6 hp hN hN6
      simp only [f_l_sheets, fb_l_sheets]
      walk_at "g"
    · have heq := eqD_ne (d := .lst (strsL ln0)) (e := .lst []) (r1 := .bo (.lst (strsL ln0))) (r2 := .fr (.lst [])) (S := S5) 1 true (by decide) (okT_lst (fun t ht => okT_nm (l2 t ht)) 0) rfl (fun z => hl (by injection z with z; exact List.map_eq_nil_iff.mp z)) rfl rfl
      by_cases hm : n0 ∈ ln0
      · rw [decide_eq_true hm] at hi3
        refine fin ln0 (by omega) l2 l3 fun σ hσ => ?_
        subst hσ
        clear fin n1 n2 n3 l1 l2 l3 p1 p2 p3 p4 p5 p6 q1 q2 q3 q4 q5 q6 Q3 Q4 Q6 hp hN hN6 hm hl hlen0
        generalize strsL ln0 = d1 at *
        generalize strsL ns = d2 at *
        simp only [f_l_sheets, fb_l_sheets]
        walk_at "g"
      · rw [decide_eq_false hm] at hi3
        have hset : strsL (ln0.set 0 n0) = (strsL ln0).set 0 (.str n0) := by simp [strsL, List.map_set]
        have hpos : 0 < ln0.length := List.length_pos_iff.mpr hl
        have hix : ixN (strsL ln0).length 0 = some 0 := ix_int (by decide) (by rw [hlen0]; omega)
        refine fin (ln0.set 0 n0) (by simp; omega) (fun w hw => ?_) ?_ fun σ hσ => ?_
        · rcases List.mem_or_eq_of_mem_set hw with h | h
          · exact l2 w h
          · rw [h]; exact n2 n0 (List.mem_of_getElem? hn0)
        · cases ln0 with
          | nil => exact absurd rfl hl
          | cons a r =>
            obtain ⟨h1, h2⟩ := List.nodup_cons.mp l3
            rw [List.set_cons_zero]
            exact List.nodup_cons.mpr ⟨fun z => hm (List.mem_cons_of_mem a z), h2⟩
        · subst hσ
          rw [hset]
          clear fin n1 n2 n3 l1 l2 l3 p1 p2 p3 p4 p5 p6 q1 q2 q3 q4 q5 q6 Q3 Q4 Q6 hp hN hN6 hm hl hlen0 hset hpos
          generalize strsL ln0 = d1 at *
          generalize strsL ns = d2 at *
          simp only [f_l_sheets, fb_l_sheets]
          walk_at "g"
  · refine fin ln0 (by omega) l2 l3 fun σ hσ => ?_
    subst hσ
    clear fin n1 n2 n3 l1 l2 l3 p1 p2 p3 p4 p5 p6 q1 q2 q3 q4 q5 q6 Q3 Q4 Q6 hp hN hN6 hlen0
    generalize strsL ln0 = d1 at *
    generalize strsL ns = d2 at *
    simp only [f_l_sheets, fb_l_sheets]
    walk_at "g"
end
end
/-! ## BpI -/
section
open PySem PySem.Spec PyProof.Rows L2
/-! ## the law's statements -/
section
variable {S : Sto} {l : List Sh} {st ln : List Str} {k : Nat} {f : Str}
theorem flat_setX {d : Da} (i : Nat) (h : stoFlat S = true) (hd : d.flatC = true) : stoFlat (S.set i d) = true := by
  rw [flat_all, List.all_eq_true] at h ⊢
  intro x hx
  rcases List.mem_or_eq_of_mem_set hx with hx | rfl
  · exact h x hx
  · exact hd
/-- the handed pages and starts as cells -/
structure HcB (S : Sto) (l : List Sh) (st : List Str) (N : Nat) : Prop where
  c : Cel S 2 l
  h8 : S[N]? = some (.lst (pgX l (cX 2) (cY 2)))
  h9 : S[N + 1]? = some (.lst (strsL st))
  fl : stoFlat S = true
  n : N = 2 + 2 * l.length
theorem HcB.pt {T : Sto} {N : Nat} (h : HcB S l st N) (t : Pt 1 S T) (p : Px 1 T) : HcB T l st N := by
  have hn := h.n
  refine ⟨fun j hj => ?_, by rw [t.2 _ (by omega)]; exact h.h8, by rw [t.2 _ (by omega)]; exact h.h9, ?_, hn⟩
  · obtain ⟨a, b⟩ := h.c j hj
    exact ⟨by rw [t.2 _ (by omega)]; exact a, by rw [t.2 _ (by omega)]; exact b⟩
  · have hfl := h.fl
    exact flat_of fun i d hi => by
      by_cases h1 : i = 1
      · subst h1; exact flat_px p hi
      · rw [t.2 i h1] at hi
        exact stoFlat_at hfl hi
theorem law_names {x1 x2 x4 : Option Sx} (n4 : l.length ≤ 4) : foldLc (fgName 16) fYes fe_law_0 [x1, some (.v (.cell 0)), x2, some (.v (.lst (shD l))), x4, none, none, none, none, none, none, none, none, none, none, none, none] (shD l) [] S = .ok (strsL (nmS l)) S := by
  have lc := lc_pure (fg := fgName 16) (ft := fYes) (fe := fe_law_0) (σ := [x1, some (.v (.cell 0)), x2, some (.v (.lst (shD l))), x4, none, none, none, none, none, none, none, none, none, none, none, none]) Sh.da (fun _ => true) (fun s => .str s.n) (fun s => [x1, some (.v (.cell 0)), x2, some (.v (.lst (shD l))), x4, none, none, none, none, none, none, none, none, none, none, none, some (.v s.da)]) (S := S) (l := l) (acc := []) (fun s hs' => ⟨rfl, rfl, fun _ => ⟨.v (.str s.n), by
    unfold Sh.da
    generalize strsL s.ls = dls at *
    generalize strsL s.fs = dfs at *
    generalize shD l = d1 at *
    clear hs' n4
    simp only [fe_law_0]
    walk_at "g", rfl⟩⟩) (by simp; omega)
  rw [List.filter_eq_self.mpr (fun _ _ => rfl), List.nil_append, show (l.map fun s => Da.str s.n) = strsL (nmS l) by simp [strsL, nmS]] at lc
  exact lc
/-- the slots of the law -/
abbrev lA (ns : List Int) (l : List Sh) (st ln : List Str) (k : Nat) (f : Str) (N : Nat) (x11 x12 x13 x14 : Option Sx) : Env := [some (.v (.frl ns)), some (.v (.cell 1)), some (.v (.tup [.lst (shD l), .lst (strsL st), .lst (strsL ln)])), some (.v (.lst (shD l))), some (.v (.lst (strsL st))), some (.v (.lst (strsL (nmS l)))), some (.v (.int ((k : Nat) : Int))), some (.v (.str f)), some (.v (.cell N)), some (.v (.cell (N + 1))), some (.v (bkO l st)), x11, x12, x13, x14, none, none]
theorem law_pages {ns : List Int} {N : Nat} {ks : List Int} (n4 : l.length ≤ 4) (h : ∀ x ∈ ks, (x < 0 ∨ (l.length : Nat) ≤ x) ∧ -10000000000 < x ∧ x < 10000000000) :
    ∃ x11, foldFor (fgName 11) fl_law_0 (ks.map Da.int) (lA ns l st ln k f N none none none none) S = .nx (lA ns l st ln k f N x11 none none none) S := by
  obtain ⟨σ', S', e, rfl, x11, rfl⟩ := for_inv (fg := fgName 11) (fb := fl_law_0) (fun i σ S' => S' = S ∧ ∃ x11, σ = lA ns l st ln k f N x11 none none none) (items := ks.map Da.int) (n := 0) (σ := lA ns l st ln k f N none none none none) (S := S) ⟨rfl, none, rfl⟩ (by
    rintro i d σ S1 hd ⟨rfl, x11, rfl⟩
    obtain ⟨hi, rfl, hm⟩ := map_at (F := Da.int) 0 hd
    obtain ⟨h1, h2, h3⟩ := h _ hm
    have e1 := refuses_page_ok (S := S1) (l := l) (st := st) (w := 0) (k := ks.getD i 0) (.inl rfl) ⟨h2, h3⟩ h1
    have e2 := refuses_page_ok (S := S1) (l := l) (st := st) (w := 1) (k := ks.getD i 0) (.inr rfl) ⟨h2, h3⟩ h1
    refine ⟨_, _, S1, rfl, .inl ?_, rfl, some (.v (.int (ks.getD i 0))), rfl⟩
    unfold lA
    clear hd hm hi h1 h2 h3 h n4
    generalize ks.getD i 0 = z at *
    generalize bkO l st = b at *
    generalize strsL (nmS l) = dn at *
    generalize shD l = d1 at *
    generalize strsL st = d2 at *
    generalize strsL ln = d3 at *
    generalize ((k : Nat) : Int) = kk at *
    simp only [fl_law_0]
    walk_at "g")
  exact ⟨x11, e⟩
theorem law_words {ns : List Int} {N : Nat} {ws : List Str} {x11 : Option Sx} (h : ∀ x ∈ ws, x.length ≤ 1000) :
    ∃ x12, foldFor (fgName 12) fl_law_1 (strsL ws) (lA ns l st ln k f N x11 none none none) S = .nx (lA ns l st ln k f N x11 x12 none none) S := by
  obtain ⟨σ', S', e, rfl, x12, rfl⟩ := for_inv (fg := fgName 12) (fb := fl_law_1) (fun i σ S' => S' = S ∧ ∃ x12, σ = lA ns l st ln k f N x11 x12 none none) (items := strsL ws) (n := 0) (σ := lA ns l st ln k f N x11 none none none) (S := S) ⟨rfl, none, rfl⟩ (by
    rintro i d σ S1 hd ⟨rfl, x12, rfl⟩
    obtain ⟨hi, rfl, hm⟩ := map_at (F := Da.str) Str.empty hd
    have hz := h _ hm
    have hi1 := svs_str (nmS l)
    have hi2 := flat_str (nmS l)
    have hi3 := inV_str (ws.getD i Str.empty) (nmS l)
    have hi4 : ∀ z, flatV (.str z) = true := fun _ => rfl
    refine ⟨_, _, S1, rfl, .inl ?_, rfl, some (.v (.str (ws.getD i Str.empty))), rfl⟩
    unfold lA
    by_cases hin : ws.getD i Str.empty ∈ nmS l
    · rw [decide_eq_true hin] at hi3
      clear hd hm hi h hin
      generalize ws.getD i Str.empty = z at *
      generalize bkO l st = b at *
      generalize (nmS l).map V.str = v0 at *
      generalize strsL (nmS l) = dn at *
      generalize shD l = d1 at *
      generalize strsL st = d2 at *
      generalize strsL ln = d3 at *
      generalize ((k : Nat) : Int) = kk at *
      simp only [fl_law_1]
      walk_at "g"
    · have e1 := refuses_name_ok (S := S1) (l := l) (st := st) hz hin
      rw [decide_eq_false hin] at hi3
      clear hd hm hi h hin
      generalize ws.getD i Str.empty = z at *
      generalize bkO l st = b at *
      generalize (nmS l).map V.str = v0 at *
      generalize strsL (nmS l) = dn at *
      generalize shD l = d1 at *
      generalize strsL st = d2 at *
      generalize strsL ln = d3 at *
      generalize ((k : Nat) : Int) = kk at *
      simp only [fl_law_1]
      walk_at "g")
  exact ⟨x12, e⟩
theorem law_back {T : Sto} {σ : Env} (hz : ∀ s ∈ l, s.ls.length ≤ 1000 ∧ s.fs.length ≤ 1000) (n4 : l.length ≤ 4) (hσ : ∀ s : Sh, ∃ σ1, fgName 16 s.da σ = some σ1 ∧ σ1[16]? = some (some (.v s.da))) : foldLc (fgName 16) fYes fe_law_1 σ (shD l) [] T = .ok (shD (l.map tw)) T := by
  have lc := lc_pure (fg := fgName 16) (ft := fYes) (fe := fe_law_1) (σ := σ) Sh.da (fun _ => true) (fun s => (tw s).da) (fun s => (hσ s).choose) (S := T) (l := l) (acc := []) (fun s hs' => ⟨(hσ s).choose_spec.1, rfl, fun _ => ⟨.v (tw s).da, by
    have h16 := (hσ s).choose_spec.2
    obtain ⟨b1, b2⟩ := hz s hs'
    generalize (hσ s).choose = σ1 at *
    have hr : (strsL s.fs).reverse = strsL s.fs.reverse := List.map_reverse.symm
    have z1 : (strsL s.ls).length ≤ 1000000 := by rw [List.length_map]; omega
    have hd : s.da = .tup [.str s.n, .lst (strsL s.ls), .lst (strsL s.fs)] := rfl
    have hd2 : (tw s).da = .tup [.str s.n, .lst (strsL s.ls), .lst (strsL s.fs.reverse)] := rfl
    rw [hd] at h16
    rw [hd2]
    clear hd hd2 hs' b1 b2 hσ hz n4
    generalize strsL s.ls = d3 at *
    generalize strsL s.fs.reverse = d5 at *
    generalize strsL s.fs = d4 at *
    have hv : fVar 16 σ1 T = .ok (.v (.tup [.str s.n, .lst d3, .lst d4])) T := by simp only [e_fVar, h16]
    clear h16
    simp only [fe_law_1]
    generalize fVar 16 = v16 at *
    walk_at "g", rfl⟩⟩) (by simp; omega)
  rw [List.filter_eq_self.mpr (fun _ _ => rfl), List.nil_append, show (l.map fun s => (tw s).da) = shD (l.map tw) by simp [shD, Function.comp_def]] at lc
  exact lc
end
end
/-! ## BpJ -/
section
open PySem PySem.Spec PyProof.Rows L2
/-! ## the handed lists are changed -/
noncomputable def lm1 : FS := fSetD 13 (fOp (xIx false true) (fOp (xIx true false) (fVar 8) (fVar 6)) (fC (.int 1)))
noncomputable def lm2 : FS := fInsE (fVar 13) (fC (.int 0)) (fVar 7)
noncomputable def lm3 : FS := fSetD 13 (fOp (xIx false true) (fOp (xIx true false) (fVar 8) (fVar 6)) (fC (.int 2)))
noncomputable def lm4 : FS := fAppE (fVar 13) (fVar 7)
noncomputable def lm5 : FS := fAppE (fVar 8) (fTup (fCons (fVar 7) (fCons (fCell (fLst fNil)) (fCons (fCell (fLst (fCons (fVar 7) fNil))) fNil))))
noncomputable def lm6 : FS := fAppE (fVar 9) (fVar 7)
theorem lm1_eq : lm1 = fSetD 13 (fOp (xIx false true) (fOp (xIx true false) (fVar 8) (fVar 6)) (fC (.int 1))) := rfl
theorem lm2_eq : lm2 = fInsE (fVar 13) (fC (.int 0)) (fVar 7) := rfl
theorem lm3_eq : lm3 = fSetD 13 (fOp (xIx false true) (fOp (xIx true false) (fVar 8) (fVar 6)) (fC (.int 2))) := rfl
theorem lm4_eq : lm4 = fAppE (fVar 13) (fVar 7) := rfl
theorem lm5_eq : lm5 = fAppE (fVar 8) (fTup (fCons (fVar 7) (fCons (fCell (fLst fNil)) (fCons (fCell (fLst (fCons (fVar 7) fNil))) fNil)))) := rfl
theorem lm6_eq : lm6 = fAppE (fVar 9) (fVar 7) := rfl
section
variable {S : Sto} {l : List Sh} {st ln : List Str} {k : Nat} {f : Str} {ns : List Int} {N a b : Nat} {x11 x12 x13 x14 : Option Sx} {pg dl df ds : List Da} {n : Str}
theorem lm1_ok (h : S[N]? = some (.lst pg)) (hat : atI pg ((k : Nat) : Int) = some (.tup [.str n, .cell a, .cell b])) : lm1 (lA ns l st ln k f N x11 x12 x13 x14) S = .nx (lA ns l st ln k f N x11 x12 (some (.v (.cell a))) x14) S := by
  have g0 := gdX h
  unfold lA
  clear h
  generalize bkO l st = bo at *
  generalize strsL (nmS l) = dn at *
  generalize shD l = d1 at *
  generalize strsL st = d2 at *
  generalize strsL ln = d3 at *
  generalize ((k : Nat) : Int) = kk at *
  simp only [lm1]
  walk_at "g"
theorem lm3_ok (h : S[N]? = some (.lst pg)) (hat : atI pg ((k : Nat) : Int) = some (.tup [.str n, .cell a, .cell b])) : lm3 (lA ns l st ln k f N x11 x12 x13 x14) S = .nx (lA ns l st ln k f N x11 x12 (some (.v (.cell b))) x14) S := by
  have g0 := gdX h
  unfold lA
  clear h
  generalize bkO l st = bo at *
  generalize strsL (nmS l) = dn at *
  generalize shD l = d1 at *
  generalize strsL st = d2 at *
  generalize strsL ln = d3 at *
  generalize ((k : Nat) : Int) = kk at *
  simp only [lm3]
  walk_at "g"
theorem lm2_ok (h : S[a]? = some (.lst dl)) (hl : dl.length < 1000000) : lm2 (lA ns l st ln k f N x11 x12 (some (.v (.cell a))) x14) S = .nx (lA ns l st ln k f N x11 x12 (some (.v (.cell a))) x14) (S.set a (.lst (dl.take 0 ++ [.str f] ++ dl.drop 0))) := by
  unfold lA
  generalize bkO l st = bo at *
  generalize strsL (nmS l) = dn at *
  generalize shD l = d1 at *
  generalize strsL st = d2 at *
  generalize strsL ln = d3 at *
  generalize ((k : Nat) : Int) = kk at *
  simp only [lm2]
  walk_at "g"
theorem lm4_ok (h : S[b]? = some (.lst df)) (hl : df.length < 1000000) : lm4 (lA ns l st ln k f N x11 x12 (some (.v (.cell b))) x14) S = .nx (lA ns l st ln k f N x11 x12 (some (.v (.cell b))) x14) (S.set b (.lst (df ++ [.str f]))) := by
  unfold lA
  generalize bkO l st = bo at *
  generalize strsL (nmS l) = dn at *
  generalize shD l = d1 at *
  generalize strsL st = d2 at *
  generalize strsL ln = d3 at *
  generalize ((k : Nat) : Int) = kk at *
  simp only [lm4]
  walk_at "g"
theorem lm6_ok (h : S[N + 1]? = some (.lst ds)) (hl : ds.length < 1000000) : lm6 (lA ns l st ln k f N x11 x12 x13 x14) S = .nx (lA ns l st ln k f N x11 x12 x13 x14) (S.set (N + 1) (.lst (ds ++ [.str f]))) := by
  unfold lA
  generalize N + 1 = N1 at *
  generalize bkO l st = bo at *
  generalize strsL (nmS l) = dn at *
  generalize shD l = d1 at *
  generalize strsL st = d2 at *
  generalize strsL ln = d3 at *
  generalize ((k : Nat) : Int) = kk at *
  simp only [lm6]
  walk_at "g"
theorem lm5_ok (h : S[N]? = some (.lst pg)) (hl : pg.length < 1000000) : lm5 (lA ns l st ln k f N x11 x12 x13 x14) S = .nx (lA ns l st ln k f N x11 x12 x13 x14) ((S ++ [Da.lst []] ++ [Da.lst [.str f]]).set N (.lst (pg ++ [Da.tup [.str f, .cell S.length, .cell (S.length + 1)]]))) := by
  have hlt := (List.getElem?_eq_some_iff.mp h).1
  have h2 : (S ++ [Da.lst []] ++ [Da.lst [.str f]])[N]? = some (.lst pg) := by
    rw [List.getElem?_append_left (by simp; omega), List.getElem?_append_left hlt]; exact h
  unfold lA
  clear hlt
  generalize bkO l st = bo at *
  generalize strsL (nmS l) = dn at *
  generalize shD l = d1 at *
  generalize strsL st = d2 at *
  generalize strsL ln = d3 at *
  generalize ((k : Nat) : Int) = kk at *
  simp only [lm5]
  walk_at "g"
theorem pgX_atI {X Y : Nat → Da} (h : k < l.length) : atI (pgX l X Y) ((k : Nat) : Int) = some (.tup [.str (l.getD k s0).n, X k, Y k]) := by
  refine atI_of (by omega) ?_
  show (List.map _ _)[((k : Nat) : Int).toNat]? = _
  rw [Int.toNat_natCast, List.getElem?_map, List.getElem?_range h]; rfl
theorem changes (h : HcB S l st N) (g : GoodB l st ln) (hk : k < l.length) : ∃ (y z : Option Sx) (S1 S2 S3 S4 : Sto), stoFlat S4 = true ∧
    lm1 (lA ns l st ln k f N x11 x12 none none) S = .nx (lA ns l st ln k f N x11 x12 y none) S ∧
    lm2 (lA ns l st ln k f N x11 x12 y none) S = .nx (lA ns l st ln k f N x11 x12 y none) S1 ∧
    lm3 (lA ns l st ln k f N x11 x12 y none) S1 = .nx (lA ns l st ln k f N x11 x12 z none) S1 ∧
    lm4 (lA ns l st ln k f N x11 x12 z none) S1 = .nx (lA ns l st ln k f N x11 x12 z none) S2 ∧
    lm5 (lA ns l st ln k f N x11 x12 z none) S2 = .nx (lA ns l st ln k f N x11 x12 z none) S3 ∧
    lm6 (lA ns l st ln k f N x11 x12 z none) S3 = .nx (lA ns l st ln k f N x11 x12 z none) S4 := by
  have n4 := g.n4
  have hN := h.n
  have hm := mem_getD hk
  have b1 := (g.ls _ hm).2.2
  have b2 := (good_le g).2 _ hm
  have b3 := (good_le g).1
  obtain ⟨ca, cb⟩ := h.c k hk
  have hat := pgX_atI (l := l) (X := cX 2) (Y := cY 2) hk
  have hpl : (pgX l (cX 2) (cY 2)).length = l.length := by simp
  have hlN := (List.getElem?_eq_some_iff.mp h.h9).1
  obtain ⟨S1, hS1⟩ : ∃ S1, S1 = S.set (2 + 2 * k) (Da.lst ((strsL (l.getD k s0).ls).take 0 ++ [.str f] ++ (strsL (l.getD k s0).ls).drop 0)) := ⟨_, rfl⟩
  have e8 : S1[N]? = some (.lst (pgX l (cX 2) (cY 2))) := by rw [hS1, List.getElem?_set_ne (by omega)]; exact h.h8
  have e9 : S1[N + 1]? = some (.lst (strsL st)) := by rw [hS1, List.getElem?_set_ne (by omega)]; exact h.h9
  have eb : S1[2 + 2 * k + 1]? = some (.lst (strsL (l.getD k s0).fs)) := by rw [hS1, List.getElem?_set_ne (by omega)]; exact cb
  have f1 : stoFlat S1 = true := by
    rw [hS1]
    refine flat_setX _ h.fl ?_
    have : (strsL (l.getD k s0).ls).take 0 ++ [Da.str f] ++ (strsL (l.getD k s0).ls).drop 0 = strsL (f :: (l.getD k s0).ls) := by simp
    rw [this]
    exact flats_strs _
  obtain ⟨S2, hS2⟩ : ∃ S2, S2 = S1.set (2 + 2 * k + 1) (Da.lst (strsL (l.getD k s0).fs ++ [.str f])) := ⟨_, rfl⟩
  have e8' : S2[N]? = some (.lst (pgX l (cX 2) (cY 2))) := by rw [hS2, List.getElem?_set_ne (by omega)]; exact e8
  have e9' : S2[N + 1]? = some (.lst (strsL st)) := by rw [hS2, List.getElem?_set_ne (by omega)]; exact e9
  have f2 : stoFlat S2 = true := by
    rw [hS2]
    refine flat_setX _ f1 ?_
    have : strsL (l.getD k s0).fs ++ [Da.str f] = strsL ((l.getD k s0).fs ++ [f]) := by simp
    rw [this]
    exact flats_strs _
  obtain ⟨S3, hS3⟩ : ∃ S3, S3 = (S2 ++ [Da.lst []] ++ [Da.lst [.str f]]).set N (Da.lst (pgX l (cX 2) (cY 2) ++ [Da.tup [.str f, .cell S2.length, .cell (S2.length + 1)]])) := ⟨_, rfl⟩
  have hl2 := (List.getElem?_eq_some_iff.mp e9').1
  have e9'' : S3[N + 1]? = some (.lst (strsL st)) := by
    rw [hS3, List.getElem?_set_ne (by omega), List.getElem?_append_left (by simp; omega), List.getElem?_append_left hl2]; exact e9'
  have f3 : stoFlat S3 = true := by
    rw [hS3]
    refine flat_setX _ (flat_appX (flat_appX f2 fun d hd => ?_) fun d hd => ?_) ?_
    · rw [List.mem_singleton.mp hd]; rfl
    · rw [List.mem_singleton.mp hd]; rfl
    · have hp : ∀ ds : List Da, flats ds = true → flats (ds ++ [Da.tup [.str f, .cell S2.length, .cell (S2.length + 1)]]) = true := by
        intro ds
        induction ds with
        | nil => intro _; rfl
        | cons d ds ih =>
          intro hq
          have hq : (d.flat && flats ds) = true := hq
          rw [Bool.and_eq_true] at hq
          show (d.flat && flats (ds ++ _)) = true
          rw [hq.1, ih hq.2]; rfl
      exact hp _ (pgX_flat (X := cX 2) (Y := cY 2) (fun _ => rfl) (fun _ => rfl))
  refine ⟨some (.v (.cell (2 + 2 * k))), some (.v (.cell (2 + 2 * k + 1))), S1, S2, S3, S3.set (N + 1) (Da.lst (strsL st ++ [.str f])), ?_, lm1_ok h.h8 hat, ?_, lm3_ok e8 hat, ?_, ?_, ?_⟩
  · refine flat_setX _ f3 ?_
    have : strsL st ++ [Da.str f] = strsL (st ++ [f]) := by simp
    rw [this]
    exact flats_strs _
  · rw [hS1]; exact lm2_ok ca (by rw [List.length_map]; omega)
  · rw [hS2]; exact lm4_ok eb (by rw [List.length_map]; omega)
  · rw [hS3]; exact lm5_ok e8' (by omega)
  · exact lm6_ok e9'' (by rw [List.length_map]; omega)
end
end
/-! ## BpK -/
section
open PySem PySem.Spec PyProof.Rows L2
/-! ## the handed lists are as they were -/
section
variable {S : Sto} {l : List Sh} {st ln : List Str} {N : Nat}
theorem sh_depX {s : Sh} (h1 : s.ls.length ≤ 1000) (h2 : s.fs.length ≤ 1000) (n : Nat) : s.da.dep (n + 2) = true := by
  have a := (strs_dep (ts := s.ls) n (by omega)).1
  have b := (strs_dep (ts := s.fs) n (by omega)).1
  have c : (Da.str s.n).dep (n + 1) = true := rfl
  show (decide ([Da.str s.n, .lst (strsL s.ls), .lst (strsL s.fs)].length ≤ 1000000) && [Da.str s.n, .lst (strsL s.ls), .lst (strsL s.fs)].all (Da.dep (n + 1))) = true
  simp only [List.all_cons, a, b, c, List.all_nil, List.length_cons, List.length_nil]
  simp
theorem res_strs {ts : List Str} (k : Nat) (h : ts.length ≤ 1000000) : res S (k + 1) (.lst (strsL ts)) = .lst (strsL ts) := res_dep (n := 1) (strs_dep 0 h).1
theorem same_st (h : HcB S l st N) (g : GoodB l st ln) : f_l_same [.cell (N + 1), .lst (strsL st)] S = .ok (.v (.bl true)) S := by
  have hl := (good_le g).1
  have hd := (strs_dep (ts := st) 6 (by omega)).1
  refine same_res (z := .lst (strsL st)) ?_ (res_dep hd) hd
  show res S 11 (S.getD (N + 1) .non) = _
  rw [gdX h.h9]
  exact res_strs 10 (by omega)
theorem same_pg (h : HcB S l st N) (g : GoodB l st ln) : f_l_same [.cell N, .lst (shD l)] S = .ok (.v (.bl true)) S := by
  have n4 := g.n4
  have hd : (Da.lst (shD l)).dep 7 = true := (dep_mapB (F := Sh.da) (n := 6) (fun s hs => sh_depX (by have := (g.ls s hs).2.2; omega) (by have := (good_le g).2 s hs; omega) 4) (by omega)).1
  refine same_res (z := .lst (shD l)) ?_ (res_dep hd) hd
  show res S 11 (S.getD N .non) = _
  rw [gdX h.h8]
  show Da.lst ((pgX l (cX 2) (cY 2)).map (res S 10)) = _
  congr 1
  rw [shD_pg]
  show List.map _ (List.map _ _) = List.map _ _
  rw [List.map_map]
  refine List.map_congr_left fun i hi => ?_
  have hi := List.mem_range.mp hi
  have hm := mem_getD hi
  have b1 := (g.ls _ hm).2.2
  have b2 := (good_le g).2 _ hm
  obtain ⟨a, b⟩ := h.c i hi
  show Da.tup [res S 9 (.str _), res S 9 (.cell (2 + 2 * i)), res S 9 (.cell (2 + 2 * i + 1))] = _
  show Da.tup [.str _, res S 8 (S.getD (2 + 2 * i) .non), res S 8 (S.getD (2 + 2 * i + 1) .non)] = _
  rw [gdX a, gdX b, res_strs 7 (by omega), res_strs 7 (by omega)]
end
end
/-! ## Pu -/
section
open PySem PySem.Spec PyProof.Rows L2
section
variable {S : Sto}
theorem law_good (ns : List Int) (hl : ns.length ≤ 63) : ∃ S, f_law [.frl ns] [] = .ok (.v (.bl true)) S := by
  obtain ⟨d1, e1, p1⟩ := pool_ok (ns := ns) (k := 0) (by decide) (by decide) []
  rw [List.nil_append] at e1 p1
  rw [List.length_nil] at e1 p1
  have hN1 : stoNoL [d1] = true := nol_of fun i d hi => by
    have : i = 0 := by have := (List.getElem?_eq_some_iff.mp hi).1; simp at this; omega
    subst this
    exact nol_px p1 hi
  obtain ⟨l, st, ln, S1, e2, g, h8, p2, q2⟩ := sheets_ok8 p1 hN1
  have hl1 : S1.length = 1 := by rw [q2.1]; rfl
  obtain ⟨d2, e3, p3⟩ := pool_ok (ns := ns) (k := 1) (by decide) (by decide) S1
  have n1 := g.n1
  have n4 := g.n4
  have hl2 : (S1 ++ [d2]).length = 2 := by rw [List.length_append, hl1]; rfl
  have p0 : Px 0 (S1 ++ [d2]) := by
    obtain ⟨a, f, c, gg, z⟩ := p2
    have := (List.getElem?_eq_some_iff.mp gg).1
    exact ⟨a, f, c, by rw [List.getElem?_append_left this]; exact gg, z⟩
  rw [hl1] at e3 p3
  generalize hS2 : S1 ++ [d2] = S2 at e3 p3 hl2 p0
  have hnl : (strsL (nmS l)).length = l.length := by simp
  have e4 := law_names (S := S1) (x1 := some (.v (.frl ns))) (x2 := some (.v (.tup [.lst (shD l), .lst (strsL st), .lst (strsL ln)]))) (x4 := some (.v (.lst (strsL st)))) n4
  obtain ⟨a, S3, e5, a0, a1, p4, q4⟩ := take_ok p3 (m := ((strsL (nmS l)).length : Int)) (by omega) (by omega)
  obtain ⟨k, rfl⟩ : ∃ k : Nat, a = (k : Int) := ⟨a.toNat, by omega⟩
  have hk : k < l.length := by omega
  have hts : ∀ t ∈ nmS l ++ ln, isNm t = true := fun t ht => by
    rcases List.mem_append.mp ht with ht | ht
    · exact g.nn t ht
    · exact g.lw t ht
  obtain ⟨f, S4, e6, f1, f2, p5, q5⟩ := word_ok (ts := nmS l ++ ln) p4 (fun t ht => okT_nm (hts t ht)) (last_nm hts)
  have f2 := f2 (by rw [List.length_append]; simp; omega)
  have hfn : f ∉ nmS l := fun h => f2 (List.mem_append_left _ h)
  have hfl : f ∉ ln := fun h => f2 (List.mem_append_right _ h)
  have hl4 : S4.length = 2 := by rw [q5.1, q4.1, hl2]
  have p04 : Px 0 S4 := by
    obtain ⟨a, f, c, gg, z⟩ := p0
    exact ⟨a, f, c, by rw [q5.2 0 (by decide), q4.2 0 (by decide)]; exact gg, z⟩
  have hf4 : stoFlat S4 = true := flat_of fun i d hi => by
    have hlt := (List.getElem?_eq_some_iff.mp hi).1
    rw [hl4] at hlt
    have : i = 0 ∨ i = 1 := by omega
    rcases this with rfl | rfl
    · exact flat_px p04 hi
    · exact flat_px p5 hi
  obtain ⟨z1, z2⟩ := good_hz g
  have e7 := handed_okC (S := S4) z1 z2
  have hc := cel_handed (S := S4) (l := l)
  rw [hl4] at e7 hc
  obtain ⟨T1, hT1⟩ : ∃ T1, T1 = S4 ++ hcS l l.length := ⟨_, rfl⟩
  have hlT : T1.length = 2 + 2 * l.length := by rw [hT1, List.length_append, hl4, hcS_len]
  have hfT : stoFlat T1 = true := by rw [hT1]; exact flat_appX hf4 hcS_flat
  have pT : Px 1 T1 := by
    obtain ⟨a, f, c, gg, z⟩ := p5
    have := (List.getElem?_eq_some_iff.mp gg).1
    exact ⟨a, f, c, by rw [hT1, List.getElem?_append_left this]; exact gg, z⟩
  rw [← hT1] at e7 hc
  obtain ⟨T2, hT2⟩ : ∃ T2, T2 = T1 ++ [.lst (pgX l (cX 2) (cY 2))] := ⟨_, rfl⟩
  have hlT2 : T2.length = T1.length + 1 := by rw [hT2, List.length_append]; rfl
  obtain ⟨T3, hT3⟩ : ∃ T3, T3 = T2 ++ [.lst (strsL st)] := ⟨_, rfl⟩
  have hfl3 : stoFlat T3 = true := by
    rw [hT3, hT2]
    refine flat_appX (flat_appX hfT fun d hd => ?_) fun d hd => ?_
    · rw [List.mem_singleton.mp hd]; exact pgX_flat (X := cX 2) (Y := cY 2) (fun _ => rfl) (fun _ => rfl)
    · rw [List.mem_singleton.mp hd]; exact flats_strs _
  have hc3 : HcB T3 l st T1.length := by
    refine ⟨?_, ?_, ?_, hfl3, hlT⟩
    · rw [hT3, hT2]; exact (hc.app).app
    · rw [hT3, List.getElem?_append_left (by omega), hT2, List.getElem?_append_right (by omega)]; simp
    · rw [hT3, List.getElem?_append_right (by omega), hlT2]; simp
  have p3T : Px 1 T3 := by
    obtain ⟨a, f, c, gg, z⟩ := pT
    have := (List.getElem?_eq_some_iff.mp gg).1
    exact ⟨a, f, c, by rw [hT3, hT2, List.append_assoc, List.getElem?_append_left this]; exact gg, z⟩
  have e8 := make_rd (S := T3) (d1 := .cell T1.length) (d2 := .cell (T1.length + 1)) g hfl3 (gdX hc3.h8) (gdX hc3.h9) (fun i hi => (cel_rd hc3.c hi).1) (fun i hi => (cel_rd hc3.c hi).2)
  have e9 := shows_ok (S := T3) g
  obtain ⟨x, T4, e10, x0, x1, p6, q6⟩ := take_ok p3T (m := 1000000000) (by decide) (by decide)
  obtain ⟨y, T5, e11, y0, y1, p7, q7⟩ := take_ok p6 (m := 999999991) (by decide) (by decide)
  have hc5 := (hc3.pt q6 p6).pt q7 p7
  obtain ⟨x11, e12⟩ := law_pages (S := T5) (l := l) (st := st) (ln := ln) (k := k) (f := f) (ns := ns) (N := T1.length) (ks := [-1, -1 - x, ((strsL (nmS l)).length : Nat), ((strsL (nmS l)).length : Nat) + y]) n4 (fun z hz => by
    simp only [List.mem_cons, List.not_mem_nil, or_false] at hz
    rcases hz with rfl | rfl | rfl | rfl <;> omega)
  have hk0 : 0 < (nmS l).length := by simpa using (show 0 < l.length by omega)
  have hkk : k < (nmS l).length := by simpa using hk
  have at0 : atI (strsL (nmS l)) 0 = some (.str ((nmS l).getD 0 Str.empty)) := at_mapD (F := Da.str) Str.empty (i := 0) hk0
  have atk : atI (strsL (nmS l)) ((k : Nat) : Int) = some (.str ((nmS l).getD k Str.empty)) := at_mapD (F := Da.str) Str.empty hkk
  have nm0 : isNm ((nmS l).getD 0 Str.empty) = true := by rw [List.getD_eq_getElem?_getD, List.getElem?_eq_getElem hk0]; exact g.nn _ (List.getElem_mem _)
  have nmk : isNm ((nmS l).getD k Str.empty) = true := by rw [List.getD_eq_getElem?_getD, List.getElem?_eq_getElem hkk]; exact g.nn _ (List.getElem_mem _)
  have w0 := nm_pos nm0
  have wk := nm_pos nmk
  have wf := nm_pos f1
  have wsp : ((" " : String) : Str).length = 1 := by decide +kernel
  have wem : (("" : String) : Str).length = 0 := by decide +kernel
  have c1 : ((nmS l).getD 0 Str.empty).length + ((" " : String) : Str).length ≤ 1000000 := by omega
  have c2 : ((nmS l).getD k Str.empty).length + ((nmS l).getD k Str.empty).length ≤ 1000000 := by omega
  have c4 : ((nmS l).getD k Str.empty).length ≤ 1000000 := by omega
  have lapp : ∀ a b : Str, (a ++ b).length = a.length + b.length := fun a b => by rw [ch_len, ch_app, List.length_append, ← ch_len, ← ch_len]
  obtain ⟨x12, e13⟩ := law_words (S := T5) (l := l) (st := st) (ln := ln) (k := k) (f := f) (ns := ns) (N := T1.length) (x11 := x11) (ws := [f, (("" : String) : Str), (nmS l).getD 0 Str.empty ++ ((" " : String) : Str), (nmS l).getD k Str.empty ++ (nmS l).getD k Str.empty, cutS ((nmS l).getD k Str.empty) (some 1) none] ++ ln) (fun z hz => by
    rcases List.mem_append.mp hz with hz | hz
    · simp only [List.mem_cons, List.not_mem_nil, or_false] at hz
      rcases hz with rfl | rfl | rfl | rfl | rfl
      · omega
      · omega
      · rw [lapp]; omega
      · rw [lapp]; omega
      · rw [ch_len, ch_from _ (by decide), List.length_drop, ← ch_len]; omega
    · have := nm_pos (g.lw z hz); omega)
  rw [show strsL ([f, (("" : String) : Str), (nmS l).getD 0 Str.empty ++ ((" " : String) : Str), (nmS l).getD k Str.empty ++ (nmS l).getD k Str.empty, cutS ((nmS l).getD k Str.empty) (some 1) none] ++ ln) = [.str f, .str (("" : String) : Str), .str ((nmS l).getD 0 Str.empty ++ ((" " : String) : Str)), .str ((nmS l).getD k Str.empty ++ (nmS l).getD k Str.empty), .str (cutS ((nmS l).getD k Str.empty) (some 1) none)] ++ strsL ln from List.map_append] at e13
  have c3 : 5 + (strsL ln).length ≤ 1000000 := by rw [List.length_map]; omega
  have e14 := same_pg hc5 g
  have e15 := same_st hc5 g
  obtain ⟨y1', z1', U1, U2, U3, U4, hfU, m1, m2, m3, m4, m5, m6⟩ := changes (ln := ln) (ns := ns) (f := f) (x11 := x11) (x12 := x12) hc5 g hk
  have e16 := shows_ok (S := U4) g
  obtain ⟨U5, e17, hf5⟩ := unlike_ok (S := U4) hfU g h8 hk f1 hfl hfn
  have e18 := fun (x11 x12 z1' : Option Sx) => law_back (T := U5) (σ := lA ns l st ln k f T1.length x11 x12 z1' none) z1 n4 (fun s => ⟨_, rfl, rfl⟩)
  have e19 := make_lst (S := U5) (twin_good g) hf5
  rw [twin_bk] at e19
  have e20 := fun S => book_cmp (S := S) g g
  simp only [bkB_self] at e20
  have e21 := shows_ok (S := U5) g
  have e22 := same_ok (x := .bl true) (S := U5) rfl
  have hrev : (strsL st).reverse = strsL st.reverse := List.map_reverse.symm
  have cz1 : (strsL (nmS l)).length + (strsL ln).length ≤ 1000000 := by rw [List.length_map, List.length_map]; simp; omega
  have cz2 : (strsL st).length ≤ 1000000 := by have := (good_le g).1; rw [List.length_map]; omega
  have hwd : strsL (nmS l ++ ln) = strsL (nmS l) ++ strsL ln := List.map_append
  rw [hwd] at e6
  have hb : ∃ ds, bkO l st = .obj "Book" ["names", "starts", "page_lines", "page_followers"] ds := ⟨_, rfl⟩
  obtain ⟨bds, hb⟩ := hb
  refine ⟨U5, ?_⟩
  unfold lA at e12 e13 e18 m1 m2 m3 m4 m5 m6
  rw [hb] at e8 e9 e12 e13 e16 e17 e18 e19 e20 e21 m1 m2 m3 m4 m5 m6
  change foldFor _ _ [.int (-1), .int (-1 - x), .int ((strsL (nmS l)).length : Nat), .int (((strsL (nmS l)).length : Nat) + y)] _ _ = _ at e12
  have hT3' := hT3.symm
  have hT2' := hT2.symm
  have hS2' := hS2
  clear hl p1 hN1 g h8 p2 q2 p3 n1 n4 hl2 p0 a0 a1 p4 q4 hk hts f1 f2 p5 q5 hfn hfl hl4 p04 hf4 z1 z2 hc hlT hfT pT hfl3 hc3 p3T x0 x1 p6 q6 y0 y1 p7 q7 hc5 hk0 hkk nm0 nmk w0 wk wf wsp wem lapp hfU hf5 hwd hb hT1 hT2 hT3 hS2 hnl
  generalize pgX l (cX 2) (cY 2) = pg at *
  generalize (nmS l).getD 0 Str.empty = n0 at *
  generalize (nmS l).getD k Str.empty = nk at *
  generalize shD (l.map tw) = dtw at *
  generalize strsL st.reverse = dsr at *
  generalize strsL (nmS l) = dn at *
  generalize shD l = ds1 at *
  generalize strsL st = ds2 at *
  generalize strsL ln = ds3 at *
  generalize ((k : Nat) : Int) = kk at *
  simp only [List.cons_append, List.nil_append] at e13
  simp only [f_law, fb_law]
  rw [← lm1_eq, ← lm2_eq, ← lm3_eq, ← lm4_eq, ← lm5_eq, ← lm6_eq]
  walk_at "g"
end
end
/-! ## Sn2 -/
end Cl
namespace Cl
open PySem PySem.Spec PyProof.Rows L2
open HeadE
section
variable {K : PySem.W.Frag} {mg : Str → Option Value}
theorem snd_l_cell (c : FZ K mg) : SndS K ⟨WF, none⟩ (t_l_cell K) fb_l_cell :=
  (snd_seq (snd_ifS (snd_test (snd_op sLt snd_var (snd_cb sLen (snd_cons snd_var snd_nil)))) (snd_ret (snd_cb sAbs (snd_cons (snd_op sIxL snd_var snd_var) snd_nil))) snd_next)
    (snd_ret (snd_c fun _ => .int _)))
theorem snd_l_pool (c : FZ K mg) : SndS K ⟨WF, none⟩ (t_l_pool K) fb_l_pool :=
  (snd_seq (snd_setD (snd_call (snd_cons snd_var (snd_cons snd_var snd_nil))))
    (snd_ret (snd_cell (snd_lst (snd_cons snd_var (snd_cons (snd_cb sInt1 (snd_cons (snd_op sGe snd_var (snd_op sPow (snd_c fun _ => .int _) (snd_c fun _ => .int _))) snd_nil)) (snd_cons (snd_op sMul (snd_c fun _ => .int _) snd_var) snd_nil)))))))
theorem snd_l_take (c : FZ K mg) : SndS K ⟨WF, none⟩ (t_l_take K) fb_l_take :=
  (snd_seq (snd_ifS (snd_and (snd_test (snd_op sEq (snd_op sIxL snd_var (snd_c fun _ => .int _)) (snd_c fun _ => .int _))) (snd_test (snd_op sGt (snd_op sIxL snd_var (snd_c fun _ => .int _)) (snd_c fun _ => .int _)))) (snd_seq (snd_setD (snd_op sMod (snd_cb sInt1 (snd_cons (snd_op sIxL snd_var (snd_c fun _ => .int _)) snd_nil)) snd_var))
    (snd_seq (snd_setI (snd_op sDiv (snd_op sIxL snd_var (snd_c fun _ => .int _)) snd_var) (snd_c fun _ => .int _))
    (snd_ret snd_var))) snd_next)
    (snd_seq (snd_setI (snd_op sAdd (snd_op sIxL snd_var (snd_c fun _ => .int _)) (snd_c fun _ => .int _)) (snd_c fun _ => .int _))
    (snd_seq (snd_setD (snd_op sMod (snd_cb sInt1 (snd_cons (snd_op sAdd (snd_op sMul (snd_op sAdd (snd_op sIxL snd_var (snd_c fun _ => .int _)) (snd_c fun _ => .int _)) (snd_c fun _ => .int _)) (snd_op sMul (snd_op sIxL snd_var (snd_c fun _ => .int _)) (snd_c fun _ => .int _))) snd_nil)) (snd_c fun _ => .int _)))
    (snd_seq (snd_setD (snd_op sMod (snd_cb sInt1 (snd_cons (snd_op sAdd (snd_op sMul snd_var (snd_c fun _ => .int _)) (snd_op sMul (snd_op sIxL snd_var (snd_c fun _ => .int _)) (snd_c fun _ => .int _))) snd_nil)) (snd_c fun _ => .int _)))
    (snd_seq (snd_ifS (snd_test (snd_op sGt (snd_op sIxL snd_var (snd_c fun _ => .int _)) (snd_c fun _ => .int _))) (snd_setD (snd_op sMod (snd_cb sInt1 (snd_cons (snd_op sMul (snd_op sDiv snd_var (snd_c fun _ => .int _)) (snd_op sAdd (snd_op sAdd (snd_op sDiv snd_var (snd_c fun _ => .int _)) (snd_op sIxL snd_var (snd_c fun _ => .int _))) (snd_c fun _ => .int _))) snd_nil)) (snd_c fun _ => .int _))) snd_next)
    (snd_ret (snd_op sMod (snd_cb sInt1 (snd_cons (snd_op sDiv snd_var (snd_c fun _ => .int _)) snd_nil)) snd_var)))))))
theorem snd_l_word (c : FZ K mg) : SndS K ⟨WF, none⟩ (t_l_word K) fb_l_word :=
  (snd_seq (snd_setD (snd_c fun _ => .str _))
    (snd_seq (snd_setD (snd_call (snd_cons snd_var (snd_cons (snd_op sMul (snd_c fun _ => .int _) (snd_op sPow (snd_c fun _ => .int _) (snd_c fun _ => .int _))) snd_nil))))
    (snd_seq (snd_setD (snd_op sMod (snd_cb sInt1 (snd_cons snd_var snd_nil)) (snd_c fun _ => .int _)))
    (snd_seq (snd_setD (snd_op sAdd (snd_c fun _ => .int _) (snd_op sMod (snd_cb sInt1 (snd_cons (snd_op sDiv snd_var (snd_c fun _ => .int _)) snd_nil)) (snd_c fun _ => .int _))))
    (snd_seq (snd_setD (snd_op sDiv snd_var (snd_c fun _ => .int _)))
    (snd_seq (snd_setD (snd_c fun _ => .str _))
    (snd_seq (snd_ifS (snd_and (snd_test (snd_op sEq snd_var (snd_c fun _ => .int _))) (snd_test (snd_op sNeD snd_var (snd_lst snd_nil)))) (snd_seq (snd_setD (snd_op sIxL snd_var (snd_neg (snd_c fun _ => .int _))))
    (snd_seq (snd_setD (snd_op sMod (snd_cb sInt1 (snd_cons snd_var snd_nil)) (snd_cb sLenS (snd_cons snd_var snd_nil))))
    (snd_setD (snd_op sAddS (snd_op sAddS (snd_sl sSlS snd_var snd_noP (snd_part snd_var)) (snd_op sIxS snd_var (snd_op sMod (snd_cb sInt1 (snd_cons snd_var snd_nil)) (snd_c fun _ => .int _)))) (snd_sl sSlS snd_var (snd_part (snd_op sAdd snd_var (snd_c fun _ => .int _))) snd_noP))))) (snd_for (snd_iR1 (snd_cons snd_var snd_nil)) snd_gName (snd_seq (snd_setD (snd_op sAddS snd_var (snd_op sIxS snd_var (snd_op sMod (snd_cb sInt1 (snd_cons snd_var snd_nil)) (snd_c fun _ => .int _)))))
    (snd_setD (snd_op sDiv snd_var (snd_c fun _ => .int _))))))
    (snd_seq (snd_for (snd_iR1 (snd_cons (snd_c fun _ => .int _) snd_nil)) snd_gName (snd_ifS (snd_test (snd_op sIn snd_var snd_var)) (snd_setD (snd_op sAddS (snd_op sIxS snd_var (snd_op sMod (snd_cb sInt1 (snd_cons (snd_op sAdd (snd_find snd_var (snd_op sIxS snd_var (snd_c fun _ => .int _))) (snd_c fun _ => .int _)) snd_nil)) (snd_c fun _ => .int _))) (snd_sl sSlS snd_var (snd_part (snd_c fun _ => .int _)) snd_noP))) snd_next))
    (snd_ret snd_var)))))))))
theorem snd_l_words (c : FZ K mg) : SndS K ⟨WF, none⟩ (t_l_words K) fb_l_words :=
  (snd_seq (snd_set (snd_lst snd_nil))
    (snd_seq (snd_for (snd_iR1 (snd_cons snd_var snd_nil)) snd_gName (snd_appS (snd_callL (snd_cons snd_var (snd_cons snd_var snd_nil)))))
    (snd_ret snd_var)))
theorem snd_l_some (c : FZ K mg) : SndS K ⟨WF, none⟩ (t_l_some K) fb_l_some :=
  (snd_seq (snd_setD (snd_call (snd_cons snd_var (snd_cons (snd_op sPow (snd_c fun _ => .int _) (snd_c fun _ => .int _)) snd_nil))))
    (snd_seq (snd_setD (snd_op sAdd snd_var (snd_op sMod (snd_cb sInt1 (snd_cons snd_var snd_nil)) (snd_op sAdd (snd_op sSub snd_var snd_var) (snd_c fun _ => .int _)))))
    (snd_seq (snd_setD (snd_op sDiv snd_var (snd_op sAdd (snd_op sSub snd_var snd_var) (snd_c fun _ => .int _))))
    (snd_seq (snd_setD (snd_cb sList (snd_cons snd_var snd_nil)))
    (snd_seq (snd_set (snd_lst snd_nil))
    (snd_seq (snd_for (snd_iR1 (snd_cons snd_var snd_nil)) snd_gName (snd_seq (snd_setD (snd_op sMod (snd_cb sInt1 (snd_cons snd_var snd_nil)) (snd_cb sLen (snd_cons snd_var snd_nil))))
    (snd_seq (snd_setD (snd_op sDiv snd_var (snd_cb sLen (snd_cons snd_var snd_nil))))
    (snd_seq (snd_appS (snd_op sIxL snd_var snd_var))
    (snd_setD (snd_op sCat (snd_sl sSlL snd_var snd_noP (snd_part snd_var)) (snd_sl sSlL snd_var (snd_part (snd_op sAdd snd_var (snd_c fun _ => .int _))) snd_noP)))))))
    (snd_ret snd_var)))))))
theorem snd_l_sheets (c : FZ K mg) : SndS K ⟨WF, none⟩ (t_l_sheets K) fb_l_sheets :=
  (snd_seq (snd_set (snd_call (snd_cons snd_var (snd_cons (snd_op sIxL (snd_lst (snd_cons (snd_c fun _ => .int _) (snd_cons (snd_c fun _ => .int _) (snd_cons (snd_c fun _ => .int _) (snd_cons (snd_c fun _ => .int _) (snd_cons (snd_c fun _ => .int _) (snd_cons (snd_c fun _ => .int _) snd_nil))))))) (snd_call (snd_cons snd_var (snd_cons (snd_c fun _ => .int _) snd_nil)))) snd_nil))))
    (snd_seq (snd_setD (snd_call (snd_cons snd_var (snd_cons (snd_op sAdd (snd_c fun _ => .int _) (snd_call (snd_cons snd_var (snd_cons (snd_c fun _ => .int _) snd_nil)))) snd_nil))))
    (snd_seq (snd_ifS (snd_and (snd_test (snd_op sEq (snd_call (snd_cons snd_var (snd_cons (snd_c fun _ => .int _) snd_nil))) (snd_c fun _ => .int _))) (snd_and (snd_test (snd_op sNeD snd_var (snd_lst snd_nil))) (snd_test (snd_op sIn (snd_op sIxL snd_var (snd_c fun _ => .int _)) snd_var)))) (snd_setI (snd_op sIxL snd_var (snd_c fun _ => .int _)) (snd_c fun _ => .int _)) snd_next)
    (snd_seq (snd_setD (snd_cb sMin2 (snd_cons (snd_cb sLen (snd_cons snd_var snd_nil)) (snd_cons (snd_op sAdd (snd_c fun _ => .int _) (snd_call (snd_cons snd_var (snd_cons (snd_c fun _ => .int _) snd_nil)))) snd_nil))))
    (snd_seq (snd_set (snd_lst snd_nil))
    (snd_seq (snd_for (snd_iL snd_var) snd_gName (snd_seq (snd_frz (snd_setD (snd_call (snd_cons snd_var (snd_cons snd_var (snd_cons (snd_c fun _ => .int _) (snd_cons (snd_cb sLen (snd_cons snd_var snd_nil)) snd_nil)))))))
    (snd_appS (snd_tup (snd_cons snd_var (snd_cons snd_var (snd_cons (snd_call (snd_cons snd_var (snd_cons snd_var (snd_cons (snd_c fun _ => .int _) (snd_cons snd_var snd_nil))))) snd_nil)))))))
    (snd_seq (snd_setD (snd_cb sMin2 (snd_cons (snd_cb sLen (snd_cons snd_var snd_nil)) (snd_cons (snd_op sAdd (snd_c fun _ => .int _) (snd_call (snd_cons snd_var (snd_cons (snd_c fun _ => .int _) snd_nil)))) snd_nil))))
    (snd_frz (snd_frz (snd_ret (snd_tup (snd_cons snd_var (snd_cons (snd_call (snd_cons snd_var (snd_cons snd_var (snd_cons (snd_c fun _ => .int _) (snd_cons snd_var snd_nil))))) (snd_cons snd_var snd_nil))))))))))))))
theorem snd_l_handed (c : FZ K mg) : SndS K ⟨WF, none⟩ (t_l_handed K) fb_l_handed :=
  (snd_ret (snd_lc (snd_iB snd_var) snd_gName (by simp) snd_yes (snd_tup (snd_cons (snd_op sIxT snd_var (snd_c fun _ => .int _)) (snd_cons (snd_cell (snd_cb sList (snd_cons (snd_op sIxT snd_var (snd_c fun _ => .int _)) snd_nil))) (snd_cons (snd_cell (snd_cb sList (snd_cons (snd_op sIxT snd_var (snd_c fun _ => .int _)) snd_nil))) snd_nil))))))
theorem snd_is_name (c : FZ K mg) : SndS K ⟨WF, none⟩ (t_is_name K) fb_is_name :=
  (snd_ret (snd_andV (snd_chain cLe sLe (snd_c fun _ => .int _) (snd_cb sLenS (snd_cons snd_var snd_nil)) (snd_c fun _ => .int _)) (snd_cb sAll (snd_cons (snd_lc ((snd_iS snd_var)).le snd_gName (by simp) snd_yes (snd_op sInS snd_var (snd_c fun _ => .str _))) snd_nil))))
theorem snd_all_different (c : FZ K mg) : SndS K ⟨WF, none⟩ (t_all_different K) fb_all_different :=
  (snd_ret (snd_op sEq (snd_lenS snd_var) (snd_cb sLen (snd_cons snd_var snd_nil))))
theorem snd_are_names (c : FZ K mg) : SndS K ⟨WF, none⟩ (t_are_names K) fb_are_names :=
  (snd_ret (snd_andV (snd_cb sAll (snd_cons (snd_lcX snd_var snd_gName (by simp) snd_yes (snd_call (snd_cons snd_var snd_nil))) snd_nil)) (snd_call (snd_cons snd_var snd_nil))))
theorem snd_are_some_of (c : FZ K mg) : SndS K ⟨WF, none⟩ (t_are_some_of K) fb_are_some_of :=
  (snd_ret (snd_andV (snd_op sGt (snd_cb sLen (snd_cons snd_var snd_nil)) (snd_c fun _ => .int _)) (snd_andV (snd_cb sAll (snd_cons (snd_lcX snd_var snd_gName (by simp) snd_yes (snd_op sIn snd_var snd_var)) snd_nil)) (snd_call (snd_cons snd_var snd_nil)))))
theorem snd_Book_indexes_of (c : FZ K mg) : SndS K ⟨WF, none⟩ (t_Book_indexes_of K) fb_Book_indexes_of :=
  (snd_ret (snd_cb sTup (snd_cons (snd_lc ((snd_iET (snd_cons (snd_un (snd_fld (c.cls 19) (c.noat 20) snd_var)) snd_nil))).le (snd_gTup (snd_gCons snd_gName (snd_gCons snd_gName snd_gNil))) (by simp) (snd_test (snd_op sIn snd_var snd_var)) snd_var) snd_nil)))
theorem snd_Book___init__ (c : FZ K mg) (E : XK) : SndS K ⟨W0 E, none⟩ (t_Book___init__ K E) fb_Book___init__ :=
  (snd_seq (snd_ifS (snd_not (snd_test (snd_chain cLe sLe (snd_c fun _ => .int _) (snd_cb sLen (snd_cons snd_var snd_nil)) (snd_c fun _ => .int _)))) (snd_raise (snd_cons (snd_c fun _ => .str _) (snd_cons (snd_c fun _ => .int _) snd_nil))) snd_next)
    (snd_seq (snd_set (snd_lst snd_nil))
    (snd_seq (snd_forXE (snd_cons snd_var snd_nil) (snd_gTup (snd_gCons snd_gName (snd_gCons snd_gName snd_gNil))) (snd_seq (snd_par (snd_cons (snd_op sIxT snd_var (snd_c fun _ => .int _)) (snd_cons (snd_op sIxT snd_var (snd_c fun _ => .int _)) snd_nil)))
    (snd_seq (snd_ifS (snd_or (snd_not (snd_B (snd_call (snd_cons snd_var snd_nil)))) (snd_or (snd_test (snd_op sIn snd_var snd_var)) (snd_or (snd_test (snd_op sGt (snd_cb sLen (snd_cons snd_var snd_nil)) (snd_c fun _ => .int _))) (snd_not (snd_B (snd_call (snd_cons snd_var snd_nil))))))) (snd_raise (snd_cons (snd_c fun _ => .str _) (snd_cons snd_var snd_nil))) snd_next)
    (snd_appS snd_var))))
    (snd_seq (snd_forXE (snd_cons snd_var snd_nil) (snd_gTup (snd_gCons snd_gName (snd_gCons snd_gName snd_gNil))) (snd_frz (snd_ifS (snd_not (snd_B (snd_call (snd_cons snd_var (snd_cons (snd_op sIxT snd_var (snd_c fun _ => .int _)) snd_nil))))) (snd_raise (snd_cons (snd_c fun _ => .str _) (snd_cons snd_var snd_nil))) snd_next)))
    (snd_seq (snd_frz (snd_ifS (snd_not (snd_B (snd_call (snd_cons snd_var (snd_cons snd_var snd_nil))))) (snd_raise (snd_cons (snd_c fun _ => .str _) (snd_cons (snd_c fun _ => .int _) snd_nil))) snd_next))
    (snd_seq (snd_sFld (c.cls 19) (c.noat 20) (snd_cb sTupN (snd_cons snd_var snd_nil)))
    (snd_seq (snd_sFld (c.cls 19) (c.noat 28) (snd_lendE (snd_meth snd_var (snd_cons snd_var snd_nil))))
    (snd_seq (snd_sFld (c.cls 19) (c.noat 29) (snd_cb sTup (snd_cons (snd_lcX snd_var snd_gName (by simp) snd_yes (snd_cb sTup (snd_cons (snd_op sIxT snd_var (snd_c fun _ => .int _)) snd_nil))) snd_nil)))
    (snd_sFld (c.cls 19) (c.noat 30) (snd_lendE (snd_cb sTup (snd_cons (snd_lcX snd_var snd_gName (by simp) snd_yes (snd_meth snd_var (snd_cons (snd_op sIxT snd_var (snd_c fun _ => .int _)) snd_nil))) snd_nil))))))))))))
theorem snd_l_places (c : FZ K mg) : SndS K ⟨WF, none⟩ (t_l_places K) fb_l_places :=
  (snd_ret (snd_lc ((snd_iR1 (snd_cons (snd_cb sLen (snd_cons snd_var snd_nil)) snd_nil))).le snd_gName (by simp) (snd_test (snd_op sIn (snd_op sIxL snd_var snd_var) snd_var)) snd_var))
theorem snd_Book___len__ (c : FZ K mg) : SndS K ⟨WF, none⟩ (t_Book___len__ K) fb_Book___len__ :=
  (snd_ret (snd_cb sLen (snd_cons (snd_un (snd_fld (c.cls 19) (c.noat 20) snd_var)) snd_nil)))
theorem snd_Book_check_page (c : FZ K mg) (E : XK) : SndS K ⟨W0 E, none⟩ (t_Book_check_page K E) fb_Book_check_page :=
  (snd_ifS (snd_not (snd_test (snd_chain cLe sLt (snd_c fun _ => .int _) snd_var (snd_cb sLen (snd_cons (snd_un (snd_fld (c.cls 19) (c.noat 20) snd_var)) snd_nil))))) (snd_raise (snd_cons snd_var snd_nil)) snd_next)
theorem snd_Book_lines_of (c : FZ K mg) (E : XK) : SndS K ⟨W0 E, none⟩ (t_Book_lines_of K E) fb_Book_lines_of :=
  (snd_seq (snd_drop (snd_methX snd_var (snd_cons snd_var snd_nil)))
    (snd_ret (snd_op sIxT (snd_fld (c.cls 19) (c.noat 29) snd_var) snd_var)))
theorem snd_Book_followers_of (c : FZ K mg) (E : XK) : SndS K ⟨W0 E, none⟩ (t_Book_followers_of K E) fb_Book_followers_of :=
  (snd_seq (snd_drop (snd_methX snd_var (snd_cons snd_var snd_nil)))
    (snd_ret (snd_op sIxT (snd_fld (c.cls 19) (c.noat 30) snd_var) snd_var)))
theorem snd_Book_index (c : FZ K mg) (E : XK) : SndS K ⟨W0 E, none⟩ (t_Book_index K E) fb_Book_index :=
  (snd_seq (snd_ifS (snd_test (snd_op sIn snd_var (snd_un (snd_fld (c.cls 19) (c.noat 20) snd_var)))) (snd_raise (snd_cons snd_var snd_nil)) snd_next)
    (snd_ret (snd_idxN (snd_fld (c.cls 19) (c.noat 20) snd_var) snd_var)))
theorem snd_l_shows (c : FZ K mg) : SndS K ⟨WF, none⟩ (t_l_shows K) fb_l_shows :=
  (snd_seq (snd_setD (snd_lc (snd_iB snd_var) snd_gName (by simp) snd_yes (snd_op sIxT snd_var (snd_c fun _ => .int _))))
    (snd_seq (snd_ifS (snd_or (snd_not (snd_B (snd_call (snd_cons (snd_un (snd_fld (c.cls 19) (c.noat 20) snd_var)) (snd_cons (snd_cb sTup (snd_cons snd_var snd_nil)) snd_nil))))) (snd_not (snd_B (snd_call (snd_cons (snd_fld (c.cls 19) (c.noat 28) snd_var) (snd_cons (snd_cb sTup (snd_cons (snd_call (snd_cons snd_var (snd_cons snd_var snd_nil))) snd_nil)) snd_nil)))))) (snd_ret (snd_c fun _ => .bl _)) snd_next)
    (snd_seq (snd_ifS (snd_test (snd_op sNe (snd_lenO snd_var) (snd_cb sLen (snd_cons snd_var snd_nil)))) (snd_ret (snd_c fun _ => .bl _)) snd_next)
    (snd_seq (snd_for (snd_iR1 (snd_cons (snd_cb sLen (snd_cons snd_var snd_nil)) snd_nil)) snd_gName (snd_seq (snd_ifS (snd_not (snd_B (snd_call (snd_cons (snd_methX snd_var (snd_cons snd_var snd_nil)) (snd_cons (snd_cb sTup (snd_cons (snd_op sIxT (snd_op sIxL snd_var snd_var) (snd_c fun _ => .int _)) snd_nil)) snd_nil))))) (snd_ret (snd_c fun _ => .bl _)) snd_next)
    (snd_seq (snd_ifS (snd_not (snd_B (snd_call (snd_cons (snd_methX snd_var (snd_cons snd_var snd_nil)) (snd_cons (snd_cb sTup (snd_cons (snd_call (snd_cons snd_var (snd_cons (snd_op sIxT (snd_op sIxL snd_var snd_var) (snd_c fun _ => .int _)) snd_nil))) snd_nil)) snd_nil))))) (snd_ret (snd_c fun _ => .bl _)) snd_next)
    (snd_ifS (snd_not (snd_B (snd_call (snd_cons (snd_methX snd_var (snd_cons (snd_op sIxL snd_var snd_var) snd_nil)) (snd_cons snd_var snd_nil))))) (snd_ret (snd_c fun _ => .bl _)) snd_next))))
    (snd_ret (snd_c fun _ => .bl _))))))
theorem snd_l_asked (c : FZ K mg) (E : XK) : SndS K ⟨W0 E, none⟩ (t_l_asked K E) fb_l_asked :=
  (snd_seq (snd_ifS (snd_test (snd_op sEq snd_var (snd_c fun _ => .int _))) (snd_ret (snd_methX snd_var (snd_cons snd_var snd_nil))) snd_next)
    (snd_ret (snd_methX snd_var (snd_cons snd_var snd_nil))))
theorem snd_l_refuses_page (c : FZ K mg) : SndS K ⟨WF, none⟩ (t_l_refuses_page K) fb_l_refuses_page :=
  (snd_seq (snd_setD (snd_c fun _ => .non))
    (snd_seq (snd_setD (snd_c fun _ => .bl _))
    (snd_seq (snd_try (tab_ok c) (fun W => (snd_setD (snd_callS (snd_cons snd_var (snd_cons snd_var (snd_cons snd_var snd_nil)))))) (SndH.cons (fun a d e => (snd_seq (snd_setD snd_xf)
    (snd_setD (snd_andV (snd_isE rel_ref (c.kit 2)) (snd_andV (snd_isE rel_ty (c.kitT 3)) (snd_notV (snd_isE rel_ref (c.kit 4)))))))) SndH.nil))
    (snd_ret (snd_andV snd_var (snd_call (snd_cons snd_var (snd_cons snd_var snd_nil))))))))
theorem snd_l_refuses_name (c : FZ K mg) : SndS K ⟨WF, none⟩ (t_l_refuses_name K) fb_l_refuses_name :=
  (snd_seq (snd_setD (snd_c fun _ => .non))
    (snd_seq (snd_setD (snd_c fun _ => .bl _))
    (snd_seq (snd_try (tab_ok c) (fun W => (snd_setD (snd_methX snd_var (snd_cons snd_var snd_nil)))) (SndH.cons (fun a d e => (snd_seq (snd_setD snd_xf)
    (snd_setD (snd_andV (snd_isE rel_ref (c.kit 7)) (snd_andV (snd_isE rel_ty (c.kitT 8)) (snd_notV (snd_isE rel_ref (c.kit 9)))))))) SndH.nil))
    (snd_ret (snd_andV snd_var (snd_call (snd_cons snd_var (snd_cons snd_var snd_nil))))))))
theorem snd_Book___eq__ (c : FZ K mg) : SndS K ⟨WF, none⟩ (t_Book___eq__ K) fb_Book___eq__ :=
  (snd_ret (snd_andV (snd_isC (c.cls 19) (c.isc 10) (c.kit 11) snd_var) (snd_andV (snd_op sEqD (snd_un (snd_fld (c.cls 19) (c.noat 20) snd_var)) (snd_un (snd_fld (c.cls 19) (c.noat 20) snd_var))) (snd_andV (snd_op sEqD (snd_fld (c.cls 19) (c.noat 29) snd_var) (snd_fld (c.cls 19) (c.noat 29) snd_var)) (snd_andV (snd_op sEqD (snd_fld (c.cls 19) (c.noat 30) snd_var) (snd_fld (c.cls 19) (c.noat 30) snd_var)) (snd_op sEqD (snd_fld (c.cls 19) (c.noat 28) snd_var) (snd_fld (c.cls 19) (c.noat 28) snd_var)))))))
theorem snd_l_other_some (c : FZ K mg) : SndS K ⟨WF, none⟩ (t_l_other_some K) fb_l_other_some :=
  (snd_seq (snd_setD (snd_lc (snd_iB snd_var) snd_gName (by simp) (snd_test (snd_op sIn snd_var snd_var)) snd_var))
    (snd_seq (snd_ifS (snd_test (snd_op sNeD snd_var (snd_lst snd_nil))) (snd_ret (snd_op sCat snd_var (snd_lst (snd_cons (snd_op sIxL snd_var (snd_c fun _ => .int _)) snd_nil)))) snd_next)
    (snd_seq (snd_ifS (snd_test (snd_op sGt (snd_cb sLen (snd_cons snd_var snd_nil)) (snd_c fun _ => .int _))) (snd_ret (snd_sl sSlL snd_var snd_noP (snd_part (snd_op sSub (snd_cb sLen (snd_cons snd_var snd_nil)) (snd_c fun _ => .int _))))) snd_next)
    (snd_ret (snd_c fun _ => .non)))))
theorem snd_l_renamed (c : FZ K mg) : SndS K ⟨WF, none⟩ (t_l_renamed K) fb_l_renamed :=
  (snd_ret (snd_lc (snd_iB snd_var) snd_gName (by simp) snd_yes (snd_if (snd_test (snd_op sEq snd_var snd_var)) snd_var snd_var)))
theorem snd_l_near (c : FZ K mg) : SndS K ⟨WF, none⟩ (t_l_near K) fb_l_near :=
  (snd_seq (snd_setD (snd_lc (snd_iB snd_var) snd_gName (by simp) snd_yes (snd_op sIxT snd_var (snd_c fun _ => .int _))))
    (snd_seq (snd_setD (snd_op sIxL snd_var snd_var))
    (snd_seq (snd_ifS (snd_test (snd_op sEq snd_var (snd_c fun _ => .int _))) (snd_seq (snd_setD (snd_op sCat (snd_op sIxT snd_var (snd_c fun _ => .int _)) (snd_lst (snd_cons snd_var snd_nil))))
    (snd_seq (snd_ifS (snd_test (snd_op sNeD (snd_op sIxT snd_var (snd_c fun _ => .int _)) (snd_lst snd_nil))) (snd_setD (snd_sl sSlL (snd_op sIxT snd_var (snd_c fun _ => .int _)) (snd_part (snd_c fun _ => .int _)) snd_noP)) snd_next)
    (snd_ret (snd_tup (snd_cons (snd_op sCat (snd_op sCat (snd_sl sSlL snd_var snd_noP (snd_part snd_var)) (snd_lst (snd_cons (snd_tup (snd_cons (snd_op sIxT snd_var (snd_c fun _ => .int _)) (snd_cons snd_var (snd_cons (snd_op sIxT snd_var (snd_c fun _ => .int _)) snd_nil)))) snd_nil))) (snd_sl sSlL snd_var (snd_part (snd_op sAdd snd_var (snd_c fun _ => .int _))) snd_noP)) (snd_cons snd_var snd_nil)))))) snd_next)
    (snd_seq (snd_ifS (snd_test (snd_op sEq snd_var (snd_c fun _ => .int _))) (snd_seq (snd_setD (snd_call (snd_cons snd_var (snd_cons (snd_op sIxT snd_var (snd_c fun _ => .int _)) snd_nil))))
    (snd_seq (snd_ifS (snd_test (snd_op sIsN snd_var (snd_c fun _ => .non))) (snd_ret (snd_c fun _ => .non)) snd_next)
    (snd_ret (snd_tup (snd_cons (snd_op sCat (snd_op sCat (snd_sl sSlL snd_var snd_noP (snd_part snd_var)) (snd_lst (snd_cons (snd_tup (snd_cons (snd_op sIxT snd_var (snd_c fun _ => .int _)) (snd_cons (snd_op sIxT snd_var (snd_c fun _ => .int _)) (snd_cons snd_var snd_nil)))) snd_nil))) (snd_sl sSlL snd_var (snd_part (snd_op sAdd snd_var (snd_c fun _ => .int _))) snd_noP)) (snd_cons snd_var snd_nil)))))) snd_next)
    (snd_seq (snd_ifS (snd_test (snd_op sEq snd_var (snd_c fun _ => .int _))) (snd_seq (snd_setD (snd_call (snd_cons snd_var (snd_cons snd_var snd_nil))))
    (snd_seq (snd_ifS (snd_test (snd_op sIsN snd_var (snd_c fun _ => .non))) (snd_ret (snd_c fun _ => .non)) snd_next)
    (snd_ret (snd_tup (snd_cons snd_var (snd_cons snd_var snd_nil)))))) snd_next)
    (snd_seq (snd_ifS (snd_test (snd_op sEq snd_var (snd_c fun _ => .int _))) (snd_seq (snd_set (snd_lst snd_nil))
    (snd_seq (snd_for (snd_iL snd_var) snd_gName (snd_seq (snd_setD (snd_op sIxL (snd_call (snd_cons (snd_lst (snd_cons (snd_op sIxT snd_var (snd_c fun _ => .int _)) snd_nil)) (snd_cons (snd_op sIxT snd_var (snd_c fun _ => .int _)) (snd_cons snd_var snd_nil)))) (snd_c fun _ => .int _)))
    (snd_appS (snd_tup (snd_cons snd_var (snd_cons (snd_op sIxT snd_var (snd_c fun _ => .int _)) (snd_cons (snd_call (snd_cons (snd_op sIxT snd_var (snd_c fun _ => .int _)) (snd_cons (snd_op sIxT snd_var (snd_c fun _ => .int _)) (snd_cons snd_var snd_nil)))) snd_nil)))))))
    (snd_frz (snd_ret (snd_tup (snd_cons snd_var (snd_cons (snd_call (snd_cons snd_var (snd_cons (snd_op sIxT snd_var (snd_c fun _ => .int _)) (snd_cons snd_var snd_nil)))) snd_nil))))))) snd_next)
    (snd_seq (snd_ifS (snd_and (snd_test (snd_op sEq snd_var (snd_c fun _ => .int _))) (snd_test (snd_op sGt (snd_cb sLen (snd_cons snd_var snd_nil)) (snd_c fun _ => .int _)))) (snd_ret (snd_tup (snd_cons (snd_op sCat (snd_sl sSlL snd_var (snd_part (snd_c fun _ => .int _)) snd_noP) (snd_sl sSlL snd_var snd_noP (snd_part (snd_c fun _ => .int _)))) (snd_cons snd_var snd_nil)))) snd_next)
    (snd_seq (snd_ifS (snd_and (snd_test (snd_op sEq snd_var (snd_c fun _ => .int _))) (snd_test (snd_op sLt (snd_cb sLen (snd_cons snd_var snd_nil)) (snd_c fun _ => .int _)))) (snd_ret (snd_tup (snd_cons (snd_op sCat snd_var (snd_lst (snd_cons (snd_tup (snd_cons snd_var (snd_cons (snd_lst snd_nil) (snd_cons (snd_lst (snd_cons snd_var snd_nil)) snd_nil)))) snd_nil))) (snd_cons snd_var snd_nil)))) snd_next)
    (snd_ret (snd_c fun _ => .non))))))))))
theorem snd_l_unlike (c : FZ K mg) : SndS K ⟨WF, none⟩ (t_l_unlike K) fb_l_unlike :=
  (snd_seq (snd_for (snd_iR1 (snd_cons (snd_c fun _ => .int _) snd_nil)) snd_gName (snd_seq (snd_setD (snd_call (snd_cons snd_var (snd_cons snd_var (snd_cons snd_var (snd_cons snd_var (snd_cons snd_var snd_nil)))))))
    (snd_ifS (snd_test (snd_op sNotN snd_var (snd_c fun _ => .non))) (snd_seq (snd_setD (snd_makeX (snd_cons (snd_call (snd_cons (snd_op sIxT snd_var (snd_c fun _ => .int _)) snd_nil)) (snd_cons (snd_cb sList (snd_cons (snd_op sIxT snd_var (snd_c fun _ => .int _)) snd_nil)) snd_nil))))
    (snd_seq (snd_ifS (snd_not (snd_B (snd_call (snd_cons snd_var (snd_cons (snd_op sIxT snd_var (snd_c fun _ => .int _)) (snd_cons (snd_op sIxT snd_var (snd_c fun _ => .int _)) snd_nil)))))) (snd_ret (snd_c fun _ => .bl _)) snd_next)
    (snd_ifS (snd_or (snd_not (snd_B (snd_call (snd_cons (snd_ownEq snd_var snd_var) (snd_cons (snd_c fun _ => .bl _) snd_nil))))) (snd_not (snd_B (snd_call (snd_cons (snd_ownEq snd_var snd_var) (snd_cons (snd_c fun _ => .bl _) snd_nil)))))) (snd_ret (snd_c fun _ => .bl _)) snd_next))) snd_next)))
    (snd_ret (snd_c fun _ => .bl _)))
theorem snd_law (c : FZ K mg) : SndS K ⟨WF, none⟩ (t_law K) fb_law :=
  (snd_seq (snd_setD (snd_call (snd_cons snd_var (snd_cons (snd_c fun _ => .int _) snd_nil))))
    (snd_seq (snd_setD (snd_call (snd_cons snd_var snd_nil)))
    (snd_seq (snd_setD (snd_op sIxT snd_var (snd_c fun _ => .int _)))
    (snd_seq (snd_setD (snd_op sIxT snd_var (snd_c fun _ => .int _)))
    (snd_seq (snd_setD (snd_lc (snd_iB snd_var) snd_gName (by simp) snd_yes (snd_op sIxT snd_var (snd_c fun _ => .int _))))
    (snd_seq (snd_setD (snd_call (snd_cons snd_var (snd_cons (snd_c fun _ => .int _) snd_nil))))
    (snd_seq (snd_setD (snd_call (snd_cons snd_var (snd_cons (snd_cb sLen (snd_cons snd_var snd_nil)) snd_nil))))
    (snd_seq (snd_setD (snd_call (snd_cons snd_var (snd_cons (snd_op sCat snd_var (snd_op sIxT snd_var (snd_c fun _ => .int _))) snd_nil))))
    (snd_seq (snd_setD (snd_cell (snd_call (snd_cons snd_var snd_nil))))
    (snd_seq (snd_setD (snd_cell (snd_cb sList (snd_cons snd_var snd_nil))))
    (snd_seq (snd_setD (snd_makeX (snd_cons snd_var (snd_cons snd_var snd_nil))))
    (snd_seq (snd_ifS (snd_not (snd_B (snd_call (snd_cons snd_var (snd_cons snd_var (snd_cons snd_var snd_nil)))))) (snd_ret (snd_c fun _ => .bl _)) snd_next)
    (snd_seq (snd_for (snd_iL (snd_lst (snd_cons (snd_neg (snd_c fun _ => .int _)) (snd_cons (snd_op sSub (snd_neg (snd_c fun _ => .int _)) (snd_call (snd_cons snd_var (snd_cons (snd_op sPow (snd_c fun _ => .int _) (snd_c fun _ => .int _)) snd_nil)))) (snd_cons (snd_cb sLen (snd_cons snd_var snd_nil)) (snd_cons (snd_op sAdd (snd_cb sLen (snd_cons snd_var snd_nil)) (snd_call (snd_cons snd_var (snd_cons (snd_op sSub (snd_op sPow (snd_c fun _ => .int _) (snd_c fun _ => .int _)) (snd_c fun _ => .int _)) snd_nil)))) snd_nil)))))) snd_gName (snd_ifS (snd_or (snd_not (snd_B (snd_call (snd_cons snd_var (snd_cons (snd_c fun _ => .int _) (snd_cons snd_var snd_nil)))))) (snd_not (snd_B (snd_call (snd_cons snd_var (snd_cons (snd_c fun _ => .int _) (snd_cons snd_var snd_nil))))))) (snd_ret (snd_c fun _ => .bl _)) snd_next))
    (snd_seq (snd_for (snd_iL (snd_op sCat (snd_lst (snd_cons snd_var (snd_cons (snd_c fun _ => .str _) (snd_cons (snd_op sAddS (snd_op sIxL snd_var (snd_c fun _ => .int _)) (snd_c fun _ => .str _)) (snd_cons (snd_op sAddS (snd_op sIxL snd_var snd_var) (snd_op sIxL snd_var snd_var)) (snd_cons (snd_sl sSlS (snd_op sIxL snd_var snd_var) (snd_part (snd_c fun _ => .int _)) snd_noP) snd_nil)))))) (snd_op sIxT snd_var (snd_c fun _ => .int _)))) snd_gName (snd_ifS (snd_and (snd_test (snd_op sIn snd_var snd_var)) (snd_not (snd_B (snd_call (snd_cons snd_var (snd_cons snd_var snd_nil)))))) (snd_ret (snd_c fun _ => .bl _)) snd_next))
    (snd_seq (snd_ifS (snd_or (snd_not (snd_B (snd_call (snd_cons snd_var (snd_cons snd_var snd_nil))))) (snd_not (snd_B (snd_call (snd_cons snd_var (snd_cons snd_var snd_nil)))))) (snd_ret (snd_c fun _ => .bl _)) snd_next)
    (snd_seq (snd_setD (snd_op sIxT (snd_op sIxL snd_var snd_var) (snd_c fun _ => .int _)))
    (snd_seq (snd_insE snd_var (snd_c fun _ => .int _) snd_var)
    (snd_seq (snd_setD (snd_op sIxT (snd_op sIxL snd_var snd_var) (snd_c fun _ => .int _)))
    (snd_seq (snd_appE snd_var snd_var)
    (snd_seq (snd_appE snd_var (snd_tup (snd_cons snd_var (snd_cons (snd_cell (snd_lst snd_nil)) (snd_cons (snd_cell (snd_lst (snd_cons snd_var snd_nil))) snd_nil)))))
    (snd_seq (snd_appE snd_var snd_var)
    (snd_seq (snd_ifS (snd_or (snd_not (snd_B (snd_call (snd_cons snd_var (snd_cons snd_var (snd_cons snd_var snd_nil)))))) (snd_not (snd_B (snd_call (snd_cons snd_var (snd_cons snd_var (snd_cons snd_var (snd_cons snd_var (snd_cons snd_var snd_nil))))))))) (snd_ret (snd_c fun _ => .bl _)) snd_next)
    (snd_seq (snd_setD (snd_lc (snd_iB snd_var) snd_gName (by simp) snd_yes (snd_tup (snd_cons (snd_op sIxT snd_var (snd_c fun _ => .int _)) (snd_cons (snd_cb sList (snd_cons (snd_op sIxT snd_var (snd_c fun _ => .int _)) snd_nil)) (snd_cons (snd_rev (snd_op sIxT snd_var (snd_c fun _ => .int _))) snd_nil))))))
    (snd_seq (snd_setD (snd_makeX (snd_cons snd_var (snd_cons (snd_rev snd_var) snd_nil))))
    (snd_ret (snd_andV (snd_call (snd_cons (snd_ownEq snd_var snd_var) (snd_cons (snd_c fun _ => .bl _) snd_nil))) (snd_andV (snd_call (snd_cons (snd_ownEq snd_var snd_var) (snd_cons (snd_c fun _ => .bl _) snd_nil))) (snd_call (snd_cons snd_var (snd_cons snd_var (snd_cons snd_var snd_nil)))))))))))))))))))))))))))))))
end
end Cl
/-! ## Ok2 -/
namespace Cl
open PySem PySem.Spec PyProof.Rows L2
open HeadE
section
variable {w : World} {K : PySem.W.Frag} {mg : Str → Option Value} {base : Heap}
theorem ok_l_cell_fd (c : FZ K mg) {fd : FuncData} (F' : FunD K "_law_cell" "_law_cell" (defArgs s_l_cell) (defBody s_l_cell) (defScope s_l_cell) [] [] (He.fAd K ("_law_cell", none)) fd) : FnOk PP w K mg base CX0 1 (He.fAd K ("_law_cell", none)) fd ["_law_script", "_law_k"] (spOf K f_l_cell) := by
  refine F'.ok sc_l_cell (fun vs H Q E h => fn_len0 h) (fun cdv A outer s H vs Q E hr h => ⟨t_l_cell K, PSs.nox ?_, fn_pure0 (snd_l_cell c) h⟩)
  exact (pss_cons (ps_if (pt_cmpR op_lt (pv 1) (pe_callB cl_len (by rfl) (c.free 0) (by decide +kernel) (pa_cons (pv 0) pa_nil)) (nomark _)) (pss_one (ps_ret (pe_callB cl_abs (by rfl) (c.free 1) (by decide +kernel) (pa_cons (pe_ix ix_list (pv 0) (pv 1) (fun _ _ => rfl)) pa_nil)))) pss_nil)
      (pss_one (ps_ret pe_int)))
theorem ok_l_cell (c : FZ K mg) : FnX PP w K mg base CX0 1 ("_law_cell", none) ["_law_script", "_law_k"] (spOf K f_l_cell) := by
  obtain ⟨fd, F⟩ := c.says.def_ 0 (d := d_l_cell) rfl
  have F' : FunD K "_law_cell" "_law_cell" (defArgs s_l_cell) (defBody s_l_cell) (defScope s_l_cell) [] [] (He.fAd K ("_law_cell", none)) fd := F
  exact ⟨⟨fd, ok_l_cell_fd c F', F'.bindsN fun _ _ _ _ _ _ us hl => match us, hl with | [_, _], _ => rfl⟩, F'.kp⟩
theorem ok_l_pool_fd (c : FZ K mg) {fd : FuncData} (F' : FunD K "_law_pool" "_law_pool" (defArgs s_l_pool) (defBody s_l_pool) (defScope s_l_pool) [] [] (He.fAd K ("_law_pool", none)) fd) : FnOk PP w K mg base CX0 2 (He.fAd K ("_law_pool", none)) fd ["_law_script", "_law_k"] (spOf K f_l_pool) := by
  refine F'.ok sc_l_pool (fun vs H Q E h => fn_len0 h) (fun cdv A outer s H vs Q E hr h => ⟨t_l_pool K, PSs.nox ?_, fn_pure0 (snd_l_pool c) h⟩)
  exact (pss_cons (ps_set (i := 2) sc_l_pool.nd rfl (by first | exact Or.inl rfl | exact Or.inr rfl) (pcall (ok_l_cell c) (hr.mono (by decide)) (by rfl) (c.glo 2) pass0 (pa_cons (pv 0) (pa_cons (pv 1) pa_nil))))
      (pss_one (ps_ret (pe_lst (pa_cons (pv 2) (pa_cons (pe_callTy cl_int1 (by rfl) (c.free 3) (by decide +kernel) (pa_cons (pe_cmpR op_ge (pv 2) (pe_op op_pow pe_int pe_int) (nomark _)) pa_nil)) (pa_cons (pe_op op_mul pe_int (pv 1)) pa_nil)))))))
theorem ok_l_pool (c : FZ K mg) : FnX PP w K mg base CX0 2 ("_law_pool", none) ["_law_script", "_law_k"] (spOf K f_l_pool) := by
  obtain ⟨fd, F⟩ := c.says.def_ 1 (d := d_l_pool) rfl
  have F' : FunD K "_law_pool" "_law_pool" (defArgs s_l_pool) (defBody s_l_pool) (defScope s_l_pool) [] [] (He.fAd K ("_law_pool", none)) fd := F
  exact ⟨⟨fd, ok_l_pool_fd c F', F'.bindsN fun _ _ _ _ _ _ us hl => match us, hl with | [_, _], _ => rfl⟩, F'.kp⟩
theorem ok_l_take_fd (c : FZ K mg) {fd : FuncData} (F' : FunD K "_law_take" "_law_take" (defArgs s_l_take) (defBody s_l_take) (defScope s_l_take) [] [] (He.fAd K ("_law_take", none)) fd) : FnOk PP w K mg base CX0 1 (He.fAd K ("_law_take", none)) fd ["_law_pool_here", "_law_many"] (spOf K f_l_take) := by
  refine F'.ok sc_l_take (fun vs H Q E h => fn_len0 h) (fun cdv A outer s H vs Q E hr h => ⟨t_l_take K, PSs.nox ?_, fn_pure0 (snd_l_take c) h⟩)
  exact (pss_cons (ps_if (PW.pt (pw_and (pt_cmpR op_eq (pe_ix ix_list (pv 0) pe_int (fun _ _ => rfl)) pe_int (nomark _)) (pw_and1 (pt_cmpR op_gt (pe_ix ix_list (pv 0) pe_int (fun _ _ => rfl)) pe_int (nomark _))))) (pss_cons (ps_set (i := 3) sc_l_take.nd rfl (by first | exact Or.inl rfl | exact Or.inr rfl) (pe_op op_mod (pe_callTy cl_int1 (by rfl) (c.free 3) (by decide +kernel) (pa_cons (pe_ix ix_list (pv 0) pe_int (fun _ _ => rfl)) pa_nil)) (pv 1)))
      (pss_cons (ps_asg (pe_op op_fdivB (pe_ix ix_list (pv 0) pe_int (fun _ _ => rfl)) (pv 1)) (pg_sub (pv 0) pe_int set_list))
      (pss_one (ps_ret (pv 3))))) pss_nil)
      (pss_cons (ps_asg (pe_op op_add (pe_ix ix_list (pv 0) pe_int (fun _ _ => rfl)) pe_int) (pg_sub (pv 0) pe_int set_list))
      (pss_cons (ps_set (i := 2) sc_l_take.nd rfl (by first | exact Or.inl rfl | exact Or.inr rfl) (pe_op op_mod (pe_callTy cl_int1 (by rfl) (c.free 3) (by decide +kernel) (pa_cons (pe_op op_add (pe_op op_mul (pe_op op_add (pe_ix ix_list (pv 0) pe_int (fun _ _ => rfl)) pe_int) pe_int) (pe_op op_mul (pe_ix ix_list (pv 0) pe_int (fun _ _ => rfl)) pe_int)) pa_nil)) pe_int))
      (pss_cons (ps_set (i := 2) sc_l_take.nd rfl (by first | exact Or.inl rfl | exact Or.inr rfl) (pe_op op_mod (pe_callTy cl_int1 (by rfl) (c.free 3) (by decide +kernel) (pa_cons (pe_op op_add (pe_op op_mul (pv 2) pe_int) (pe_op op_mul (pe_ix ix_list (pv 0) pe_int (fun _ _ => rfl)) pe_int)) pa_nil)) pe_int))
      (pss_cons (ps_if (pt_cmpR op_gt (pe_ix ix_list (pv 0) pe_int (fun _ _ => rfl)) pe_int (nomark _)) (pss_one (ps_set (i := 2) sc_l_take.nd rfl (by first | exact Or.inl rfl | exact Or.inr rfl) (pe_op op_mod (pe_callTy cl_int1 (by rfl) (c.free 3) (by decide +kernel) (pa_cons (pe_op op_mul (pe_op op_fdivB (pv 2) pe_int) (pe_op op_add (pe_op op_add (pe_op op_fdivB (pv 2) pe_int) (pe_ix ix_list (pv 0) pe_int (fun _ _ => rfl))) pe_int)) pa_nil)) pe_int))) pss_nil)
      (pss_one (ps_ret (pe_op op_mod (pe_callTy cl_int1 (by rfl) (c.free 3) (by decide +kernel) (pa_cons (pe_op op_fdivB (pv 2) pe_int) pa_nil)) (pv 1)))))))))
theorem ok_l_take (c : FZ K mg) : FnX PP w K mg base CX0 1 ("_law_take", none) ["_law_pool_here", "_law_many"] (spOf K f_l_take) := by
  obtain ⟨fd, F⟩ := c.says.def_ 2 (d := d_l_take) rfl
  have F' : FunD K "_law_take" "_law_take" (defArgs s_l_take) (defBody s_l_take) (defScope s_l_take) [] [] (He.fAd K ("_law_take", none)) fd := F
  exact ⟨⟨fd, ok_l_take_fd c F', F'.bindsN fun _ _ _ _ _ _ us hl => match us, hl with | [_, _], _ => rfl⟩, F'.kp⟩
theorem ok_l_word_fd (c : FZ K mg) {fd : FuncData} (F' : FunD K "_law_word" "_law_word" (defArgs s_l_word) (defBody s_l_word) (defScope s_l_word) [] [] (He.fAd K ("_law_word", none)) fd) : FnOk PP w K mg base CX0 2 (He.fAd K ("_law_word", none)) fd ["_law_pool_here", "_law_others"] (spOf K f_l_word) := by
  refine F'.ok sc_l_word (fun vs H Q E h => fn_len0 h) (fun cdv A outer s H vs Q E hr h => ⟨t_l_word K, PSs.nox ?_, fn_pure0 (snd_l_word c) h⟩)
  exact (pss_cons (ps_set (i := 2) sc_l_word.nd rfl (by first | exact Or.inl rfl | exact Or.inr rfl) pe_str)
      (pss_cons (ps_set (i := 3) sc_l_word.nd rfl (by first | exact Or.inl rfl | exact Or.inr rfl) (pcall (ok_l_take c) (hr.mono (by decide)) (by rfl) (c.glo 4) pass0 (pa_cons (pv 0) (pa_cons (pe_op op_mul pe_int (pe_op op_pow pe_int pe_int)) pa_nil))))
      (pss_cons (ps_set (i := 4) sc_l_word.nd rfl (by first | exact Or.inl rfl | exact Or.inr rfl) (pe_op op_mod (pe_callTy cl_int1 (by rfl) (c.free 3) (by decide +kernel) (pa_cons (pv 3) pa_nil)) pe_int))
      (pss_cons (ps_set (i := 5) sc_l_word.nd rfl (by first | exact Or.inl rfl | exact Or.inr rfl) (pe_op op_add pe_int (pe_op op_mod (pe_callTy cl_int1 (by rfl) (c.free 3) (by decide +kernel) (pa_cons (pe_op op_fdivB (pv 3) pe_int) pa_nil)) pe_int)))
      (pss_cons (ps_set (i := 3) sc_l_word.nd rfl (by first | exact Or.inl rfl | exact Or.inr rfl) (pe_op op_fdivB (pv 3) pe_int))
      (pss_cons (ps_set (i := 6) sc_l_word.nd rfl (by first | exact Or.inl rfl | exact Or.inr rfl) pe_str)
      (pss_cons (ps_if (PW.pt (pw_and (pt_cmpR op_eq (pv 4) pe_int (nomark _)) (pw_and1 (pt_cmpR (op_neD hr.units) (pv 1) (pe_lst pa_nil) (nomark _))))) (pss_cons (ps_set (i := 6) sc_l_word.nd rfl (by first | exact Or.inl rfl | exact Or.inr rfl) (pe_ix ix_list (pv 1) (pe_un un_neg pe_int) (fun _ _ => rfl)))
      (pss_cons (ps_set (i := 8) sc_l_word.nd rfl (by first | exact Or.inl rfl | exact Or.inr rfl) (pe_op op_mod (pe_callTy cl_int1 (by rfl) (c.free 3) (by decide +kernel) (pa_cons (pv 5) pa_nil)) (pe_callB cl_lenS (by rfl) (c.free 0) (by decide +kernel) (pa_cons (pv 6) pa_nil))))
      (pss_one (ps_set (i := 6) sc_l_word.nd rfl (by first | exact Or.inl rfl | exact Or.inr rfl) (pe_op op_add_str (pe_op op_add_str (pe_slice sl_str (pv 6) po_none (po_some (pv 8))) (pe_ix ix_str (pv 2) (pe_op op_mod (pe_callTy cl_int1 (by rfl) (c.free 3) (by decide +kernel) (pa_cons (pv 3) pa_nil)) pe_int) (fun _ _ => rfl))) (pe_slice sl_str (pv 6) (po_some (pe_op op_add (pv 8) pe_int)) po_none)))))) (pss_one (ps_for PassesOwn.never rfl (pi_range1 (by rfl) (c.free 5) (pa_cons (pv 5) pa_nil)) (pg_name (i := 7) sc_l_word.nd rfl (by first | exact Or.inl rfl | exact Or.inr rfl)) (pss_cons (ps_set (i := 6) sc_l_word.nd rfl (by first | exact Or.inl rfl | exact Or.inr rfl) (pe_op op_add_str (pv 6) (pe_ix ix_str (pv 2) (pe_op op_mod (pe_callTy cl_int1 (by rfl) (c.free 3) (by decide +kernel) (pa_cons (pv 3) pa_nil)) pe_int) (fun _ _ => rfl))))
      (pss_one (ps_set (i := 3) sc_l_word.nd rfl (by first | exact Or.inl rfl | exact Or.inr rfl) (pe_op op_fdivB (pv 3) pe_int)))))))
      (pss_cons (ps_for PassesOwn.never rfl (pi_range1 (by rfl) (c.free 5) (pa_cons pe_int pa_nil)) (pg_name (i := 7) sc_l_word.nd rfl (by first | exact Or.inl rfl | exact Or.inr rfl)) (pss_one (ps_if (pt_cmpR op_in_seq (pv 6) (pv 1) (by rfl)) (pss_one (ps_set (i := 6) sc_l_word.nd rfl (by first | exact Or.inl rfl | exact Or.inr rfl) (pe_op op_add_str (pe_ix ix_str (pv 2) (pe_op op_mod (pe_callTy cl_int1 (by rfl) (c.free 3) (by decide +kernel) (pa_cons (pe_op op_add (pe_bm PySem.F.plainAttrs_str PySem.F.slot_str_find PySem.F.type_str_find mt_find (pv 2) (pa_cons (pe_ix ix_str (pv 6) pe_int (fun _ _ => rfl)) pa_nil)) pe_int) pa_nil)) pe_int) (fun _ _ => rfl)) (pe_slice sl_str (pv 6) (po_some pe_int) po_none)))) pss_nil)))
      (pss_one (ps_ret (pv 6)))))))))))
theorem ok_l_word (c : FZ K mg) : FnX PP w K mg base CX0 2 ("_law_word", none) ["_law_pool_here", "_law_others"] (spOf K f_l_word) := by
  obtain ⟨fd, F⟩ := c.says.def_ 3 (d := d_l_word) rfl
  have F' : FunD K "_law_word" "_law_word" (defArgs s_l_word) (defBody s_l_word) (defScope s_l_word) [] [] (He.fAd K ("_law_word", none)) fd := F
  exact ⟨⟨fd, ok_l_word_fd c F', F'.bindsN fun _ _ _ _ _ _ us hl => match us, hl with | [_, _], _ => rfl⟩, F'.kp⟩
theorem ok_l_words_fd (c : FZ K mg) {fd : FuncData} (F' : FunD K "_law_words" "_law_words" (defArgs s_l_words) (defBody s_l_words) (defScope s_l_words) [] [] (He.fAd K ("_law_words", none)) fd) : FnOk PP w K mg base CX0 3 (He.fAd K ("_law_words", none)) fd ["_law_pool_here", "_law_many"] (spOf K f_l_words) := by
  refine F'.ok sc_l_words (fun vs H Q E h => fn_len0 h) (fun cdv A outer s H vs Q E hr h => ⟨t_l_words K, PSs.nox ?_, fn_pure0 (snd_l_words c) h⟩)
  exact (pss_cons (ps_set (i := 2) sc_l_words.nd rfl (by first | exact Or.inl rfl | exact Or.inr rfl) (pe_lst pa_nil))
      (pss_cons (ps_for PassesOwn.never rfl (pi_range1 (by rfl) (c.free 5) (pa_cons (pv 1) pa_nil)) (pg_name (i := 3) sc_l_words.nd rfl (by first | exact Or.inl rfl | exact Or.inr rfl)) (pss_one (ps_expr (pe_bm PySem.F.plainAttrs_list PySem.F.slot_list_append PySem.F.type_list_append mt_append (pv 2) (pa_cons (pcall (ok_l_word c) (hr.mono (by decide)) (by rfl) (c.glo 6) pass0 (pa_cons (pv 0) (pa_cons (pv 2) pa_nil))) pa_nil)))))
      (pss_one (ps_ret (pv 2)))))
theorem ok_l_words (c : FZ K mg) : FnX PP w K mg base CX0 3 ("_law_words", none) ["_law_pool_here", "_law_many"] (spOf K f_l_words) := by
  obtain ⟨fd, F⟩ := c.says.def_ 4 (d := d_l_words) rfl
  have F' : FunD K "_law_words" "_law_words" (defArgs s_l_words) (defBody s_l_words) (defScope s_l_words) [] [] (He.fAd K ("_law_words", none)) fd := F
  exact ⟨⟨fd, ok_l_words_fd c F', F'.bindsN fun _ _ _ _ _ _ us hl => match us, hl with | [_, _], _ => rfl⟩, F'.kp⟩
theorem ok_l_some_fd (c : FZ K mg) {fd : FuncData} (F' : FunD K "_law_some" "_law_some" (defArgs s_l_some) (defBody s_l_some) (defScope s_l_some) [] [] (He.fAd K ("_law_some", none)) fd) : FnOk PP w K mg base CX0 2 (He.fAd K ("_law_some", none)) fd ["_law_pool_here", "_law_names", "_law_few", "_law_more"] (spOf K f_l_some) := by
  refine F'.ok sc_l_some (fun vs H Q E h => fn_len0 h) (fun cdv A outer s H vs Q E hr h => ⟨t_l_some K, PSs.nox ?_, fn_pure0 (snd_l_some c) h⟩)
  exact (pss_cons (ps_set (i := 4) sc_l_some.nd rfl (by first | exact Or.inl rfl | exact Or.inr rfl) (pcall (ok_l_take c) (hr.mono (by decide)) (by rfl) (c.glo 4) pass0 (pa_cons (pv 0) (pa_cons (pe_op op_pow pe_int pe_int) pa_nil))))
      (pss_cons (ps_set (i := 5) sc_l_some.nd rfl (by first | exact Or.inl rfl | exact Or.inr rfl) (pe_op op_add (pv 2) (pe_op op_mod (pe_callTy cl_int1 (by rfl) (c.free 3) (by decide +kernel) (pa_cons (pv 4) pa_nil)) (pe_op op_add (pe_op op_sub (pv 3) (pv 2)) pe_int))))
      (pss_cons (ps_set (i := 4) sc_l_some.nd rfl (by first | exact Or.inl rfl | exact Or.inr rfl) (pe_op op_fdivB (pv 4) (pe_op op_add (pe_op op_sub (pv 3) (pv 2)) pe_int)))
      (pss_cons (ps_set (i := 6) sc_l_some.nd rfl (by first | exact Or.inl rfl | exact Or.inr rfl) (pe_callTy cl_list (by rfl) (c.free 7) (by decide +kernel) (pa_cons (pv 1) pa_nil)))
      (pss_cons (ps_set (i := 7) sc_l_some.nd rfl (by first | exact Or.inl rfl | exact Or.inr rfl) (pe_lst pa_nil))
      (pss_cons (ps_for PassesOwn.never rfl (pi_range1 (by rfl) (c.free 5) (pa_cons (pv 5) pa_nil)) (pg_name (i := 8) sc_l_some.nd rfl (by first | exact Or.inl rfl | exact Or.inr rfl)) (pss_cons (ps_set (i := 9) sc_l_some.nd rfl (by first | exact Or.inl rfl | exact Or.inr rfl) (pe_op op_mod (pe_callTy cl_int1 (by rfl) (c.free 3) (by decide +kernel) (pa_cons (pv 4) pa_nil)) (pe_callB cl_len (by rfl) (c.free 0) (by decide +kernel) (pa_cons (pv 6) pa_nil))))
      (pss_cons (ps_set (i := 4) sc_l_some.nd rfl (by first | exact Or.inl rfl | exact Or.inr rfl) (pe_op op_fdivB (pv 4) (pe_callB cl_len (by rfl) (c.free 0) (by decide +kernel) (pa_cons (pv 6) pa_nil))))
      (pss_cons (ps_expr (pe_bm PySem.F.plainAttrs_list PySem.F.slot_list_append PySem.F.type_list_append mt_append (pv 7) (pa_cons (pe_ix ix_list (pv 6) (pv 9) (fun _ _ => rfl)) pa_nil)))
      (pss_one (ps_set (i := 6) sc_l_some.nd rfl (by first | exact Or.inl rfl | exact Or.inr rfl) (pe_op op_cat (pe_slice sl_list (pv 6) po_none (po_some (pv 9))) (pe_slice sl_list (pv 6) (po_some (pe_op op_add (pv 9) pe_int)) po_none))))))))
      (pss_one (ps_ret (pv 7)))))))))
theorem ok_l_some (c : FZ K mg) : FnX PP w K mg base CX0 2 ("_law_some", none) ["_law_pool_here", "_law_names", "_law_few", "_law_more"] (spOf K f_l_some) := by
  obtain ⟨fd, F⟩ := c.says.def_ 5 (d := d_l_some) rfl
  have F' : FunD K "_law_some" "_law_some" (defArgs s_l_some) (defBody s_l_some) (defScope s_l_some) [] [] (He.fAd K ("_law_some", none)) fd := F
  exact ⟨⟨fd, ok_l_some_fd c F', F'.bindsN fun _ _ _ _ _ _ us hl => match us, hl with | [_, _, _, _], _ => rfl⟩, F'.kp⟩
theorem ok_l_sheets_fd (c : FZ K mg) {fd : FuncData} (F' : FunD K "_law_sheets" "_law_sheets" (defArgs s_l_sheets) (defBody s_l_sheets) (defScope s_l_sheets) [] [] (He.fAd K ("_law_sheets", none)) fd) : FnOk PP w K mg base CX0 4 (He.fAd K ("_law_sheets", none)) fd ["_law_pool_here"] (spOf K f_l_sheets) := by
  refine F'.ok sc_l_sheets (fun vs H Q E h => fn_len0 h) (fun cdv A outer s H vs Q E hr h => ⟨t_l_sheets K, PSs.nox ?_, fn_pure0 (snd_l_sheets c) h⟩)
  exact (pss_cons (ps_set (i := 1) sc_l_sheets.nd rfl (by first | exact Or.inl rfl | exact Or.inr rfl) (pcall (ok_l_words c) (hr.mono (by decide)) (by rfl) (c.glo 8) pass0 (pa_cons (pv 0) (pa_cons (pe_ix ix_list (pe_lst (pa_cons pe_int (pa_cons pe_int (pa_cons pe_int (pa_cons pe_int (pa_cons pe_int (pa_cons pe_int pa_nil))))))) (pcall (ok_l_take c) (hr.mono (by decide)) (by rfl) (c.glo 4) pass0 (pa_cons (pv 0) (pa_cons pe_int pa_nil))) (fun _ _ => rfl)) pa_nil))))
      (pss_cons (ps_set (i := 2) sc_l_sheets.nd rfl (by first | exact Or.inl rfl | exact Or.inr rfl) (pcall (ok_l_words c) (hr.mono (by decide)) (by rfl) (c.glo 8) pass0 (pa_cons (pv 0) (pa_cons (pe_op op_add pe_int (pcall (ok_l_take c) (hr.mono (by decide)) (by rfl) (c.glo 4) pass0 (pa_cons (pv 0) (pa_cons pe_int pa_nil)))) pa_nil))))
      (pss_cons (ps_if (PW.pt (pw_and (pt_cmpR op_eq (pcall (ok_l_take c) (hr.mono (by decide)) (by rfl) (c.glo 4) pass0 (pa_cons (pv 0) (pa_cons pe_int pa_nil))) pe_int (nomark _)) (pw_and (pt_cmpR (op_neD hr.units) (pv 1) (pe_lst pa_nil) (nomark _)) (pw_and1 (pt_cmpR op_notIn_seq (pe_ix ix_list (pv 2) pe_int (fun _ _ => rfl)) (pv 1) (by rfl)))))) (pss_one (ps_asg (pe_ix ix_list (pv 2) pe_int (fun _ _ => rfl)) (pg_sub (pv 1) pe_int set_list))) pss_nil)
      (pss_cons (ps_set (i := 3) sc_l_sheets.nd rfl (by first | exact Or.inl rfl | exact Or.inr rfl) (pe_callB (cl_min2 rfl) (by rfl) (c.free 9) (by decide +kernel) (pa_cons (pe_callB cl_len (by rfl) (c.free 0) (by decide +kernel) (pa_cons (pv 2) pa_nil)) (pa_cons (pe_op op_add pe_int (pcall (ok_l_take c) (hr.mono (by decide)) (by rfl) (c.glo 4) pass0 (pa_cons (pv 0) (pa_cons pe_int pa_nil)))) pa_nil))))
      (pss_cons (ps_set (i := 4) sc_l_sheets.nd rfl (by first | exact Or.inl rfl | exact Or.inr rfl) (pe_lst pa_nil))
      (pss_cons (ps_for PassesOwn.never rfl (pi_list (pv 2)) (pg_name (i := 5) sc_l_sheets.nd rfl (by first | exact Or.inl rfl | exact Or.inr rfl)) (pss_cons (ps_set (i := 6) sc_l_sheets.nd rfl (by first | exact Or.inl rfl | exact Or.inr rfl) (pcall (ok_l_some c) (hr.mono (by decide)) (by rfl) (c.glo 10) pass0 (pa_cons (pv 0) (pa_cons (pv 1) (pa_cons pe_int (pa_cons (pe_callB cl_len (by rfl) (c.free 0) (by decide +kernel) (pa_cons (pv 1) pa_nil)) pa_nil))))))
      (pss_one (ps_expr (pe_bm PySem.F.plainAttrs_list PySem.F.slot_list_append PySem.F.type_list_append mt_append (pv 4) (pa_cons (pe_tup (pa_cons (pv 5) (pa_cons (pv 6) (pa_cons (pcall (ok_l_some c) (hr.mono (by decide)) (by rfl) (c.glo 10) pass0 (pa_cons (pv 0) (pa_cons (pv 2) (pa_cons pe_int (pa_cons (pv 3) pa_nil))))) pa_nil)))) pa_nil))))))
      (pss_cons (ps_set (i := 3) sc_l_sheets.nd rfl (by first | exact Or.inl rfl | exact Or.inr rfl) (pe_callB (cl_min2 rfl) (by rfl) (c.free 9) (by decide +kernel) (pa_cons (pe_callB cl_len (by rfl) (c.free 0) (by decide +kernel) (pa_cons (pv 2) pa_nil)) (pa_cons (pe_op op_add pe_int (pcall (ok_l_take c) (hr.mono (by decide)) (by rfl) (c.glo 4) pass0 (pa_cons (pv 0) (pa_cons pe_int pa_nil)))) pa_nil))))
      (pss_one (ps_ret (pe_tup (pa_cons (pv 4) (pa_cons (pcall (ok_l_some c) (hr.mono (by decide)) (by rfl) (c.glo 10) pass0 (pa_cons (pv 0) (pa_cons (pv 2) (pa_cons pe_int (pa_cons (pv 3) pa_nil))))) (pa_cons (pv 1) pa_nil)))))))))))))
theorem ok_l_sheets (c : FZ K mg) : FnX PP w K mg base CX0 4 ("_law_sheets", none) ["_law_pool_here"] (spOf K f_l_sheets) := by
  obtain ⟨fd, F⟩ := c.says.def_ 6 (d := d_l_sheets) rfl
  have F' : FunD K "_law_sheets" "_law_sheets" (defArgs s_l_sheets) (defBody s_l_sheets) (defScope s_l_sheets) [] [] (He.fAd K ("_law_sheets", none)) fd := F
  exact ⟨⟨fd, ok_l_sheets_fd c F', F'.bindsN fun _ _ _ _ _ _ us hl => match us, hl with | [_], _ => rfl⟩, F'.kp⟩
theorem ok_l_handed_fd (c : FZ K mg) {fd : FuncData} (F' : FunD K "_law_handed" "_law_handed" (defArgs s_l_handed) (defBody s_l_handed) (defScope s_l_handed) [] [] (He.fAd K ("_law_handed", none)) fd) : FnOk PP w K mg base CX0 1 (He.fAd K ("_law_handed", none)) fd ["_law_sheets_here"] (spOf K f_l_handed) := by
  refine F'.ok sc_l_handed (fun vs H Q E h => fn_len0 h) (fun cdv A outer s H vs Q E hr h => ⟨t_l_handed K, PSs.nox ?_, fn_pure0 (snd_l_handed c) h⟩)
  exact (pss_one (ps_ret (pe_lc (own := [("_law_sheet", 1)]) (g := (gName 1)) (tt := tYes) rfl sc_l_handed.nd (pi_list (pv 0)) (blkOk_by (own := [("_law_sheet", 1)]) (N := N_l_handed) (sc := defScope s_l_handed) (by decide +kernel)) (fun _ _ _ _ _ => (pg_name (i := 1) sc_l_handed.nd rfl (by first | exact Or.inl rfl | exact Or.inr rfl))) (fun _ _ _ _ _ => pts_nil) (fun _ _ _ _ _ => (pe_tup (pa_cons (pe_ix ix_tup (pv 1) pe_int (fun _ _ => rfl)) (pa_cons (pe_callTy cl_list (by rfl) (c.free 7) (by decide +kernel) (pa_cons (pe_ix ix_tup (pv 1) pe_int (fun _ _ => rfl)) pa_nil)) (pa_cons (pe_callTy cl_list (by rfl) (c.free 7) (by decide +kernel) (pa_cons (pe_ix ix_tup (pv 1) pe_int (fun _ _ => rfl)) pa_nil)) pa_nil))))))))
theorem ok_l_handed (c : FZ K mg) : FnX PP w K mg base CX0 1 ("_law_handed", none) ["_law_sheets_here"] (spOf K f_l_handed) := by
  obtain ⟨fd, F⟩ := c.says.def_ 7 (d := d_l_handed) rfl
  have F' : FunD K "_law_handed" "_law_handed" (defArgs s_l_handed) (defBody s_l_handed) (defScope s_l_handed) [] [] (He.fAd K ("_law_handed", none)) fd := F
  exact ⟨⟨fd, ok_l_handed_fd c F', F'.bindsN fun _ _ _ _ _ _ us hl => match us, hl with | [_], _ => rfl⟩, F'.kp⟩
theorem ok_is_name_fd (c : FZ K mg) {fd : FuncData} (F' : FunD K "is_name" "is_name" (defArgs s_is_name) (defBody s_is_name) (defScope s_is_name) [] [] (He.fAd K ("is_name", none)) fd) : FnOk PP w K mg base CX0 1 (He.fAd K ("is_name", none)) fd ["text"] (spOf K f_is_name) := by
  refine F'.ok sc_is_name (fun vs H Q E h => fn_len0 h) (fun cdv A outer s H vs Q E hr h => ⟨t_is_name K, PSs.nox ?_, fn_pure0 (snd_is_name c) h⟩)
  exact (pss_one (ps_ret (pe_and (pe_chain op_le op_le pe_int (pe_callB cl_lenS (by rfl) (c.free 0) (by decide +kernel) (pa_cons (pv 0) pa_nil)) (pgi (by rfl) (c.int 11))) (pe_one (pe_callB (cr_all rfl) (by rfl) (c.free 12) (by decide +kernel) (pa_cons (pe_lc (own := [("char", 1)]) (g := (gName 1)) (tt := tYes) rfl sc_is_name.nd (pi_str (pv 0)) (blkOk_by (own := [("char", 1)]) (N := N_is_name) (sc := defScope s_is_name) (by decide +kernel)) (fun _ _ _ _ _ => (pg_name (i := 1) sc_is_name.nd rfl (by first | exact Or.inl rfl | exact Or.inr rfl))) (fun _ _ _ _ _ => pts_nil) (fun _ _ _ _ _ => (pe_cmpR op_inS (pv 1) (pgs (by rfl) (c.str 13)) (by rfl)))) pa_nil))))))
theorem ok_is_name (c : FZ K mg) : FnX PP w K mg base CX0 1 ("is_name", none) ["text"] (spOf K f_is_name) := by
  obtain ⟨fd, F⟩ := c.says.def_ 8 (d := d_is_name) rfl
  have F' : FunD K "is_name" "is_name" (defArgs s_is_name) (defBody s_is_name) (defScope s_is_name) [] [] (He.fAd K ("is_name", none)) fd := F
  exact ⟨⟨fd, ok_is_name_fd c F', F'.bindsN fun _ _ _ _ _ _ us hl => match us, hl with | [_], _ => rfl⟩, F'.kp⟩
theorem ok_all_different_fd (c : FZ K mg) {fd : FuncData} (F' : FunD K "all_different" "all_different" (defArgs s_all_different) (defBody s_all_different) (defScope s_all_different) [] [] (He.fAd K ("all_different", none)) fd) : FnOk PP w K mg base CX0 1 (He.fAd K ("all_different", none)) fd ["things"] (spOf K f_all_different) := by
  refine F'.ok sc_all_different (fun vs H Q E h => fn_len0 h) (fun cdv A outer s H vs Q E hr h => ⟨t_all_different K, PSs.nox ?_, fn_pure0 (snd_all_different c) h⟩)
  exact (pss_one (ps_ret (pe_cmpR op_eq (pe_lenS rfl (by rfl) (c.free 0) (by rfl) (c.free 14) (pv 0)) (pe_callB cl_len (by rfl) (c.free 0) (by decide +kernel) (pa_cons (pv 0) pa_nil)) (nomark _))))
theorem ok_all_different (c : FZ K mg) : FnX PP w K mg base CX0 1 ("all_different", none) ["things"] (spOf K f_all_different) := by
  obtain ⟨fd, F⟩ := c.says.def_ 9 (d := d_all_different) rfl
  have F' : FunD K "all_different" "all_different" (defArgs s_all_different) (defBody s_all_different) (defScope s_all_different) [] [] (He.fAd K ("all_different", none)) fd := F
  exact ⟨⟨fd, ok_all_different_fd c F', F'.bindsN fun _ _ _ _ _ _ us hl => match us, hl with | [_], _ => rfl⟩, F'.kp⟩
theorem ok_are_names_fd (c : FZ K mg) {fd : FuncData} (F' : FunD K "are_names" "are_names" (defArgs s_are_names) (defBody s_are_names) (defScope s_are_names) [] [] (He.fAd K ("are_names", none)) fd) : FnOk PP w K mg base CX0 2 (He.fAd K ("are_names", none)) fd ["texts"] (spOf K f_are_names) := by
  refine F'.ok sc_are_names (fun vs H Q E h => fn_len0 h) (fun cdv A outer s H vs Q E hr h => ⟨t_are_names K, PSs.nox ?_, fn_pure0 (snd_are_names c) h⟩)
  exact (pss_one (ps_ret (pe_and (pe_callB (cr_all rfl) (by rfl) (c.free 12) (by decide +kernel) (pa_cons (pe_lc (own := [("text", 1)]) (g := (gName 1)) (tt := tYes) rfl sc_are_names.nd (pi_list (pv 0)) (blkOk_by (own := [("text", 1)]) (N := N_are_names) (sc := defScope s_are_names) (by decide +kernel)) (fun _ _ _ _ _ => (pg_name (i := 1) sc_are_names.nd rfl (by first | exact Or.inl rfl | exact Or.inr rfl))) (fun _ _ _ _ _ => pts_nil) (fun _ _ _ _ _ => (pcall (ok_is_name c) (hr.mono (by decide)) (by rfl) (c.glo 15) pass0 (pa_cons (pv 1) pa_nil)))) pa_nil)) (pe_one (pcall (ok_all_different c) (hr.mono (by decide)) (by rfl) (c.glo 16) pass0 (pa_cons (pv 0) pa_nil))))))
theorem ok_are_names (c : FZ K mg) : FnX PP w K mg base CX0 2 ("are_names", none) ["texts"] (spOf K f_are_names) := by
  obtain ⟨fd, F⟩ := c.says.def_ 10 (d := d_are_names) rfl
  have F' : FunD K "are_names" "are_names" (defArgs s_are_names) (defBody s_are_names) (defScope s_are_names) [] [] (He.fAd K ("are_names", none)) fd := F
  exact ⟨⟨fd, ok_are_names_fd c F', F'.bindsN fun _ _ _ _ _ _ us hl => match us, hl with | [_], _ => rfl⟩, F'.kp⟩
theorem ok_are_some_of_fd (c : FZ K mg) {fd : FuncData} (F' : FunD K "are_some_of" "are_some_of" (defArgs s_are_some_of) (defBody s_are_some_of) (defScope s_are_some_of) [] [] (He.fAd K ("are_some_of", none)) fd) : FnOk PP w K mg base CX0 2 (He.fAd K ("are_some_of", none)) fd ["names", "chosen"] (spOf K f_are_some_of) := by
  refine F'.ok sc_are_some_of (fun vs H Q E h => fn_len0 h) (fun cdv A outer s H vs Q E hr h => ⟨t_are_some_of K, PSs.nox ?_, fn_pure0 (snd_are_some_of c) h⟩)
  exact (pss_one (ps_ret (pe_and (pe_cmpR op_gt (pe_callB cl_len (by rfl) (c.free 0) (by decide +kernel) (pa_cons (pv 1) pa_nil)) pe_int (nomark _)) (pe_and (pe_callB (cr_all rfl) (by rfl) (c.free 12) (by decide +kernel) (pa_cons (pe_lc (own := [("name", 2)]) (g := (gName 2)) (tt := tYes) rfl sc_are_some_of.nd (pi_list (pv 1)) (blkOk_by (own := [("name", 2)]) (N := N_are_some_of) (sc := defScope s_are_some_of) (by decide +kernel)) (fun _ _ _ _ _ => (pg_name (i := 2) sc_are_some_of.nd rfl (by first | exact Or.inl rfl | exact Or.inr rfl))) (fun _ _ _ _ _ => pts_nil) (fun _ _ _ _ _ => (pe_cmpR op_in_seq (pv 2) (pv 0) (by rfl)))) pa_nil)) (pe_one (pcall (ok_all_different c) (hr.mono (by decide)) (by rfl) (c.glo 16) pass0 (pa_cons (pv 1) pa_nil)))))))
theorem ok_are_some_of (c : FZ K mg) : FnX PP w K mg base CX0 2 ("are_some_of", none) ["names", "chosen"] (spOf K f_are_some_of) := by
  obtain ⟨fd, F⟩ := c.says.def_ 11 (d := d_are_some_of) rfl
  have F' : FunD K "are_some_of" "are_some_of" (defArgs s_are_some_of) (defBody s_are_some_of) (defScope s_are_some_of) [] [] (He.fAd K ("are_some_of", none)) fd := F
  exact ⟨⟨fd, ok_are_some_of_fd c F', F'.bindsN fun _ _ _ _ _ _ us hl => match us, hl with | [_, _], _ => rfl⟩, F'.kp⟩
theorem ok_Book_indexes_of_fd (c : FZ K mg) {fd : FuncData} (F' : FunD K "indexes_of" "Book.indexes_of" (defArgs s_Book_indexes_of) (defBody s_Book_indexes_of) (defScope s_Book_indexes_of) [] [] (He.fAd K ("Book", some "indexes_of")) fd) : FnOk PP w K mg base CX0 1 (He.fAd K ("Book", some "indexes_of")) fd ["self", "chosen"] (spOf K f_Book_indexes_of) := by
  refine F'.ok sc_Book_indexes_of (fun vs H Q E h => fn_len0 h) (fun cdv A outer s H vs Q E hr h => ⟨t_Book_indexes_of K, PSs.nox ?_, fn_pure0 (snd_Book_indexes_of c) h⟩)
  exact (pss_one (ps_ret (pe_callTy cl_tuple (by rfl) (c.free 17) (by decide +kernel) (pa_cons (pe_lc (own := [("index", 2), ("name", 3)]) (g := (gTup K 2 (gCons (gName 2) (gCons (gName 3) gNil)))) (tt := (tTest (tOp (rIn K false) (tVar 3) (tVar 1)))) rfl sc_Book_indexes_of.nd (pi_enumT (by rfl) (c.free 18) (pa_cons (pe_fld (pv 0) rfl) pa_nil)) (blkOk_by (own := [("index", 2), ("name", 3)]) (N := N_Book_indexes_of) (sc := defScope s_Book_indexes_of) (by decide +kernel)) (fun _ _ _ _ _ => (pg_tup rfl (pgs_cons (pg_name (i := 2) sc_Book_indexes_of.nd rfl (by first | exact Or.inl rfl | exact Or.inr rfl)) (pgs_cons (pg_name (i := 3) sc_Book_indexes_of.nd rfl (by first | exact Or.inl rfl | exact Or.inr rfl)) pgs_nil)))) (fun _ _ _ _ _ => (pts_one (pt_cmpR op_in_seq (pv 3) (pv 1) (by rfl)))) (fun _ _ _ _ _ => (pv 2))) pa_nil))))
theorem ok_Book_indexes_of (c : FZ K mg) : FnX PP w K mg base CX0 1 ("Book", some "indexes_of") ["self", "chosen"] (spOf K f_Book_indexes_of) := by
  obtain ⟨fd, F⟩ := c.says.def_ 12 (d := d_Book_indexes_of) rfl
  have F' : FunD K "indexes_of" "Book.indexes_of" (defArgs s_Book_indexes_of) (defBody s_Book_indexes_of) (defScope s_Book_indexes_of) [] [] (He.fAd K ("Book", some "indexes_of")) fd := F
  exact ⟨⟨fd, ok_Book_indexes_of_fd c F', F'.bindsN fun _ _ _ _ _ _ us hl => match us, hl with | [_, _], _ => rfl⟩, F'.kp⟩
theorem ok_Book___init___fd (c : FZ K mg) {fd : FuncData} (F' : FunD K "__init__" "Book.__init__" (defArgs s_Book___init__) (defBody s_Book___init__) (defScope s_Book___init__) [] [] (He.fAd K ("Book", some "__init__")) fd) : FnOk PP w K mg base (L2.CX PP w) 3 (He.fAd K ("Book", some "__init__")) fd ["self", "pages", "starts"] (spIn K "Book" f_Book___init__) := by
  refine F'.ok sc_Book___init__ (fun vs H Q E h => in_len h) (fun cdv A outer s H vs Q E hr h => ⟨t_Book___init__ K E, ?_, in_pure (snd_Book___init__ c E) h⟩)
  exact (pss_cons (ps_if (pt_not (pt_chain op_le op_le pe_int (pe_callB cl_len (by rfl) (c.free 0) (by decide +kernel) (pa_cons (pv 1) pa_nil)) (pgi (by rfl) (c.int 21)))) (pss_one (praise rfl (takes_of rfl rfl rfl rfl) (pmk_exs (xk_BadBook c) (hr.mono (by decide) : Room 2 _) (by rfl) (pa_cons pe_str (pa_cons pe_int pa_nil))))) pss_nil)
      (pss_cons (ps_set (i := 3) sc_Book___init__.nd rfl (by first | exact Or.inl rfl | exact Or.inr rfl) (pe_lst pa_nil))
      (pss_cons (ps_for (passes_of rfl) rfl (pi_enum (by rfl) (c.free 18) (pa_cons (pv 1) pa_nil)) (pg_tup rfl (pgs_cons (pg_name (i := 4) sc_Book___init__.nd rfl (by first | exact Or.inl rfl | exact Or.inr rfl)) (pgs_cons (pg_name (i := 5) sc_Book___init__.nd rfl (by first | exact Or.inl rfl | exact Or.inr rfl)) pgs_nil))) (pss_cons (ps_par (i := 6) (j := 7) (by rfl) sc_Book___init__.nd rfl rfl (by decide) rfl rfl (pa_cons (pe_ix ix_tup (pv 5) pe_int (fun _ _ => rfl)) (pa_cons (pe_ix ix_tup (pv 5) pe_int (fun _ _ => rfl)) pa_nil)) (by rfl))
      (pss_cons (ps_if (PW.pt (pw_or (pt_not (pt_val (pcall (ok_is_name c) (hr.mono (by decide)) (by rfl) (c.glo 15) pass0 (pa_cons (pv 6) pa_nil)))) (pw_or (pt_cmpR op_in_seq (pv 6) (pv 3) (by rfl)) (pw_or (pt_cmpR op_gt (pe_callB cl_len (by rfl) (c.free 0) (by decide +kernel) (pa_cons (pv 7) pa_nil)) (pgi (by rfl) (c.int 24)) (nomark _)) (pw_or1 (pt_not (pt_val (pcall (ok_are_names c) (hr.mono (by decide)) (by rfl) (c.glo 25) pass0 (pa_cons (pv 7) pa_nil))))))))) (pss_one (praise rfl (takes_of rfl rfl rfl rfl) (pmk_exs (xk_BadBook c) (hr.mono (by decide) : Room 2 _) (by rfl) (pa_cons pe_str (pa_cons (pv 4) pa_nil))))) pss_nil)
      (pss_one (ps_expr (pe_bm PySem.F.plainAttrs_list PySem.F.slot_list_append PySem.F.type_list_append mt_append (pv 3) (pa_cons (pv 6) pa_nil)))))))
      (pss_cons (ps_for (passes_of rfl) rfl (pi_enum (by rfl) (c.free 18) (pa_cons (pv 1) pa_nil)) (pg_tup rfl (pgs_cons (pg_name (i := 4) sc_Book___init__.nd rfl (by first | exact Or.inl rfl | exact Or.inr rfl)) (pgs_cons (pg_name (i := 5) sc_Book___init__.nd rfl (by first | exact Or.inl rfl | exact Or.inr rfl)) pgs_nil))) (pss_one (ps_if (pt_not (pt_val (pcall (ok_are_some_of c) (hr.mono (by decide)) (by rfl) (c.glo 26) pass0 (pa_cons (pv 3) (pa_cons (pe_ix ix_tup (pv 5) pe_int (fun _ _ => rfl)) pa_nil))))) (pss_one (praise rfl (takes_of rfl rfl rfl rfl) (pmk_exs (xk_BadBook c) (hr.mono (by decide) : Room 2 _) (by rfl) (pa_cons pe_str (pa_cons (pv 4) pa_nil))))) pss_nil)))
      (pss_cons (ps_if (pt_not (pt_val (pcall (ok_are_some_of c) (hr.mono (by decide)) (by rfl) (c.glo 26) pass0 (pa_cons (pv 3) (pa_cons (pv 2) pa_nil))))) (pss_one (praise rfl (takes_of rfl rfl rfl rfl) (pmk_exs (xk_BadBook c) (hr.mono (by decide) : Room 2 _) (by rfl) (pa_cons pe_str (pa_cons pe_int pa_nil))))) pss_nil)
      (pss_cons (ps_fld (pv 0) (pe_callTy cl_tupleN (by rfl) (c.free 17) (by decide +kernel) (pa_cons (pv 3) pa_nil)) rfl)
      (pss_cons (ps_fld (pv 0) (pmeth (pv 0) (c.cls 19) (c.meth 27) (ok_Book_indexes_of c) (hr.mono (by decide)) pass0 (pa_cons (pv 2) pa_nil)) rfl)
      (pss_cons (ps_fld (pv 0) (pe_callTy cl_tuple (by rfl) (c.free 17) (by decide +kernel) (pa_cons (pe_lc (own := [("page", 5)]) (g := (gName 5)) (tt := tYes) rfl sc_Book___init__.nd (pi_list (pv 1)) (blkOk_by (own := [("page", 5)]) (N := N_Book___init__) (sc := defScope s_Book___init__) (by decide +kernel)) (fun _ _ _ _ _ => (pg_name (i := 5) sc_Book___init__.nd rfl (by first | exact Or.inl rfl | exact Or.inr rfl))) (fun _ _ _ _ _ => pts_nil) (fun _ _ _ _ _ => (pe_callTy cl_tuple (by rfl) (c.free 17) (by decide +kernel) (pa_cons (pe_ix ix_tup (pv 5) pe_int (fun _ _ => rfl)) pa_nil)))) pa_nil)) rfl)
      (pss_one (ps_fld (pv 0) (pe_callTy cl_tuple (by rfl) (c.free 17) (by decide +kernel) (pa_cons (pe_lc (own := [("page", 5)]) (g := (gName 5)) (tt := tYes) rfl sc_Book___init__.nd (pi_list (pv 1)) (blkOk_by (own := [("page", 5)]) (N := N_Book___init__) (sc := defScope s_Book___init__) (by decide +kernel)) (fun _ _ _ _ _ => (pg_name (i := 5) sc_Book___init__.nd rfl (by first | exact Or.inl rfl | exact Or.inr rfl))) (fun _ _ _ _ _ => pts_nil) (fun _ _ _ _ _ => (pmeth (pv 0) (c.cls 19) (c.meth 27) (ok_Book_indexes_of c) (hr.mono (by decide)) pass0 (pa_cons (pe_ix ix_tup (pv 5) pe_int (fun _ _ => rfl)) pa_nil)))) pa_nil)) rfl))))))))))
theorem ok_Book___init__ (c : FZ K mg) : FnX PP w K mg base (L2.CX PP w) 3 ("Book", some "__init__") ["self", "pages", "starts"] (spIn K "Book" f_Book___init__) := by
  obtain ⟨fd, F⟩ := c.says.def_ 13 (d := d_Book___init__) rfl
  have F' : FunD K "__init__" "Book.__init__" (defArgs s_Book___init__) (defBody s_Book___init__) (defScope s_Book___init__) [] [] (He.fAd K ("Book", some "__init__")) fd := F
  exact ⟨⟨fd, ok_Book___init___fd c F', F'.bindsN fun _ _ _ _ _ _ us hl => match us, hl with | [_, _, _], _ => rfl⟩, F'.kp⟩
theorem ok_l_same_st (c : FZ K mg) {fd : FuncData} (F' : FunD K "_law_same" "_law_same" (defArgs s_l_same) (defBody s_l_same) (defScope s_l_same) [] [] (He.fAd K ("_law_same", none)) fd) (n : Nat) (ih : FnX PP w K mg base CX0 n ("_law_same", none) ["_law_got", "_law_due"] (sp_l_same2_r K n)) : FnOk PP w K mg base CX0 (n + 1) (He.fAd K ("_law_same", none)) fd ["_law_got", "_law_due"] (sp_l_same2_n K n) := by
  refine F'.ok sc_l_same (fun vs H Q E h => len_l_same2 h) (fun cdv A outer s H vs Q E hr h => ⟨t_l_same K (sp_l_same2_r K n), PSs.nox ?_, pure_l_same2 h⟩)
  exact (pss_cons (ps_if (PW.pt (pw_or (pt_val (pe_callB call_isi (by rfl) (c.free 31) (by decide +kernel) (pa_cons (pv 0) (pa_cons (pe_bltn (v := .ty "bool") (by rfl) (c.free 32) (by decide +kernel) rfl) pa_nil)))) (pw_or1 (pt_val (pe_callB call_isi (by rfl) (c.free 31) (by decide +kernel) (pa_cons (pv 1) (pa_cons (pe_bltn (v := .ty "bool") (by rfl) (c.free 32) (by decide +kernel) rfl) pa_nil))))))) (pss_one (ps_ret (pe_and (pe_callB call_isi (by rfl) (c.free 31) (by decide +kernel) (pa_cons (pv 0) (pa_cons (pe_bltn (v := .ty "bool") (by rfl) (c.free 32) (by decide +kernel) rfl) pa_nil))) (pe_and (pe_callB call_isi (by rfl) (c.free 31) (by decide +kernel) (pa_cons (pv 1) (pa_cons (pe_bltn (v := .ty "bool") (by rfl) (c.free 32) (by decide +kernel) rfl) pa_nil))) (pe_one (pe_cmpR op_eq (pv 0) (pv 1) (nomark _))))))) pss_nil)
      (pss_cons (ps_if (PW.pt (pw_or (pt_cmpR op_isN1 (pv 0) pe_non (nomark _)) (pw_or1 (pt_cmpR op_isN1 (pv 1) pe_non (nomark _))))) (pss_one (ps_ret (pe_and (pe_cmpR op_isN1 (pv 0) pe_non (nomark _)) (pe_one (pe_cmpR op_isN1 (pv 1) pe_non (nomark _)))))) pss_nil)
      (pss_cons (ps_if (pt_val (pe_callB call_isi (by rfl) (c.free 31) (by decide +kernel) (pa_cons (pv 1) (pa_cons (pe_bltn (v := .ty "int") (by rfl) (c.free 3) (by decide +kernel) rfl) pa_nil)))) (pss_one (ps_ret (pe_and (pe_callB call_isi (by rfl) (c.free 31) (by decide +kernel) (pa_cons (pv 0) (pa_cons (pe_bltn (v := .ty "int") (by rfl) (c.free 3) (by decide +kernel) rfl) pa_nil))) (pe_one (pe_cmpR op_eq (pv 0) (pv 1) (nomark _)))))) pss_nil)
      (pss_cons (ps_if (pt_val (pe_callB call_isi (by rfl) (c.free 31) (by decide +kernel) (pa_cons (pv 1) (pa_cons (pe_bltn (v := .ty "str") (by rfl) (c.free 33) (by decide +kernel) rfl) pa_nil)))) (pss_one (ps_ret (pe_and (pe_callB call_isi (by rfl) (c.free 31) (by decide +kernel) (pa_cons (pv 0) (pa_cons (pe_bltn (v := .ty "str") (by rfl) (c.free 33) (by decide +kernel) rfl) pa_nil))) (pe_one (pe_cmpR op_eq (pv 0) (pv 1) (nomark _)))))) pss_nil)
      (pss_cons (ps_if (PW.pt (pw_and (pt_val (pe_callB call_isi (by rfl) (c.free 31) (by decide +kernel) (pa_cons (pv 1) (pa_cons (pe_bltn (v := .ty "list") (by rfl) (c.free 7) (by decide +kernel) rfl) pa_nil)))) (pw_and1 (pt_not (pt_val (pe_callB call_isi (by rfl) (c.free 31) (by decide +kernel) (pa_cons (pv 0) (pa_cons (pe_bltn (v := .ty "list") (by rfl) (c.free 7) (by decide +kernel) rfl) pa_nil)))))))) (pss_one (ps_ret pe_bl)) pss_nil)
      (pss_cons (ps_if (PW.pt (pw_and (pt_val (pe_callB call_isi (by rfl) (c.free 31) (by decide +kernel) (pa_cons (pv 1) (pa_cons (pe_bltn (v := .ty "tuple") (by rfl) (c.free 17) (by decide +kernel) rfl) pa_nil)))) (pw_and1 (pt_not (pt_val (pe_callB call_isi (by rfl) (c.free 31) (by decide +kernel) (pa_cons (pv 0) (pa_cons (pe_bltn (v := .ty "tuple") (by rfl) (c.free 17) (by decide +kernel) rfl) pa_nil)))))))) (pss_one (ps_ret pe_bl)) pss_nil)
      (pss_cons (ps_if (pt_cmpR op_ne (pe_callB cl_len (by rfl) (c.free 0) (by decide +kernel) (pa_cons (pv 0) pa_nil)) (pe_callB cl_len (by rfl) (c.free 0) (by decide +kernel) (pa_cons (pv 1) pa_nil)) (nomark _)) (pss_one (ps_ret pe_bl)) pss_nil)
      (pss_cons (ps_for PassesOwn.never rfl (pi_range1 (by rfl) (c.free 5) (pa_cons (pe_callB cl_len (by rfl) (c.free 0) (by decide +kernel) (pa_cons (pv 1) pa_nil)) pa_nil)) (pg_name (i := 2) sc_l_same.nd rfl (by first | exact Or.inl rfl | exact Or.inr rfl)) (pss_one (ps_if (pt_not (pt_val (pcall (ih) (hr.mono (by omega)) (by rfl) (c.glo 34) pass0 (pa_cons (pe_ix ix_seq (pv 0) (pv 2) (fun _ _ => rfl)) (pa_cons (pe_ix ix_seq (pv 1) (pv 2) (fun _ _ => rfl)) pa_nil))))) (pss_one (ps_ret pe_bl)) pss_nil)))
      (pss_one (ps_ret pe_bl))))))))))
theorem ok_l_same_fd (c : FZ K mg) {fd : FuncData} (F' : FunD K "_law_same" "_law_same" (defArgs s_l_same) (defBody s_l_same) (defScope s_l_same) [] [] (He.fAd K ("_law_same", none)) fd) : ∀ n, FnOk PP w K mg base CX0 (n + 1) (He.fAd K ("_law_same", none)) fd ["_law_got", "_law_due"] (sp_l_same2_n K n) := by
  have bn : Binds K fd ["_law_got", "_law_due"] [] := F'.bindsN fun _ _ _ _ _ _ us hl => match us, hl with | [_, _], _ => rfl
  intro n
  induction n with
  | zero => exact ok_l_same_st c F' 0 ⟨⟨fd, ⟨fun _ _ _ _ h => h.elim, fun _ _ _ _ _ _ _ _ _ _ _ _ _ h => h.elim⟩, bn⟩, F'.kp⟩
  | succ n ih => exact ok_l_same_st c F' (n + 1) ⟨⟨fd, ih, bn⟩, F'.kp⟩
theorem ok_l_same (c : FZ K mg) : FnX PP w K mg base CX0 8 ("_law_same", none) ["_law_got", "_law_due"] (spOf K f_l_same) := by
  obtain ⟨fd, F⟩ := c.says.def_ 14 (d := d_l_same) rfl
  have F' : FunD K "_law_same" "_law_same" (defArgs s_l_same) (defBody s_l_same) (defScope s_l_same) [] [] (He.fAd K ("_law_same", none)) fd := F
  have bn : Binds K fd ["_law_got", "_law_due"] [] := F'.bindsN fun _ _ _ _ _ _ us hl => match us, hl with | [_, _], _ => rfl
  exact ⟨⟨fd, ⟨fun vs H Q E h => by
    obtain ⟨n, _, h⟩ := same_of h
    exact (ok_l_same_fd (w := w) (base := base) c F' n).len vs H Q E h, fun A outer s H args us vs Q E hr he hb hv h => by
    obtain ⟨n, hn, h⟩ := same_of h
    exact (ok_l_same_fd c F' n).run A outer s H args us vs Q E (hr.mono hn) he hb hv h⟩, bn⟩, F'.kp⟩
theorem ok_l_places_fd (c : FZ K mg) {fd : FuncData} (F' : FunD K "_law_places" "_law_places" (defArgs s_l_places) (defBody s_l_places) (defScope s_l_places) [] [] (He.fAd K ("_law_places", none)) fd) : FnOk PP w K mg base CX0 1 (He.fAd K ("_law_places", none)) fd ["_law_names", "_law_chosen"] (spOf K f_l_places) := by
  refine F'.ok sc_l_places (fun vs H Q E h => fn_len0 h) (fun cdv A outer s H vs Q E hr h => ⟨t_l_places K, PSs.nox ?_, fn_pure0 (snd_l_places c) h⟩)
  exact (pss_one (ps_ret (pe_lc (own := [("_law_k", 2)]) (g := (gName 2)) (tt := (tTest (tOp (rIn K false) (tOp (rIxL K) (tVar 0) (tVar 2)) (tVar 1)))) rfl sc_l_places.nd (pi_range1 (by rfl) (c.free 5) (pa_cons (pe_callB cl_len (by rfl) (c.free 0) (by decide +kernel) (pa_cons (pv 0) pa_nil)) pa_nil)) (blkOk_by (own := [("_law_k", 2)]) (N := N_l_places) (sc := defScope s_l_places) (by decide +kernel)) (fun _ _ _ _ _ => (pg_name (i := 2) sc_l_places.nd rfl (by first | exact Or.inl rfl | exact Or.inr rfl))) (fun _ _ _ _ _ => (pts_one (pt_cmpR op_in_seq (pe_ix ix_list (pv 0) (pv 2) (fun _ _ => rfl)) (pv 1) (by rfl)))) (fun _ _ _ _ _ => (pv 2)))))
theorem ok_l_places (c : FZ K mg) : FnX PP w K mg base CX0 1 ("_law_places", none) ["_law_names", "_law_chosen"] (spOf K f_l_places) := by
  obtain ⟨fd, F⟩ := c.says.def_ 15 (d := d_l_places) rfl
  have F' : FunD K "_law_places" "_law_places" (defArgs s_l_places) (defBody s_l_places) (defScope s_l_places) [] [] (He.fAd K ("_law_places", none)) fd := F
  exact ⟨⟨fd, ok_l_places_fd c F', F'.bindsN fun _ _ _ _ _ _ us hl => match us, hl with | [_, _], _ => rfl⟩, F'.kp⟩
theorem ok_Book___len___fd (c : FZ K mg) {fd : FuncData} (F' : FunD K "__len__" "Book.__len__" (defArgs s_Book___len__) (defBody s_Book___len__) (defScope s_Book___len__) [] [] (He.fAd K ("Book", some "__len__")) fd) : FnOk PP w K mg base CX0 1 (He.fAd K ("Book", some "__len__")) fd ["self"] (spOf K f_Book___len__) := by
  refine F'.ok sc_Book___len__ (fun vs H Q E h => fn_len0 h) (fun cdv A outer s H vs Q E hr h => ⟨t_Book___len__ K, PSs.nox ?_, fn_pure0 (snd_Book___len__ c) h⟩)
  exact (pss_one (ps_ret (pe_callB cl_len (by rfl) (c.free 0) (by decide +kernel) (pa_cons (pe_fld (pv 0) rfl) pa_nil))))
theorem ok_Book___len__ (c : FZ K mg) : FnX PP w K mg base CX0 1 ("Book", some "__len__") ["self"] (spOf K f_Book___len__) := by
  obtain ⟨fd, F⟩ := c.says.def_ 16 (d := d_Book___len__) rfl
  have F' : FunD K "__len__" "Book.__len__" (defArgs s_Book___len__) (defBody s_Book___len__) (defScope s_Book___len__) [] [] (He.fAd K ("Book", some "__len__")) fd := F
  exact ⟨⟨fd, ok_Book___len___fd c F', F'.bindsN fun _ _ _ _ _ _ us hl => match us, hl with | [_], _ => rfl⟩, F'.kp⟩
theorem ok_Book_check_page_fd (c : FZ K mg) {fd : FuncData} (F' : FunD K "check_page" "Book.check_page" (defArgs s_Book_check_page) (defBody s_Book_check_page) (defScope s_Book_check_page) [] [] (He.fAd K ("Book", some "check_page")) fd) : FnOk PP w K mg base (L2.CX PP w) 3 (He.fAd K ("Book", some "check_page")) fd ["self", "index"] (spOf K f_Book_check_page) := by
  refine F'.ok sc_Book_check_page (fun vs H Q E h => fn_len h) (fun cdv A outer s H vs Q E hr h => ⟨t_Book_check_page K E, ?_, fn_pure (snd_Book_check_page c E) h⟩)
  exact (pss_one (ps_if (pt_not (pt_chain op_le op_lt pe_int (pv 1) (pe_callB cl_len (by rfl) (c.free 0) (by decide +kernel) (pa_cons (pe_fld (pv 0) rfl) pa_nil)))) (pss_one (praise rfl (takes_of rfl rfl rfl rfl) (pmk_exs (xk_UnknownPage c) (hr.mono (by decide) : Room 2 _) (by rfl) (pa_cons (pv 1) pa_nil)))) pss_nil))
theorem ok_Book_check_page (c : FZ K mg) : FnX PP w K mg base (L2.CX PP w) 3 ("Book", some "check_page") ["self", "index"] (spOf K f_Book_check_page) := by
  obtain ⟨fd, F⟩ := c.says.def_ 17 (d := d_Book_check_page) rfl
  have F' : FunD K "check_page" "Book.check_page" (defArgs s_Book_check_page) (defBody s_Book_check_page) (defScope s_Book_check_page) [] [] (He.fAd K ("Book", some "check_page")) fd := F
  exact ⟨⟨fd, ok_Book_check_page_fd c F', F'.bindsN fun _ _ _ _ _ _ us hl => match us, hl with | [_, _], _ => rfl⟩, F'.kp⟩
theorem ok_Book_lines_of_fd (c : FZ K mg) {fd : FuncData} (F' : FunD K "lines_of" "Book.lines_of" (defArgs s_Book_lines_of) (defBody s_Book_lines_of) (defScope s_Book_lines_of) [] [] (He.fAd K ("Book", some "lines_of")) fd) : FnOk PP w K mg base (L2.CX PP w) 4 (He.fAd K ("Book", some "lines_of")) fd ["self", "index"] (spOf K f_Book_lines_of) := by
  refine F'.ok sc_Book_lines_of (fun vs H Q E h => fn_len h) (fun cdv A outer s H vs Q E hr h => ⟨t_Book_lines_of K E, ?_, fn_pure (snd_Book_lines_of c E) h⟩)
  exact (pss_cons (ps_expr (pmethX (pv 0) (c.cls 19) (c.meth 36) (ok_Book_check_page c) (hr.mono (by decide)) (takes_of rfl rfl rfl rfl) (pa_cons (pv 1) pa_nil)))
      (pss_one (ps_ret (pe_ix ix_tup (pe_fld (pv 0) rfl) (pv 1) (fun _ _ => rfl)))))
theorem ok_Book_lines_of (c : FZ K mg) : FnX PP w K mg base (L2.CX PP w) 4 ("Book", some "lines_of") ["self", "index"] (spOf K f_Book_lines_of) := by
  obtain ⟨fd, F⟩ := c.says.def_ 18 (d := d_Book_lines_of) rfl
  have F' : FunD K "lines_of" "Book.lines_of" (defArgs s_Book_lines_of) (defBody s_Book_lines_of) (defScope s_Book_lines_of) [] [] (He.fAd K ("Book", some "lines_of")) fd := F
  exact ⟨⟨fd, ok_Book_lines_of_fd c F', F'.bindsN fun _ _ _ _ _ _ us hl => match us, hl with | [_, _], _ => rfl⟩, F'.kp⟩
theorem ok_Book_followers_of_fd (c : FZ K mg) {fd : FuncData} (F' : FunD K "followers_of" "Book.followers_of" (defArgs s_Book_followers_of) (defBody s_Book_followers_of) (defScope s_Book_followers_of) [] [] (He.fAd K ("Book", some "followers_of")) fd) : FnOk PP w K mg base (L2.CX PP w) 4 (He.fAd K ("Book", some "followers_of")) fd ["self", "index"] (spOf K f_Book_followers_of) := by
  refine F'.ok sc_Book_followers_of (fun vs H Q E h => fn_len h) (fun cdv A outer s H vs Q E hr h => ⟨t_Book_followers_of K E, ?_, fn_pure (snd_Book_followers_of c E) h⟩)
  exact (pss_cons (ps_expr (pmethX (pv 0) (c.cls 19) (c.meth 36) (ok_Book_check_page c) (hr.mono (by decide)) (takes_of rfl rfl rfl rfl) (pa_cons (pv 1) pa_nil)))
      (pss_one (ps_ret (pe_ix ix_tup (pe_fld (pv 0) rfl) (pv 1) (fun _ _ => rfl)))))
theorem ok_Book_followers_of (c : FZ K mg) : FnX PP w K mg base (L2.CX PP w) 4 ("Book", some "followers_of") ["self", "index"] (spOf K f_Book_followers_of) := by
  obtain ⟨fd, F⟩ := c.says.def_ 19 (d := d_Book_followers_of) rfl
  have F' : FunD K "followers_of" "Book.followers_of" (defArgs s_Book_followers_of) (defBody s_Book_followers_of) (defScope s_Book_followers_of) [] [] (He.fAd K ("Book", some "followers_of")) fd := F
  exact ⟨⟨fd, ok_Book_followers_of_fd c F', F'.bindsN fun _ _ _ _ _ _ us hl => match us, hl with | [_, _], _ => rfl⟩, F'.kp⟩
theorem ok_Book_index_fd (c : FZ K mg) {fd : FuncData} (F' : FunD K "index" "Book.index" (defArgs s_Book_index) (defBody s_Book_index) (defScope s_Book_index) [] [] (He.fAd K ("Book", some "index")) fd) : FnOk PP w K mg base (L2.CX PP w) 3 (He.fAd K ("Book", some "index")) fd ["self", "name"] (spOf K f_Book_index) := by
  refine F'.ok sc_Book_index (fun vs H Q E h => fn_len h) (fun cdv A outer s H vs Q E hr h => ⟨t_Book_index K E, ?_, fn_pure (snd_Book_index c E) h⟩)
  exact (pss_cons (ps_if (pt_cmpR op_notIn_seq (pv 1) (pe_fld (pv 0) rfl) (by rfl)) (pss_one (praise rfl (takes_of rfl rfl rfl rfl) (pmk_exs (xk_UnknownName c) (hr.mono (by decide) : Room 2 _) (by rfl) (pa_cons (pv 1) pa_nil)))) pss_nil)
      (pss_one (ps_ret (pe_bmN PySem.F.plainAttrs_tuple PySem.F.slot_tuple_index PySem.F.type_tuple_index mt_tup_index (pe_fld (pv 0) rfl) (pa_cons (pv 1) pa_nil)))))
theorem ok_Book_index (c : FZ K mg) : FnX PP w K mg base (L2.CX PP w) 3 ("Book", some "index") ["self", "name"] (spOf K f_Book_index) := by
  obtain ⟨fd, F⟩ := c.says.def_ 20 (d := d_Book_index) rfl
  have F' : FunD K "index" "Book.index" (defArgs s_Book_index) (defBody s_Book_index) (defScope s_Book_index) [] [] (He.fAd K ("Book", some "index")) fd := F
  exact ⟨⟨fd, ok_Book_index_fd c F', F'.bindsN fun _ _ _ _ _ _ us hl => match us, hl with | [_, _], _ => rfl⟩, F'.kp⟩
theorem ok_l_shows_fd (c : FZ K mg) {fd : FuncData} (F' : FunD K "_law_shows" "_law_shows" (defArgs s_l_shows) (defBody s_l_shows) (defScope s_l_shows) [] [] (He.fAd K ("_law_shows", none)) fd) : FnOk PP w K mg base CX0 9 (He.fAd K ("_law_shows", none)) fd ["_law_book", "_law_sheets_here", "_law_starts"] (spOf K f_l_shows) := by
  refine F'.ok sc_l_shows (fun vs H Q E h => fn_len0 h) (fun cdv A outer s H vs Q E hr h => ⟨t_l_shows K, PSs.nox ?_, fn_pure0 (snd_l_shows c) h⟩)
  exact (pss_cons (ps_setLc (i := 3) (own := [("_law_sheet", 5)]) (g := (gName 5)) (tt := tYes) rfl sc_l_shows.nd rfl rfl (sw_true rfl rfl rfl (by decide +kernel)) (pi_list (pv 1)) (blkOk_by (own := [("_law_sheet", 5)]) (N := N_l_shows) (sc := defScope s_l_shows) (by decide +kernel)) (fun _ _ _ _ _ => (pg_name (i := 5) sc_l_shows.nd rfl (by first | exact Or.inl rfl | exact Or.inr rfl))) (fun _ _ _ _ _ => pts_nil) (fun _ _ _ _ _ => (pe_ix ix_tup (pv 5) pe_int (fun _ _ => rfl))))
      (pss_cons (ps_if (PW.pt (pw_or (pt_not (pt_val (pcall (ok_l_same c) (hr.mono (by decide)) (by rfl) (c.glo 34) pass0 (pa_cons (pe_fld (pv 0) rfl) (pa_cons (pe_callTy cl_tuple (by rfl) (c.free 17) (by decide +kernel) (pa_cons (pv 3) pa_nil)) pa_nil))))) (pw_or1 (pt_not (pt_val (pcall (ok_l_same c) (hr.mono (by decide)) (by rfl) (c.glo 34) pass0 (pa_cons (pe_fld (pv 0) rfl) (pa_cons (pe_callTy cl_tuple (by rfl) (c.free 17) (by decide +kernel) (pa_cons (pcall (ok_l_places c) (hr.mono (by decide)) (by rfl) (c.glo 38) pass0 (pa_cons (pv 3) (pa_cons (pv 2) pa_nil))) pa_nil)) pa_nil)))))))) (pss_one (ps_ret pe_bl)) pss_nil)
      (pss_cons (ps_if (pt_cmpR op_ne (pe_callB (cl_lenO (c.meth 39) (ok_Book___len__ c) (hr.mono (by decide))) (by rfl) (c.free 0) (by decide +kernel) (pa_cons (pv 0) pa_nil)) (pe_callB cl_len (by rfl) (c.free 0) (by decide +kernel) (pa_cons (pv 3) pa_nil)) (nomark _)) (pss_one (ps_ret pe_bl)) pss_nil)
      (pss_cons (ps_for PassesOwn.never rfl (pi_range1 (by rfl) (c.free 5) (pa_cons (pe_callB cl_len (by rfl) (c.free 0) (by decide +kernel) (pa_cons (pv 3) pa_nil)) pa_nil)) (pg_name (i := 4) sc_l_shows.nd rfl (by first | exact Or.inl rfl | exact Or.inr rfl)) (pss_cons (ps_if (pt_not (pt_val (pcall (ok_l_same c) (hr.mono (by decide)) (by rfl) (c.glo 34) pass0 (pa_cons (pmethX (pv 0) (c.cls 19) (c.meth 40) (ok_Book_lines_of c) (hr.mono (by decide)) takes0 (pa_cons (pv 4) pa_nil)) (pa_cons (pe_callTy cl_tuple (by rfl) (c.free 17) (by decide +kernel) (pa_cons (pe_ix ix_tup (pe_ix ix_list (pv 1) (pv 4) (fun _ _ => rfl)) pe_int (fun _ _ => rfl)) pa_nil)) pa_nil))))) (pss_one (ps_ret pe_bl)) pss_nil)
      (pss_cons (ps_if (pt_not (pt_val (pcall (ok_l_same c) (hr.mono (by decide)) (by rfl) (c.glo 34) pass0 (pa_cons (pmethX (pv 0) (c.cls 19) (c.meth 41) (ok_Book_followers_of c) (hr.mono (by decide)) takes0 (pa_cons (pv 4) pa_nil)) (pa_cons (pe_callTy cl_tuple (by rfl) (c.free 17) (by decide +kernel) (pa_cons (pcall (ok_l_places c) (hr.mono (by decide)) (by rfl) (c.glo 38) pass0 (pa_cons (pv 3) (pa_cons (pe_ix ix_tup (pe_ix ix_list (pv 1) (pv 4) (fun _ _ => rfl)) pe_int (fun _ _ => rfl)) pa_nil))) pa_nil)) pa_nil))))) (pss_one (ps_ret pe_bl)) pss_nil)
      (pss_one (ps_if (pt_not (pt_val (pcall (ok_l_same c) (hr.mono (by decide)) (by rfl) (c.glo 34) pass0 (pa_cons (pmethX (pv 0) (c.cls 19) (c.meth 42) (ok_Book_index c) (hr.mono (by decide)) takes0 (pa_cons (pe_ix ix_list (pv 3) (pv 4) (fun _ _ => rfl)) pa_nil)) (pa_cons (pv 4) pa_nil))))) (pss_one (ps_ret pe_bl)) pss_nil)))))
      (pss_one (ps_ret pe_bl))))))
theorem ok_l_shows (c : FZ K mg) : FnX PP w K mg base CX0 9 ("_law_shows", none) ["_law_book", "_law_sheets_here", "_law_starts"] (spOf K f_l_shows) := by
  obtain ⟨fd, F⟩ := c.says.def_ 21 (d := d_l_shows) rfl
  have F' : FunD K "_law_shows" "_law_shows" (defArgs s_l_shows) (defBody s_l_shows) (defScope s_l_shows) [] [] (He.fAd K ("_law_shows", none)) fd := F
  exact ⟨⟨fd, ok_l_shows_fd c F', F'.bindsN fun _ _ _ _ _ _ us hl => match us, hl with | [_, _, _], _ => rfl⟩, F'.kp⟩
theorem ok_l_asked_fd (c : FZ K mg) {fd : FuncData} (F' : FunD K "_law_asked" "_law_asked" (defArgs s_l_asked) (defBody s_l_asked) (defScope s_l_asked) [] [] (He.fAd K ("_law_asked", none)) fd) : FnOk PP w K mg base (L2.CX PP w) 5 (He.fAd K ("_law_asked", none)) fd ["_law_book", "_law_way", "_law_number"] (spOf K f_l_asked) := by
  refine F'.ok sc_l_asked (fun vs H Q E h => fn_len h) (fun cdv A outer s H vs Q E hr h => ⟨t_l_asked K E, ?_, fn_pure (snd_l_asked c E) h⟩)
  exact (pss_cons (ps_if (pt_cmpR op_eq (pv 1) pe_int (nomark _)) (pss_one (ps_ret (pmethX (pv 0) (c.cls 19) (c.meth 40) (ok_Book_lines_of c) (hr.mono (by decide)) (takes_of rfl rfl rfl rfl) (pa_cons (pv 2) pa_nil)))) pss_nil)
      (pss_one (ps_ret (pmethX (pv 0) (c.cls 19) (c.meth 41) (ok_Book_followers_of c) (hr.mono (by decide)) (takes_of rfl rfl rfl rfl) (pa_cons (pv 2) pa_nil)))))
theorem ok_l_asked (c : FZ K mg) : FnX PP w K mg base (L2.CX PP w) 5 ("_law_asked", none) ["_law_book", "_law_way", "_law_number"] (spOf K f_l_asked) := by
  obtain ⟨fd, F⟩ := c.says.def_ 22 (d := d_l_asked) rfl
  have F' : FunD K "_law_asked" "_law_asked" (defArgs s_l_asked) (defBody s_l_asked) (defScope s_l_asked) [] [] (He.fAd K ("_law_asked", none)) fd := F
  exact ⟨⟨fd, ok_l_asked_fd c F', F'.bindsN fun _ _ _ _ _ _ us hl => match us, hl with | [_, _, _], _ => rfl⟩, F'.kp⟩
theorem ok_l_refuses_page_fd (c : FZ K mg) {fd : FuncData} (F' : FunD K "_law_refuses_page" "_law_refuses_page" (defArgs s_l_refuses_page) (defBody s_l_refuses_page) (defScope s_l_refuses_page) [] [] (He.fAd K ("_law_refuses_page", none)) fd) : FnOk PP w K mg base CX0 9 (He.fAd K ("_law_refuses_page", none)) fd ["_law_book", "_law_way", "_law_number"] (spOf K f_l_refuses_page) := by
  refine F'.ok sc_l_refuses_page (fun vs H Q E h => fn_len0 h) (fun cdv A outer s H vs Q E hr h => ⟨t_l_refuses_page K, PSs.nox ?_, fn_pure0 (snd_l_refuses_page c) h⟩)
  exact (pss_cons (ps_set (i := 3) sc_l_refuses_page.nd rfl (by first | exact Or.inl rfl | exact Or.inr rfl) pe_non)
      (pss_cons (ps_set (i := 4) sc_l_refuses_page.nd rfl (by first | exact Or.inl rfl | exact Or.inr rfl) pe_bl)
      (pss_cons (ps_try_ma rfl rfl sc_l_refuses_page.nd takes0 (fun W pn xe tk po => (pss_one (ps_set (i := 5) sc_l_refuses_page.nd rfl (by first | exact Or.inl rfl | exact Or.inr rfl) (pcallS (ok_l_asked c) (hr.mono (by decide)) (by rfl) (c.glo 43) tk (pa_cons (pv 0) (pa_cons (pv 1) (pa_cons (pv 2) pa_nil))))))) (HdsA.cons (i := 6) rfl rfl ⟨rfl, by decide, .inl (c.glo 35)⟩ (fun a oe cls d pn hz hf => (pss_cons (ps_set (i := 3) sc_l_refuses_page.nd rfl (by first | exact Or.inl rfl | exact Or.inr rfl) (pe_xf (c.xfc 0) (c.xnoat 1) hz hf (pv 6)))
      (pss_one (ps_set (i := 4) sc_l_refuses_page.nd rfl (by first | exact Or.inl rfl | exact Or.inr rfl) (pe_and (pe_callB (call_isX2 (c.xc 0) hz hf) (by rfl) (c.free 31) (by decide +kernel) (pa_cons (pv 6) (pa_cons (pgc (by rfl) (c.glo 44)) pa_nil))) (pe_and (pe_callB (call_isX2 (c.xc 0) hz hf) (by rfl) (c.free 31) (by decide +kernel) (pa_cons (pv 6) (pa_cons (pe_bltn (v := .ty "ValueError") (by rfl) (c.free 45) (by decide +kernel) rfl) pa_nil))) (pe_one (pe_not (pe_callB (call_isX2 (c.xc 0) hz hf) (by rfl) (c.free 31) (by decide +kernel) (pa_cons (pv 6) (pa_cons (pgc (by rfl) (c.glo 37)) pa_nil))))))))))) HdsA.nil))
      (pss_one (ps_ret (pe_and (pv 4) (pe_one (pcall (ok_l_same c) (hr.mono (by decide)) (by rfl) (c.glo 34) pass0 (pa_cons (pv 3) (pa_cons (pv 2) pa_nil))))))))))
theorem ok_l_refuses_page (c : FZ K mg) : FnX PP w K mg base CX0 9 ("_law_refuses_page", none) ["_law_book", "_law_way", "_law_number"] (spOf K f_l_refuses_page) := by
  obtain ⟨fd, F⟩ := c.says.def_ 23 (d := d_l_refuses_page) rfl
  have F' : FunD K "_law_refuses_page" "_law_refuses_page" (defArgs s_l_refuses_page) (defBody s_l_refuses_page) (defScope s_l_refuses_page) [] [] (He.fAd K ("_law_refuses_page", none)) fd := F
  exact ⟨⟨fd, ok_l_refuses_page_fd c F', F'.bindsN fun _ _ _ _ _ _ us hl => match us, hl with | [_, _, _], _ => rfl⟩, F'.kp⟩
theorem ok_l_refuses_name_fd (c : FZ K mg) {fd : FuncData} (F' : FunD K "_law_refuses_name" "_law_refuses_name" (defArgs s_l_refuses_name) (defBody s_l_refuses_name) (defScope s_l_refuses_name) [] [] (He.fAd K ("_law_refuses_name", none)) fd) : FnOk PP w K mg base CX0 9 (He.fAd K ("_law_refuses_name", none)) fd ["_law_book", "_law_name"] (spOf K f_l_refuses_name) := by
  refine F'.ok sc_l_refuses_name (fun vs H Q E h => fn_len0 h) (fun cdv A outer s H vs Q E hr h => ⟨t_l_refuses_name K, PSs.nox ?_, fn_pure0 (snd_l_refuses_name c) h⟩)
  exact (pss_cons (ps_set (i := 2) sc_l_refuses_name.nd rfl (by first | exact Or.inl rfl | exact Or.inr rfl) pe_non)
      (pss_cons (ps_set (i := 3) sc_l_refuses_name.nd rfl (by first | exact Or.inl rfl | exact Or.inr rfl) pe_bl)
      (pss_cons (ps_try_ma rfl rfl sc_l_refuses_name.nd takes0 (fun W pn xe tk po => (pss_one (ps_set (i := 4) sc_l_refuses_name.nd rfl (by first | exact Or.inl rfl | exact Or.inr rfl) (pmethX (pv 0) (c.cls 19) (c.meth 42) (ok_Book_index c) (hr.mono (by decide)) tk (pa_cons (pv 1) pa_nil))))) (HdsA.cons (i := 5) rfl rfl ⟨rfl, by decide, .inl (c.glo 37)⟩ (fun a oe cls d pn hz hf => (pss_cons (ps_set (i := 2) sc_l_refuses_name.nd rfl (by first | exact Or.inl rfl | exact Or.inr rfl) (pe_xf (c.xfc 5) (c.xnoat 6) hz hf (pv 5)))
      (pss_one (ps_set (i := 3) sc_l_refuses_name.nd rfl (by first | exact Or.inl rfl | exact Or.inr rfl) (pe_and (pe_callB (call_isX2 (c.xc 5) hz hf) (by rfl) (c.free 31) (by decide +kernel) (pa_cons (pv 5) (pa_cons (pgc (by rfl) (c.glo 44)) pa_nil))) (pe_and (pe_callB (call_isX2 (c.xc 5) hz hf) (by rfl) (c.free 31) (by decide +kernel) (pa_cons (pv 5) (pa_cons (pe_bltn (v := .ty "ValueError") (by rfl) (c.free 45) (by decide +kernel) rfl) pa_nil))) (pe_one (pe_not (pe_callB (call_isX2 (c.xc 5) hz hf) (by rfl) (c.free 31) (by decide +kernel) (pa_cons (pv 5) (pa_cons (pgc (by rfl) (c.glo 35)) pa_nil))))))))))) HdsA.nil))
      (pss_one (ps_ret (pe_and (pv 3) (pe_one (pcall (ok_l_same c) (hr.mono (by decide)) (by rfl) (c.glo 34) pass0 (pa_cons (pv 2) (pa_cons (pv 1) pa_nil))))))))))
theorem ok_l_refuses_name (c : FZ K mg) : FnX PP w K mg base CX0 9 ("_law_refuses_name", none) ["_law_book", "_law_name"] (spOf K f_l_refuses_name) := by
  obtain ⟨fd, F⟩ := c.says.def_ 24 (d := d_l_refuses_name) rfl
  have F' : FunD K "_law_refuses_name" "_law_refuses_name" (defArgs s_l_refuses_name) (defBody s_l_refuses_name) (defScope s_l_refuses_name) [] [] (He.fAd K ("_law_refuses_name", none)) fd := F
  exact ⟨⟨fd, ok_l_refuses_name_fd c F', F'.bindsN fun _ _ _ _ _ _ us hl => match us, hl with | [_, _], _ => rfl⟩, F'.kp⟩
theorem ok_Book___eq___fd (c : FZ K mg) {fd : FuncData} (F' : FunD K "__eq__" "Book.__eq__" (defArgs s_Book___eq__) (defBody s_Book___eq__) (defScope s_Book___eq__) [] [] (He.fAd K ("Book", some "__eq__")) fd) : FnOk PP w K mg base CX0 1 (He.fAd K ("Book", some "__eq__")) fd ["self", "other"] (spOf K f_Book___eq__) := by
  refine F'.ok sc_Book___eq__ (fun vs H Q E h => fn_len0 h) (fun cdv A outer s H vs Q E hr h => ⟨t_Book___eq__ K, PSs.nox ?_, fn_pure0 (snd_Book___eq__ c) h⟩)
  exact (pss_one (ps_ret (pe_and (pe_callB call_isi (by rfl) (c.free 31) (by decide +kernel) (pa_cons (pv 1) (pa_cons (pgc (by rfl) (c.glo 46)) pa_nil))) (pe_and (pe_cmpR (op_eqD hr.units) (pe_fld (pv 0) rfl) (pe_fld (pv 1) rfl) (nomark _)) (pe_and (pe_cmpR (op_eqD hr.units) (pe_fld (pv 0) rfl) (pe_fld (pv 1) rfl) (nomark _)) (pe_and (pe_cmpR (op_eqD hr.units) (pe_fld (pv 0) rfl) (pe_fld (pv 1) rfl) (nomark _)) (pe_one (pe_cmpR (op_eqD hr.units) (pe_fld (pv 0) rfl) (pe_fld (pv 1) rfl) (nomark _)))))))))
theorem ok_Book___eq__ (c : FZ K mg) : FnX PP w K mg base CX0 1 ("Book", some "__eq__") ["self", "other"] (spOf K f_Book___eq__) := by
  obtain ⟨fd, F⟩ := c.says.def_ 25 (d := d_Book___eq__) rfl
  have F' : FunD K "__eq__" "Book.__eq__" (defArgs s_Book___eq__) (defBody s_Book___eq__) (defScope s_Book___eq__) [] [] (He.fAd K ("Book", some "__eq__")) fd := F
  exact ⟨⟨fd, ok_Book___eq___fd c F', F'.bindsN fun _ _ _ _ _ _ us hl => match us, hl with | [_, _], _ => rfl⟩, F'.kp⟩
theorem ok_l_other_some_fd (c : FZ K mg) {fd : FuncData} (F' : FunD K "_law_other_some" "_law_other_some" (defArgs s_l_other_some) (defBody s_l_other_some) (defScope s_l_other_some) [] [] (He.fAd K ("_law_other_some", none)) fd) : FnOk PP w K mg base CX0 1 (He.fAd K ("_law_other_some", none)) fd ["_law_names", "_law_chosen"] (spOf K f_l_other_some) := by
  refine F'.ok sc_l_other_some (fun vs H Q E h => fn_len0 h) (fun cdv A outer s H vs Q E hr h => ⟨t_l_other_some K, PSs.nox ?_, fn_pure0 (snd_l_other_some c) h⟩)
  exact (pss_cons (ps_setLc (i := 2) (own := [("_law_name", 3)]) (g := (gName 3)) (tt := (tTest (tOp (rIn K true) (tVar 3) (tVar 1)))) rfl sc_l_other_some.nd rfl rfl (sw_true rfl rfl rfl (by decide +kernel)) (pi_list (pv 0)) (blkOk_by (own := [("_law_name", 3)]) (N := N_l_other_some) (sc := defScope s_l_other_some) (by decide +kernel)) (fun _ _ _ _ _ => (pg_name (i := 3) sc_l_other_some.nd rfl (by first | exact Or.inl rfl | exact Or.inr rfl))) (fun _ _ _ _ _ => (pts_one (pt_cmpR op_notIn_seq (pv 3) (pv 1) (by rfl)))) (fun _ _ _ _ _ => (pv 3)))
      (pss_cons (ps_if (pt_cmpR (op_neD hr.units) (pv 2) (pe_lst pa_nil) (nomark _)) (pss_one (ps_ret (pe_op op_cat (pv 1) (pe_lst (pa_cons (pe_ix ix_list (pv 2) pe_int (fun _ _ => rfl)) pa_nil))))) pss_nil)
      (pss_cons (ps_if (pt_cmpR op_gt (pe_callB cl_len (by rfl) (c.free 0) (by decide +kernel) (pa_cons (pv 1) pa_nil)) pe_int (nomark _)) (pss_one (ps_ret (pe_slice sl_list (pv 1) po_none (po_some (pe_op op_sub (pe_callB cl_len (by rfl) (c.free 0) (by decide +kernel) (pa_cons (pv 1) pa_nil)) pe_int))))) pss_nil)
      (pss_one (ps_ret pe_non)))))
theorem ok_l_other_some (c : FZ K mg) : FnX PP w K mg base CX0 1 ("_law_other_some", none) ["_law_names", "_law_chosen"] (spOf K f_l_other_some) := by
  obtain ⟨fd, F⟩ := c.says.def_ 26 (d := d_l_other_some) rfl
  have F' : FunD K "_law_other_some" "_law_other_some" (defArgs s_l_other_some) (defBody s_l_other_some) (defScope s_l_other_some) [] [] (He.fAd K ("_law_other_some", none)) fd := F
  exact ⟨⟨fd, ok_l_other_some_fd c F', F'.bindsN fun _ _ _ _ _ _ us hl => match us, hl with | [_, _], _ => rfl⟩, F'.kp⟩
theorem ok_l_renamed_fd (c : FZ K mg) {fd : FuncData} (F' : FunD K "_law_renamed" "_law_renamed" (defArgs s_l_renamed) (defBody s_l_renamed) (defScope s_l_renamed) [] [] (He.fAd K ("_law_renamed", none)) fd) : FnOk PP w K mg base CX0 1 (He.fAd K ("_law_renamed", none)) fd ["_law_words_here", "_law_name", "_law_fresh"] (spOf K f_l_renamed) := by
  refine F'.ok sc_l_renamed (fun vs H Q E h => fn_len0 h) (fun cdv A outer s H vs Q E hr h => ⟨t_l_renamed K, PSs.nox ?_, fn_pure0 (snd_l_renamed c) h⟩)
  exact (pss_one (ps_ret (pe_lc (own := [("_law_word_here", 3)]) (g := (gName 3)) (tt := tYes) rfl sc_l_renamed.nd (pi_list (pv 0)) (blkOk_by (own := [("_law_word_here", 3)]) (N := N_l_renamed) (sc := defScope s_l_renamed) (by decide +kernel)) (fun _ _ _ _ _ => (pg_name (i := 3) sc_l_renamed.nd rfl (by first | exact Or.inl rfl | exact Or.inr rfl))) (fun _ _ _ _ _ => pts_nil) (fun _ _ _ _ _ => (pe_ifExp (pt_cmpR op_eq (pv 3) (pv 1) (nomark _)) (pv 2) (pv 3))))))
theorem ok_l_renamed (c : FZ K mg) : FnX PP w K mg base CX0 1 ("_law_renamed", none) ["_law_words_here", "_law_name", "_law_fresh"] (spOf K f_l_renamed) := by
  obtain ⟨fd, F⟩ := c.says.def_ 27 (d := d_l_renamed) rfl
  have F' : FunD K "_law_renamed" "_law_renamed" (defArgs s_l_renamed) (defBody s_l_renamed) (defScope s_l_renamed) [] [] (He.fAd K ("_law_renamed", none)) fd := F
  exact ⟨⟨fd, ok_l_renamed_fd c F', F'.bindsN fun _ _ _ _ _ _ us hl => match us, hl with | [_, _, _], _ => rfl⟩, F'.kp⟩
theorem ok_l_near_fd (c : FZ K mg) {fd : FuncData} (F' : FunD K "_law_near" "_law_near" (defArgs s_l_near) (defBody s_l_near) (defScope s_l_near) [] [] (He.fAd K ("_law_near", none)) fd) : FnOk PP w K mg base CX0 2 (He.fAd K ("_law_near", none)) fd ["_law_sheets_here", "_law_starts", "_law_way", "_law_place", "_law_fresh"] (spOf K f_l_near) := by
  refine F'.ok sc_l_near (fun vs H Q E h => fn_len0 h) (fun cdv A outer s H vs Q E hr h => ⟨t_l_near K, PSs.nox ?_, fn_pure0 (snd_l_near c) h⟩)
  exact (pss_cons (ps_setLc (i := 5) (own := [("_law_sheet", 11)]) (g := (gName 11)) (tt := tYes) rfl sc_l_near.nd rfl rfl (sw_true rfl rfl rfl (by decide +kernel)) (pi_list (pv 0)) (blkOk_by (own := [("_law_sheet", 11)]) (N := N_l_near) (sc := defScope s_l_near) (by decide +kernel)) (fun _ _ _ _ _ => (pg_name (i := 11) sc_l_near.nd rfl (by first | exact Or.inl rfl | exact Or.inr rfl))) (fun _ _ _ _ _ => pts_nil) (fun _ _ _ _ _ => (pe_ix ix_tup (pv 11) pe_int (fun _ _ => rfl))))
      (pss_cons (ps_set (i := 6) sc_l_near.nd rfl (by first | exact Or.inl rfl | exact Or.inr rfl) (pe_ix ix_list (pv 0) (pv 3) (fun _ _ => rfl)))
      (pss_cons (ps_if (pt_cmpR op_eq (pv 2) pe_int (nomark _)) (pss_cons (ps_set (i := 7) sc_l_near.nd rfl (by first | exact Or.inl rfl | exact Or.inr rfl) (pe_op op_cat (pe_ix ix_tup (pv 6) pe_int (fun _ _ => rfl)) (pe_lst (pa_cons (pv 4) pa_nil))))
      (pss_cons (ps_if (pt_cmpR (op_neD hr.units) (pe_ix ix_tup (pv 6) pe_int (fun _ _ => rfl)) (pe_lst pa_nil) (nomark _)) (pss_one (ps_set (i := 7) sc_l_near.nd rfl (by first | exact Or.inl rfl | exact Or.inr rfl) (pe_slice sl_list (pe_ix ix_tup (pv 6) pe_int (fun _ _ => rfl)) (po_some pe_int) po_none))) pss_nil)
      (pss_one (ps_ret (pe_tup (pa_cons (pe_op op_cat (pe_op op_cat (pe_slice sl_list (pv 0) po_none (po_some (pv 3))) (pe_lst (pa_cons (pe_tup (pa_cons (pe_ix ix_tup (pv 6) pe_int (fun _ _ => rfl)) (pa_cons (pv 7) (pa_cons (pe_ix ix_tup (pv 6) pe_int (fun _ _ => rfl)) pa_nil)))) pa_nil))) (pe_slice sl_list (pv 0) (po_some (pe_op op_add (pv 3) pe_int)) po_none)) (pa_cons (pv 1) pa_nil))))))) pss_nil)
      (pss_cons (ps_if (pt_cmpR op_eq (pv 2) pe_int (nomark _)) (pss_cons (ps_set (i := 8) sc_l_near.nd rfl (by first | exact Or.inl rfl | exact Or.inr rfl) (pcall (ok_l_other_some c) (hr.mono (by decide)) (by rfl) (c.glo 47) pass0 (pa_cons (pv 5) (pa_cons (pe_ix ix_tup (pv 6) pe_int (fun _ _ => rfl)) pa_nil))))
      (pss_cons (ps_if (pt_cmpR op_isN1 (pv 8) pe_non (nomark _)) (pss_one (ps_ret pe_non)) pss_nil)
      (pss_one (ps_ret (pe_tup (pa_cons (pe_op op_cat (pe_op op_cat (pe_slice sl_list (pv 0) po_none (po_some (pv 3))) (pe_lst (pa_cons (pe_tup (pa_cons (pe_ix ix_tup (pv 6) pe_int (fun _ _ => rfl)) (pa_cons (pe_ix ix_tup (pv 6) pe_int (fun _ _ => rfl)) (pa_cons (pv 8) pa_nil)))) pa_nil))) (pe_slice sl_list (pv 0) (po_some (pe_op op_add (pv 3) pe_int)) po_none)) (pa_cons (pv 1) pa_nil))))))) pss_nil)
      (pss_cons (ps_if (pt_cmpR op_eq (pv 2) pe_int (nomark _)) (pss_cons (ps_set (i := 9) sc_l_near.nd rfl (by first | exact Or.inl rfl | exact Or.inr rfl) (pcall (ok_l_other_some c) (hr.mono (by decide)) (by rfl) (c.glo 47) pass0 (pa_cons (pv 5) (pa_cons (pv 1) pa_nil))))
      (pss_cons (ps_if (pt_cmpR op_isN1 (pv 9) pe_non (nomark _)) (pss_one (ps_ret pe_non)) pss_nil)
      (pss_one (ps_ret (pe_tup (pa_cons (pv 0) (pa_cons (pv 9) pa_nil))))))) pss_nil)
      (pss_cons (ps_if (pt_cmpR op_eq (pv 2) pe_int (nomark _)) (pss_cons (ps_set (i := 10) sc_l_near.nd rfl (by first | exact Or.inl rfl | exact Or.inr rfl) (pe_lst pa_nil))
      (pss_cons (ps_for PassesOwn.never rfl (pi_list (pv 0)) (pg_name (i := 11) sc_l_near.nd rfl (by first | exact Or.inl rfl | exact Or.inr rfl)) (pss_cons (ps_set (i := 12) sc_l_near.nd rfl (by first | exact Or.inl rfl | exact Or.inr rfl) (pe_ix ix_list (pcall (ok_l_renamed c) (hr.mono (by decide)) (by rfl) (c.glo 48) pass0 (pa_cons (pe_lst (pa_cons (pe_ix ix_tup (pv 11) pe_int (fun _ _ => rfl)) pa_nil)) (pa_cons (pe_ix ix_tup (pv 6) pe_int (fun _ _ => rfl)) (pa_cons (pv 4) pa_nil)))) pe_int (fun _ _ => rfl)))
      (pss_one (ps_expr (pe_bm PySem.F.plainAttrs_list PySem.F.slot_list_append PySem.F.type_list_append mt_append (pv 10) (pa_cons (pe_tup (pa_cons (pv 12) (pa_cons (pe_ix ix_tup (pv 11) pe_int (fun _ _ => rfl)) (pa_cons (pcall (ok_l_renamed c) (hr.mono (by decide)) (by rfl) (c.glo 48) pass0 (pa_cons (pe_ix ix_tup (pv 11) pe_int (fun _ _ => rfl)) (pa_cons (pe_ix ix_tup (pv 6) pe_int (fun _ _ => rfl)) (pa_cons (pv 4) pa_nil)))) pa_nil)))) pa_nil))))))
      (pss_one (ps_ret (pe_tup (pa_cons (pv 10) (pa_cons (pcall (ok_l_renamed c) (hr.mono (by decide)) (by rfl) (c.glo 48) pass0 (pa_cons (pv 1) (pa_cons (pe_ix ix_tup (pv 6) pe_int (fun _ _ => rfl)) (pa_cons (pv 4) pa_nil)))) pa_nil))))))) pss_nil)
      (pss_cons (ps_if (PW.pt (pw_and (pt_cmpR op_eq (pv 2) pe_int (nomark _)) (pw_and1 (pt_cmpR op_gt (pe_callB cl_len (by rfl) (c.free 0) (by decide +kernel) (pa_cons (pv 0) pa_nil)) pe_int (nomark _))))) (pss_one (ps_ret (pe_tup (pa_cons (pe_op op_cat (pe_slice sl_list (pv 0) (po_some pe_int) po_none) (pe_slice sl_list (pv 0) po_none (po_some pe_int))) (pa_cons (pv 1) pa_nil))))) pss_nil)
      (pss_cons (ps_if (PW.pt (pw_and (pt_cmpR op_eq (pv 2) pe_int (nomark _)) (pw_and1 (pt_cmpR op_lt (pe_callB cl_len (by rfl) (c.free 0) (by decide +kernel) (pa_cons (pv 0) pa_nil)) pe_int (nomark _))))) (pss_one (ps_ret (pe_tup (pa_cons (pe_op op_cat (pv 0) (pe_lst (pa_cons (pe_tup (pa_cons (pv 4) (pa_cons (pe_lst pa_nil) (pa_cons (pe_lst (pa_cons (pv 4) pa_nil)) pa_nil)))) pa_nil))) (pa_cons (pv 1) pa_nil))))) pss_nil)
      (pss_one (ps_ret pe_non))))))))))
theorem ok_l_near (c : FZ K mg) : FnX PP w K mg base CX0 2 ("_law_near", none) ["_law_sheets_here", "_law_starts", "_law_way", "_law_place", "_law_fresh"] (spOf K f_l_near) := by
  obtain ⟨fd, F⟩ := c.says.def_ 28 (d := d_l_near) rfl
  have F' : FunD K "_law_near" "_law_near" (defArgs s_l_near) (defBody s_l_near) (defScope s_l_near) [] [] (He.fAd K ("_law_near", none)) fd := F
  exact ⟨⟨fd, ok_l_near_fd c F', F'.bindsN fun _ _ _ _ _ _ us hl => match us, hl with | [_, _, _, _, _], _ => rfl⟩, F'.kp⟩
theorem ok_l_unlike_fd (c : FZ K mg) {fd : FuncData} (F' : FunD K "_law_unlike" "_law_unlike" (defArgs s_l_unlike) (defBody s_l_unlike) (defScope s_l_unlike) [] [] (He.fAd K ("_law_unlike", none)) fd) : FnOk PP w K mg base CX0 10 (He.fAd K ("_law_unlike", none)) fd ["_law_book", "_law_sheets_here", "_law_starts", "_law_place", "_law_fresh"] (spOf K f_l_unlike) := by
  refine F'.ok sc_l_unlike (fun vs H Q E h => fn_len0 h) (fun cdv A outer s H vs Q E hr h => ⟨t_l_unlike K, PSs.nox ?_, fn_pure0 (snd_l_unlike c) h⟩)
  exact (pss_cons (ps_for PassesOwn.never rfl (pi_range1 (by rfl) (c.free 5) (pa_cons pe_int pa_nil)) (pg_name (i := 5) sc_l_unlike.nd rfl (by first | exact Or.inl rfl | exact Or.inr rfl)) (pss_cons (ps_set (i := 6) sc_l_unlike.nd rfl (by first | exact Or.inl rfl | exact Or.inr rfl) (pcall (ok_l_near c) (hr.mono (by decide)) (by rfl) (c.glo 49) pass0 (pa_cons (pv 1) (pa_cons (pv 2) (pa_cons (pv 5) (pa_cons (pv 3) (pa_cons (pv 4) pa_nil)))))))
      (pss_one (ps_if (pt_cmpR op_notN1 (pv 6) pe_non (nomark _)) (pss_cons (ps_set (i := 7) sc_l_unlike.nd rfl (by first | exact Or.inl rfl | exact Or.inr rfl) (pmakeX (c.mkr 51) (ok_Book___init__ c) (hr.mono (by decide)) (by rfl) (c.glo 46) takes0 (pa_cons (pcall (ok_l_handed c) (hr.mono (by decide)) (by rfl) (c.glo 50) pass0 (pa_cons (pe_ix ix_tup (pv 6) pe_int (fun _ _ => rfl)) pa_nil)) (pa_cons (pe_callTy cl_list (by rfl) (c.free 7) (by decide +kernel) (pa_cons (pe_ix ix_tup (pv 6) pe_int (fun _ _ => rfl)) pa_nil)) pa_nil))))
      (pss_cons (ps_if (pt_not (pt_val (pcall (ok_l_shows c) (hr.mono (by decide)) (by rfl) (c.glo 52) pass0 (pa_cons (pv 7) (pa_cons (pe_ix ix_tup (pv 6) pe_int (fun _ _ => rfl)) (pa_cons (pe_ix ix_tup (pv 6) pe_int (fun _ _ => rfl)) pa_nil)))))) (pss_one (ps_ret pe_bl)) pss_nil)
      (pss_one (ps_if (PW.pt (pw_or (pt_not (pt_val (pcall (ok_l_same c) (hr.mono (by decide)) (by rfl) (c.glo 34) pass0 (pa_cons (pe_cmpR (op_ownEq (c.meth 53) (ok_Book___eq__ c) (hr.mono (by decide))) (pv 0) (pv 7) (nomark _)) (pa_cons pe_bl pa_nil))))) (pw_or1 (pt_not (pt_val (pcall (ok_l_same c) (hr.mono (by decide)) (by rfl) (c.glo 34) pass0 (pa_cons (pe_cmpR (op_ownEq (c.meth 53) (ok_Book___eq__ c) (hr.mono (by decide))) (pv 7) (pv 0) (nomark _)) (pa_cons pe_bl pa_nil)))))))) (pss_one (ps_ret pe_bl)) pss_nil)))) pss_nil))))
      (pss_one (ps_ret pe_bl)))
theorem ok_l_unlike (c : FZ K mg) : FnX PP w K mg base CX0 10 ("_law_unlike", none) ["_law_book", "_law_sheets_here", "_law_starts", "_law_place", "_law_fresh"] (spOf K f_l_unlike) := by
  obtain ⟨fd, F⟩ := c.says.def_ 29 (d := d_l_unlike) rfl
  have F' : FunD K "_law_unlike" "_law_unlike" (defArgs s_l_unlike) (defBody s_l_unlike) (defScope s_l_unlike) [] [] (He.fAd K ("_law_unlike", none)) fd := F
  exact ⟨⟨fd, ok_l_unlike_fd c F', F'.bindsN fun _ _ _ _ _ _ us hl => match us, hl with | [_, _, _, _, _], _ => rfl⟩, F'.kp⟩
theorem ok_law_fd (c : FZ K mg) {fd : FuncData} (F' : FunD K "law" "law" (defArgs s_law) (defBody s_law) (defScope s_law) [] [] (He.fAd K ("law", none)) fd) : FnOk PP w K mg base CX0 11 (He.fAd K ("law", none)) fd ["_law_script"] (spOf K f_law) := by
  refine F'.ok sc_law (fun vs H Q E h => fn_len0 h) (fun cdv A outer s H vs Q E hr h => ⟨t_law K, PSs.nox ?_, fn_pure0 (snd_law c) h⟩)
  exact (pss_cons (ps_set (i := 1) sc_law.nd rfl (by first | exact Or.inl rfl | exact Or.inr rfl) (pcall (ok_l_pool c) (hr.mono (by decide)) (by rfl) (c.glo 54) pass0 (pa_cons (pv 0) (pa_cons pe_int pa_nil))))
      (pss_cons (ps_set (i := 2) sc_law.nd rfl (by first | exact Or.inl rfl | exact Or.inr rfl) (pcall (ok_l_sheets c) (hr.mono (by decide)) (by rfl) (c.glo 55) pass0 (pa_cons (pv 1) pa_nil)))
      (pss_cons (ps_set (i := 3) sc_law.nd rfl (by first | exact Or.inl rfl | exact Or.inr rfl) (pe_ix ix_tup (pv 2) pe_int (fun _ _ => rfl)))
      (pss_cons (ps_set (i := 4) sc_law.nd rfl (by first | exact Or.inl rfl | exact Or.inr rfl) (pe_ix ix_tup (pv 2) pe_int (fun _ _ => rfl)))
      (pss_cons (ps_setLc (i := 5) (own := [("_law_sheet", 16)]) (g := (gName 16)) (tt := tYes) rfl sc_law.nd rfl rfl (sw_true rfl rfl rfl (by decide +kernel)) (pi_list (pv 3)) (blkOk_by (own := [("_law_sheet", 16)]) (N := N_law) (sc := defScope s_law) (by decide +kernel)) (fun _ _ _ _ _ => (pg_name (i := 16) sc_law.nd rfl (by first | exact Or.inl rfl | exact Or.inr rfl))) (fun _ _ _ _ _ => pts_nil) (fun _ _ _ _ _ => (pe_ix ix_tup (pv 16) pe_int (fun _ _ => rfl))))
      (pss_cons (ps_set (i := 1) sc_law.nd rfl (by first | exact Or.inl rfl | exact Or.inr rfl) (pcall (ok_l_pool c) (hr.mono (by decide)) (by rfl) (c.glo 54) pass0 (pa_cons (pv 0) (pa_cons pe_int pa_nil))))
      (pss_cons (ps_set (i := 6) sc_law.nd rfl (by first | exact Or.inl rfl | exact Or.inr rfl) (pcall (ok_l_take c) (hr.mono (by decide)) (by rfl) (c.glo 4) pass0 (pa_cons (pv 1) (pa_cons (pe_callB cl_len (by rfl) (c.free 0) (by decide +kernel) (pa_cons (pv 5) pa_nil)) pa_nil))))
      (pss_cons (ps_set (i := 7) sc_law.nd rfl (by first | exact Or.inl rfl | exact Or.inr rfl) (pcall (ok_l_word c) (hr.mono (by decide)) (by rfl) (c.glo 6) pass0 (pa_cons (pv 1) (pa_cons (pe_op op_cat (pv 5) (pe_ix ix_tup (pv 2) pe_int (fun _ _ => rfl))) pa_nil))))
      (pss_cons (ps_set (i := 8) sc_law.nd rfl (by first | exact Or.inl rfl | exact Or.inr rfl) (pcall (ok_l_handed c) (hr.mono (by decide)) (by rfl) (c.glo 50) pass0 (pa_cons (pv 3) pa_nil)))
      (pss_cons (ps_set (i := 9) sc_law.nd rfl (by first | exact Or.inl rfl | exact Or.inr rfl) (pe_callTy cl_list (by rfl) (c.free 7) (by decide +kernel) (pa_cons (pv 4) pa_nil)))
      (pss_cons (ps_set (i := 10) sc_law.nd rfl (by first | exact Or.inl rfl | exact Or.inr rfl) (pmakeX (c.mkr 51) (ok_Book___init__ c) (hr.mono (by decide)) (by rfl) (c.glo 46) takes0 (pa_cons (pv 8) (pa_cons (pv 9) pa_nil))))
      (pss_cons (ps_if (pt_not (pt_val (pcall (ok_l_shows c) (hr.mono (by decide)) (by rfl) (c.glo 52) pass0 (pa_cons (pv 10) (pa_cons (pv 3) (pa_cons (pv 4) pa_nil)))))) (pss_one (ps_ret pe_bl)) pss_nil)
      (pss_cons (ps_for PassesOwn.never rfl (pi_list (pe_lst (pa_cons (pe_un un_neg pe_int) (pa_cons (pe_op op_sub (pe_un un_neg pe_int) (pcall (ok_l_take c) (hr.mono (by decide)) (by rfl) (c.glo 4) pass0 (pa_cons (pv 1) (pa_cons (pe_op op_pow pe_int pe_int) pa_nil)))) (pa_cons (pe_callB cl_len (by rfl) (c.free 0) (by decide +kernel) (pa_cons (pv 5) pa_nil)) (pa_cons (pe_op op_add (pe_callB cl_len (by rfl) (c.free 0) (by decide +kernel) (pa_cons (pv 5) pa_nil)) (pcall (ok_l_take c) (hr.mono (by decide)) (by rfl) (c.glo 4) pass0 (pa_cons (pv 1) (pa_cons (pe_op op_sub (pe_op op_pow pe_int pe_int) pe_int) pa_nil)))) pa_nil)))))) (pg_name (i := 11) sc_law.nd rfl (by first | exact Or.inl rfl | exact Or.inr rfl)) (pss_one (ps_if (PW.pt (pw_or (pt_not (pt_val (pcall (ok_l_refuses_page c) (hr.mono (by decide)) (by rfl) (c.glo 56) pass0 (pa_cons (pv 10) (pa_cons pe_int (pa_cons (pv 11) pa_nil)))))) (pw_or1 (pt_not (pt_val (pcall (ok_l_refuses_page c) (hr.mono (by decide)) (by rfl) (c.glo 56) pass0 (pa_cons (pv 10) (pa_cons pe_int (pa_cons (pv 11) pa_nil))))))))) (pss_one (ps_ret pe_bl)) pss_nil)))
      (pss_cons (ps_for PassesOwn.never rfl (pi_list (pe_op op_cat (pe_lst (pa_cons (pv 7) (pa_cons pe_str (pa_cons (pe_op op_add_str (pe_ix ix_list (pv 5) pe_int (fun _ _ => rfl)) pe_str) (pa_cons (pe_op op_add_str (pe_ix ix_list (pv 5) (pv 6) (fun _ _ => rfl)) (pe_ix ix_list (pv 5) (pv 6) (fun _ _ => rfl))) (pa_cons (pe_slice sl_str (pe_ix ix_list (pv 5) (pv 6) (fun _ _ => rfl)) (po_some pe_int) po_none) pa_nil)))))) (pe_ix ix_tup (pv 2) pe_int (fun _ _ => rfl)))) (pg_name (i := 12) sc_law.nd rfl (by first | exact Or.inl rfl | exact Or.inr rfl)) (pss_one (ps_if (PW.pt (pw_and (pt_cmpR op_notIn_seq (pv 12) (pv 5) (by rfl)) (pw_and1 (pt_not (pt_val (pcall (ok_l_refuses_name c) (hr.mono (by decide)) (by rfl) (c.glo 57) pass0 (pa_cons (pv 10) (pa_cons (pv 12) pa_nil)))))))) (pss_one (ps_ret pe_bl)) pss_nil)))
      (pss_cons (ps_if (PW.pt (pw_or (pt_not (pt_val (pcall (ok_l_same c) (hr.mono (by decide)) (by rfl) (c.glo 34) pass0 (pa_cons (pv 8) (pa_cons (pv 3) pa_nil))))) (pw_or1 (pt_not (pt_val (pcall (ok_l_same c) (hr.mono (by decide)) (by rfl) (c.glo 34) pass0 (pa_cons (pv 9) (pa_cons (pv 4) pa_nil)))))))) (pss_one (ps_ret pe_bl)) pss_nil)
      (pss_cons (ps_set (i := 13) sc_law.nd rfl (by first | exact Or.inl rfl | exact Or.inr rfl) (pe_ix ix_tup (pe_ix ix_list (pv 8) (pv 6) (fun _ _ => rfl)) pe_int (fun _ _ => rfl)))
      (pss_cons (ps_expr (pe_bm PySem.F.plainAttrs_list PySem.F.slot_list_insert PySem.F.type_list_insert mt_insE (pv 13) (pa_cons pe_int (pa_cons (pv 7) pa_nil))))
      (pss_cons (ps_set (i := 13) sc_law.nd rfl (by first | exact Or.inl rfl | exact Or.inr rfl) (pe_ix ix_tup (pe_ix ix_list (pv 8) (pv 6) (fun _ _ => rfl)) pe_int (fun _ _ => rfl)))
      (pss_cons (ps_expr (pe_bm PySem.F.plainAttrs_list PySem.F.slot_list_append PySem.F.type_list_append mt_append (pv 13) (pa_cons (pv 7) pa_nil)))
      (pss_cons (ps_expr (pe_bm PySem.F.plainAttrs_list PySem.F.slot_list_append PySem.F.type_list_append mt_append (pv 8) (pa_cons (pe_tup (pa_cons (pv 7) (pa_cons (pe_lst pa_nil) (pa_cons (pe_lst (pa_cons (pv 7) pa_nil)) pa_nil)))) pa_nil)))
      (pss_cons (ps_expr (pe_bm PySem.F.plainAttrs_list PySem.F.slot_list_append PySem.F.type_list_append mt_append (pv 9) (pa_cons (pv 7) pa_nil)))
      (pss_cons (ps_if (PW.pt (pw_or (pt_not (pt_val (pcall (ok_l_shows c) (hr.mono (by decide)) (by rfl) (c.glo 52) pass0 (pa_cons (pv 10) (pa_cons (pv 3) (pa_cons (pv 4) pa_nil)))))) (pw_or1 (pt_not (pt_val (pcall (ok_l_unlike c) (hr.mono (by decide)) (by rfl) (c.glo 58) pass0 (pa_cons (pv 10) (pa_cons (pv 3) (pa_cons (pv 4) (pa_cons (pv 6) (pa_cons (pv 7) pa_nil))))))))))) (pss_one (ps_ret pe_bl)) pss_nil)
      (pss_cons (ps_setLc (i := 14) (own := [("_law_sheet", 16)]) (g := (gName 16)) (tt := tYes) rfl sc_law.nd rfl rfl (sw_true rfl rfl rfl (by decide +kernel)) (pi_list (pv 3)) (blkOk_by (own := [("_law_sheet", 16)]) (N := N_law) (sc := defScope s_law) (by decide +kernel)) (fun _ _ _ _ _ => (pg_name (i := 16) sc_law.nd rfl (by first | exact Or.inl rfl | exact Or.inr rfl))) (fun _ _ _ _ _ => pts_nil) (fun _ _ _ _ _ => (pe_tup (pa_cons (pe_ix ix_tup (pv 16) pe_int (fun _ _ => rfl)) (pa_cons (pe_callTy cl_list (by rfl) (c.free 7) (by decide +kernel) (pa_cons (pe_ix ix_tup (pv 16) pe_int (fun _ _ => rfl)) pa_nil)) (pa_cons (pe_revL (pe_ix ix_tup (pv 16) pe_int (fun _ _ => rfl))) pa_nil))))))
      (pss_cons (ps_set (i := 15) sc_law.nd rfl (by first | exact Or.inl rfl | exact Or.inr rfl) (pmakeX (c.mkr 51) (ok_Book___init__ c) (hr.mono (by decide)) (by rfl) (c.glo 46) takes0 (pa_cons (pv 14) (pa_cons (pe_revL (pv 4)) pa_nil))))
      (pss_one (ps_ret (pe_and (pcall (ok_l_same c) (hr.mono (by decide)) (by rfl) (c.glo 34) pass0 (pa_cons (pe_cmpR (op_ownEq (c.meth 53) (ok_Book___eq__ c) (hr.mono (by decide))) (pv 10) (pv 15) (nomark _)) (pa_cons pe_bl pa_nil))) (pe_and (pcall (ok_l_same c) (hr.mono (by decide)) (by rfl) (c.glo 34) pass0 (pa_cons (pe_cmpR (op_ownEq (c.meth 53) (ok_Book___eq__ c) (hr.mono (by decide))) (pv 15) (pv 10) (nomark _)) (pa_cons pe_bl pa_nil))) (pe_one (pcall (ok_l_shows c) (hr.mono (by decide)) (by rfl) (c.glo 52) pass0 (pa_cons (pv 15) (pa_cons (pv 3) (pa_cons (pv 4) pa_nil)))))))))))))))))))))))))))))))))
end
end Cl
/-! ## EndB2 -/
open PySem PySem.W PySem.Calls PyProof.Rows in
set_option maxRecDepth 100000 in
set_option maxHeartbeats 0 in
theorem PySem.Challenge.cw_depotday_k05_book_parts_holds : PySem.Challenge.rw_depotday_k05_book_parts.Holds := by
  w_on; o_law
  refine HandSHeadRun.head_any (r := OpenLaw.row PySem.Challenge.rw_depotday_k05_book_parts) (q := view (OpenLaw.row PySem.Challenge.rw_depotday_k05_book_parts).prog [36]) (H := Cl.HeadE.hk) (ob := Cl.HeadE.ob) (M := 60000) (loose := Cl.HeadE.names) (d := HandSHeadRun.topDef (OpenLaw.row PySem.Challenge.rw_depotday_k05_book_parts).prog 36) (kwd := []) Cl.HeadE.ob_eq
    (by kernel_rfl) (fun s => by kernel_rfl) Cl.HeadE.run (by kernel_rfl) (by kernel_rfl) (by kernel_rfl) (by rfl) (by first | assumption | decide +kernel) (by decide +kernel) ⟨rfl, rfl, rfl, rfl, rfl, by decide +kernel⟩ ?hw ?hc
  case hw => w_witness2
  case hc =>
    refine L2.walk_ofE (l := PySem.Challenge.rw_depotday_k05_book_parts) (n := 63) (k := 11) (x := "_law_script") (CX := L2.CX0) rfl (by decide) (by kernel_rfl) ⟨rfl, by decide, by decide⟩ ?F (fun _ _ _ _ z => z)
    intro w mg fa h Y G hmg0
    obtain ⟨K, KX, says⟩ := Y
    have hmg : mg ("law" : PySem.Str) = some (.ref fa) := by
      have e : (HandSHeadRun.topDef (OpenLaw.row PySem.Challenge.rw_depotday_k05_book_parts).prog 36).name = ("law" : PySem.Str) := by kernel_rfl
      rw [← e]
      exact hmg0
    have c : Cl.FZ K mg := Cl.Fz.mk' KX G says
    have ef := hmg.symm.trans (c.glo 59)
    cases ef
    obtain ⟨fd, F⟩ := c.says.def_ 30 (d := Cl.HeadE.d_law) rfl
    have hb := L2.FunD.bindsA (ps := ["_law_script"]) F fun _ _ _ _ _ _ us hl => match us, hl with | [_], _ => rfl
    refine ⟨K, fd, Cl.spOf K Cl.f_law, KX, fun s v => hb s [v] rfl, fun H a ns hl _ hS => ?_, fun base _ _ => ?_⟩
    · obtain ⟨S, e⟩ := Cl.law_good ns hl
      exact Cl.law_start hS e
    · exact Cl.ok_law_fd c F
